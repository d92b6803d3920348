/- What layer 11 leans on of layer 2 (lands), in plain words. No conditions. -/
import Derived.Test.YtbdijpjlgokfkaaPx0
import Derived.Test.YtbdijpjlgokfkaaPx6
import Derived.Test.YtbdijpjlgokfkaaPx7
import Derived.Test.YtbdijpjlgokfkaaPx9
import Derived.Test.YtbdijpjlgokfkaaEvKit
import Derived.Test.YtbdijpjlgokfkaaVOpen
namespace Go.Proofs.Ytbdijpjlgokfkaa.Pure.L
set_option linter.unusedVariables false
set_option linter.unusedSimpArgs false
open Go.RowKit Go.Proofs.YtbdijpjlgokfkaaW.PrintWords Go.Proofs.Ytbdijpjlgokfkaa.P Go.Proofs.Ytbdijpjlgokfkaa
theorem rdN (l:List Int) (i:Nat):rd l (i:Int)=l.getD i 0:=by unfold rd;simp
theorem not_all {p:Nat→Prop} {n:Nat} (h:¬ ∀ j,0≤j→j<n→p j):∃ j,0≤j∧j<n∧¬ p j:=by
 apply Classical.byContradiction
 intro hc
 exact h fun j h1 h2=>Classical.byContradiction fun h3=>hc ⟨j,h1,h2,h3⟩
def near (a b:Int):Prop:=a - b≤1∧b - a≤1
instance (a b:Int):Decidable (near a b):=inferInstanceAs (Decidable (_∧_))
theorem near_symm {a b:Int} (h:near a b):near b a:=⟨h.2,h.1⟩
def z (C:List Int) (j:Nat):Int:=C.getD j 0
def ZAt (C:List Int) (j:Nat):Prop:=0≤z C j∧z C j≤15
def Zs (C:List Int):Prop:=∀ j,0≤j→j<C.length→ZAt C j
def LShape (W H:Int) (C:List Int):Prop:=(4≤W∧W≤32)∧(4≤H∧H≤32)∧(C.length:Int)=(W+1) * (H+1)
def PQ (C:List Int) (w h y x:Nat):Prop:=(x<w→near (z C (y * (w+1)+x)) (z C (y * (w+1)+x+1)))∧(y<h→near (z C (y * (w+1)+x)) (z C ((y+1) * (w+1)+x)))
def Flat (C:List Int) (w h:Nat):Prop:=∀ y,y≤h→∀ x,x≤w→PQ C w h y x
open Classical in
noncomputable def lcode (W H:Int) (C:List Int):Int:=if LShape W H C then (if Zs C then (if Flat C W.toNat H.toNat then 0 else 5) else 1) else 1
theorem lcode_zero {W H:Int} {C:List Int}:lcode W H C=0↔LShape W H C∧Zs C∧Flat C W.toNat H.toNat:=by
 unfold lcode
 by_cases h1:LShape W H C
 ·by_cases h2:Zs C
  ·by_cases h3:Flat C W.toNat H.toNat
   ·simp [h1,h2,h3]
   ·simp [h1,h2,h3]
  ·simp [h1,h2]
 ·simp [h1]
theorem apart_eq {a b:Int} (ha:0≤a∧a≤15) (hb:0≤b∧b≤15):land_apart.f a b=some (decide (¬ near a b)):=by
 unfold land_apart.f near
 rw [wrap_in (x:=a - b) (by omega) (by omega),wrap_in (x:=b - a) (by omega) (by omega)]
 by_cases h:a - b > 1
 ·rw [if_pos h,decide_eq_true (by omega)]
 ·rw [if_neg h];congr 1;apply decide_eq_decide.2;omega
theorem mulle {a b m n:Nat} (h1:a≤m) (h2:b≤n):a * b≤m * n:=Nat.mul_le_mul h1 h2
theorem mulw (y w:Nat) (hy:y≤40) (hw:w≤40):wrap64 ((y:Int) * wrap64 ((w:Int)+1))=((y * (w+1):Nat):Int):=by
 have h:y * (w+1)≤40 * 41:=mulle hy (by omega)
 have e:(y:Int) * ((w:Int)+1)=((y * (w+1):Nat):Int):=by push_cast;rfl
 rw [wrap_in (x:=(w:Int)+1) (by omega) (by omega),e,wrap_in (by omega) (by omega)]
theorem idxw (y w x:Nat) (hy:y≤40) (hw:w≤40) (hx:x≤40):wrap64 (wrap64 ((y:Int) * wrap64 ((w:Int)+1))+(x:Int))=((y * (w+1)+x:Nat):Int):=by
 have h:y * (w+1)≤40 * 41:=mulle hy (by omega)
 rw [mulw y w hy hw,wrap_in (by omega) (by omega)];omega
theorem sucw (n:Nat) (h:n≤100000):wrap64 ((n:Int)+1)=((n+1:Nat):Int):=by rw [wrap_in (by omega) (by omega)];omega
section
variable {w h:Nat} {C:List Int}
open Classical in
theorem land_scan (hw:w≤32) (hh:h≤32) (hl:C.length=(w+1) * (h+1)) (hz:Zs C):Ev (fun k=>land_Validate.l1 k 0 (w:Int) (h:Int) C) (if (∀ y,0≤y→y<h+1→∀ x,0≤x→x<w+1→PQ C w h y x) then 0 else 5):=by
 have zr:∀ j,j<C.length→0≤C.getD j 0∧C.getD j 0≤15:=fun j hj=>hz j (Nat.zero_le _) hj
 have len:∀ y x,y≤h→x≤w→y * (w+1)+x<C.length:=by
  intro y x hy hx
  have:=mulle hy (Nat.le_refl (w+1))
  have e:(w+1) * (h+1)=h * (w+1)+(w+1):=by rw [Nat.mul_comm,Nat.succ_mul]
  omega
 have good:∀ y,y≤h→∀ x,x<w+1→PQ C w h y x→∀ r,Ev (fun k=>land_Validate.l2 k (y:Int) ((x:Int)+1) (w:Int) (h:Int) C) r→Ev (fun k=>land_Validate.l2 k (y:Int) (x:Int) (w:Int) (h:Int) C) r:=by
  intro y hy x hx ⟨p1,p2⟩ r hr
  have hlen:=len y x hy (by omega)
  refine Ev.step (fun k=>by simp only [land_Validate.l2];rfl) ?_
  simp only [idxw y w x (by omega) (by omega) (by omega),sucw y (by omega),idxw (y+1) w x (by omega) (by omega) (by omega),sucw x (by omega)]
  have hb:y * (w+1)+x≤100000:=by have:=mulle (show y≤40 by omega) (show w+1≤40 by omega);omega
  simp only [sucw (y * (w+1)+x) hb,rdN]
  have hr':Ev (fun k=>land_Validate.l2 k (y:Int) ((x+1:Nat):Int) (w:Int) (h:Int) C) r:=by simpa using hr
  refine Ev.pos (by omega) (Ev.pos (by omega) (Ev.pos (by omega) ?_))
  by_cases hxw:x<w
  ·have hl2:=len y (x+1) hy (by omega)
   refine Ev.pos (by omega) (Ev.pos (by omega) (Ev.pos (by omega) ?_))
   refine Ev.bindc (apart_eq (zr _ hlen) (zr _ (by omega))) (Ev.neg (by rw [decide_eq_true_eq];exact fun hc=>hc (p1 hxw)) ?_)
   by_cases hyh:y<h
   ·have hl3:=len (y+1) x (by omega) (by omega)
    exact Ev.pos (by omega) (Ev.pos (by omega) (Ev.pos (by omega) (Ev.bindc (apart_eq (zr _ hlen) (zr _ hl3)) (Ev.neg (by rw [decide_eq_true_eq];exact fun hc=>hc (p2 hyh)) hr'))))
   ·exact Ev.neg (by omega) hr'
  ·refine Ev.neg (by omega) ?_
   by_cases hyh:y<h
   ·have hl3:=len (y+1) x (by omega) (by omega)
    exact Ev.pos (by omega) (Ev.pos (by omega) (Ev.pos (by omega) (Ev.bindc (apart_eq (zr _ hlen) (zr _ hl3)) (Ev.neg (by rw [decide_eq_true_eq];exact fun hc=>hc (p2 hyh)) hr'))))
   ·exact Ev.neg (by omega) hr'
 have bad:∀ y,y≤h→∀ x,x<w+1→¬ PQ C w h y x→Ev (fun k=>land_Validate.l2 k (y:Int) (x:Int) (w:Int) (h:Int) C) 5:=by
  intro y hy x hx hp
  have hlen:=len y x hy (by omega)
  refine Ev.step (fun k=>by simp only [land_Validate.l2];rfl) ?_
  simp only [idxw y w x (by omega) (by omega) (by omega),sucw y (by omega),idxw (y+1) w x (by omega) (by omega) (by omega),sucw x (by omega)]
  have hb:y * (w+1)+x≤100000:=by have:=mulle (show y≤40 by omega) (show w+1≤40 by omega);omega
  simp only [sucw (y * (w+1)+x) hb,rdN]
  refine Ev.pos (by omega) (Ev.pos (by omega) (Ev.pos (by omega) ?_))
  have dn:¬ (y<h→near (z C (y * (w+1)+x)) (z C ((y+1) * (w+1)+x)))→∀ {r:Nat→Option Int},Ev (fun k=>if (y:Int)<(h:Int) then (if 0≤(((y+1) * (w+1)+x:Nat):Int) then (if (((y+1) * (w+1)+x:Nat):Int)<(C.length:Int) then ((land_apart.f (C.getD (y * (w+1)+x) 0) (C.getD ((y+1) * (w+1)+x) 0)).bind fun t=>if t=true then some 5 else r k) else none) else none) else r k) 5:=by
   intro hc r
   have hyh:y<h:=Classical.byContradiction fun hn=>hc fun h1=>absurd h1 hn
   have hl3:=len (y+1) x (by omega) (by omega)
   exact Ev.pos (by omega) (Ev.pos (by omega) (Ev.pos (by omega) (Ev.bindc (apart_eq (zr _ hlen) (zr _ hl3)) (Ev.pos (by rw [decide_eq_true_eq];exact fun hn=>hc fun _=>hn) (Ev.now _)))))
  by_cases hxw:x<w
  ·have hl2:=len y (x+1) hy (by omega)
   refine Ev.pos (by omega) (Ev.pos (by omega) (Ev.pos (by omega) ?_))
   refine Ev.bindc (apart_eq (zr _ hlen) (zr _ (by omega))) ?_
   by_cases hn:near (C.getD (y * (w+1)+x) 0) (C.getD (y * (w+1)+x+1) 0)
   ·refine Ev.neg (by rw [decide_eq_true_eq];exact fun hc=>hc hn) (dn fun hc=>hp ⟨fun _=>hn,hc⟩)
   ·exact Ev.pos (by rw [decide_eq_true_eq];exact hn) (Ev.now _)
  ·exact Ev.neg (by omega) (dn fun hc=>hp ⟨fun h1=>absurd h1 hxw,hc⟩)
 have rowend:∀ y,y≤h→∀ r,Ev (fun k=>land_Validate.l1 k ((y:Int)+1) (w:Int) (h:Int) C) r→Ev (fun k=>land_Validate.l2 k (y:Int) ((w+1:Nat):Int) (w:Int) (h:Int) C) r:=by
  intro y hy r hr
  refine Ev.step (fun k=>by simp only [land_Validate.l2];rfl) ?_
  rw [sucw y (by omega)]
  exact Ev.neg (by omega) (by simpa using hr)
 have rowgood:∀ y,y<h+1→(∀ x,0≤x→x<w+1→PQ C w h y x)→∀ r,Ev (fun k=>land_Validate.l1 k ((y:Int)+1) (w:Int) (h:Int) C) r→Ev (fun k=>land_Validate.l1 k (y:Int) (w:Int) (h:Int) C) r:=by
  intro y hy hp r hr
  refine Ev.step (fun k=>by simp only [land_Validate.l1];rfl) (Ev.pos (by omega) ?_)
  exact Ev.scan_all (g:=fun k i=>land_Validate.l2 k (y:Int) i (w:Int) (h:Int) C) (rowend y (by omega) r hr) (good y (by omega)) (w+1) 0 (by omega) hp
 have rowbad:∀ y,y<h+1→¬ (∀ x,0≤x→x<w+1→PQ C w h y x)→Ev (fun k=>land_Validate.l1 k (y:Int) (w:Int) (h:Int) C) 5:=by
  intro y hy hp
  refine Ev.step (fun k=>by simp only [land_Validate.l1];rfl) (Ev.pos (by omega) ?_)
  exact Ev.scan_some (g:=fun k i=>land_Validate.l2 k (y:Int) i (w:Int) (h:Int) C) (good y (by omega)) (bad y (by omega)) (w+1) 0 (by omega) (not_all hp)
 have fin:Ev (fun k=>land_Validate.l1 k ((h+1:Nat):Int) (w:Int) (h:Int) C) 0:=Ev.step (fun k=>by simp only [land_Validate.l1];rfl) (Ev.neg (by omega) (Ev.now _))
 by_cases g:∀ y,0≤y→y<h+1→∀ x,0≤x→x<w+1→PQ C w h y x
 ·rw [if_pos g]
  exact Ev.scan_all (g:=fun k i=>land_Validate.l1 k i (w:Int) (h:Int) C) (p:=fun y=>∀ x,0≤x→x<w+1→PQ C w h y x) fin rowgood (h+1) 0 (by omega) g
 ·rw [if_neg g]
  exact Ev.scan_some (g:=fun k i=>land_Validate.l1 k i (w:Int) (h:Int) C) (p:=fun y=>∀ x,0≤x→x<w+1→PQ C w h y x) rowgood rowbad (h+1) 0 (by omega) (not_all g)
end
theorem area_nat {n w h:Nat} (e:(n:Int)=((w:Int)+1) * ((h:Int)+1)):n=(w+1) * (h+1):=by
 have h2:(w:Int)+1=((w+1:Nat):Int):=by omega
 have h3:(h:Int)+1=((h+1:Nat):Int):=by omega
 rw [h2,h3,← Int.natCast_mul] at e
 omega
theorem flat_iff {w h:Nat} {C:List Int}:Flat C w h↔∀ y,0≤y→y<h+1→∀ x,0≤x→x<w+1→PQ C w h y x :=
 ⟨fun f y _ hy x _ hx=>f y (by omega) x (by omega),fun f y hy x hx=>f y (Nat.zero_le _) (by omega) x (Nat.zero_le _) (by omega)⟩
theorem land_ev {W H:Int} {C:List Int} (hl:C.length≤4000):Ev (fun k=>land_Validate.f k W H C) (lcode W H C):=by
 unfold land_Validate.f
 have bad:¬ LShape W H C→∀ q,q=true→Ev (fun k=>land_Validate.j0 k q W H C) (lcode W H C):=by
  intro h q hq
  refine Ev.eq (Ev.step (fun k=>by simp only [land_Validate.j0];rfl) (Ev.pos hq (Ev.now _))) (if_neg h).symm
 by_cases w0:W<4
 ·exact Ev.pos w0 (bad (fun h=>by have:=h.1;omega) _ rfl)
 refine Ev.neg w0 ?_
 by_cases w1:W > 32
 ·exact Ev.pos w1 (bad (fun h=>by have:=h.1;omega) _ rfl)
 refine Ev.neg w1 ?_
 by_cases h0:H<4
 ·exact Ev.pos h0 (bad (fun h=>by have:=h.2.1;omega) _ rfl)
 refine Ev.neg h0 ?_
 by_cases h1:H > 32
 ·exact Ev.pos h1 (bad (fun h=>by have:=h.2.1;omega) _ rfl)
 refine Ev.neg h1 ?_
 obtain ⟨w,rfl⟩:=Int.eq_ofNat_of_zero_le (show 0≤W by omega)
 obtain ⟨h,rfl⟩:=Int.eq_ofNat_of_zero_le (show 0≤H by omega)
 have hm:(w+1) * (h+1)≤40 * 40:=mulle (by omega) (by omega)
 have e:wrap64 (wrap64 ((w:Int)+1) * wrap64 ((h:Int)+1))=(((w+1) * (h+1):Nat):Int):=by
  rw [sucw w (by omega),sucw h (by omega),← Int.natCast_mul,wrap_in (by omega) (by omega)]
 rw [e]
 by_cases l1:C.length=(w+1) * (h+1)
 rotate_left
 ·exact bad (fun hs=>l1 (area_nat hs.2.2)) _ (bne_iff_ne.2 (by omega))
 have hs:LShape (w:Int) (h:Int) C:=⟨⟨by omega,by omega⟩,⟨by omega,by omega⟩,by rw [l1];push_cast;rfl⟩
 rw [show ((C.length:Int) != (((w+1) * (h+1):Nat):Int))=false from bne_eq_false_iff_eq.2 (by omega)]
 refine Ev.eq ?_ (if_pos hs).symm
 refine Ev.step (fun k=>by simp only [land_Validate.j0];rfl) (Ev.neg (by simp) ?_)
 have good1:∀ i,i<C.length→ZAt C i→∀ r,Ev (fun k=>land_Validate.l0 k C (C.length:Int) ((i:Int)+1) (w:Int) (h:Int) C) r→Ev (fun k=>land_Validate.l0 k C (C.length:Int) (i:Int) (w:Int) (h:Int) C) r:=by
  intro i hi p r hr
  unfold ZAt z at p
  refine Ev.step (fun k=>by simp only [land_Validate.l0];rfl) ?_
  rw [rdN,wrap_in (x:=(i:Int)+1) (by omega) (by omega)]
  exact Ev.pos (by omega) (Ev.pos (by omega) (Ev.pos (by omega) (Ev.neg (by omega) (Ev.neg (by omega) hr))))
 have bad1:∀ i,i<C.length→¬ ZAt C i→Ev (fun k=>land_Validate.l0 k C (C.length:Int) (i:Int) (w:Int) (h:Int) C) 1:=by
  intro i hi p
  unfold ZAt z at p
  refine Ev.step (fun k=>by simp only [land_Validate.l0];rfl) ?_
  rw [rdN]
  refine Ev.pos (by omega) (Ev.pos (by omega) (Ev.pos (by omega) ?_))
  by_cases q1:C.getD i 0<0
  ·exact Ev.pos q1 (Ev.now _)
  exact Ev.neg q1 (Ev.pos (by omega) (Ev.now _))
 by_cases g1:Zs C
 ·refine Ev.eq ?_ (if_pos g1).symm
  have fin:=land_scan (w:=w) (h:=h) (by omega) (by omega) l1 g1
  refine Ev.scan_all (g:=fun k i=>land_Validate.l0 k C (C.length:Int) i (w:Int) (h:Int) C) (Ev.step (fun k=>by simp only [land_Validate.l0];rfl) (Ev.neg (by omega) ?_)) good1 C.length 0 (by omega) g1
  simp only [Int.toNat_natCast]
  by_cases g2:Flat C w h
  ·rw [if_pos (flat_iff.1 g2)] at fin;rw [if_pos g2];exact fin
  ·rw [if_neg (fun hc=>g2 (flat_iff.2 hc))] at fin;rw [if_neg g2];exact fin
 ·exact Ev.eq (Ev.scan_some (g:=fun k i=>land_Validate.l0 k C (C.length:Int) i (w:Int) (h:Int) C) good1 bad1 C.length 0 (by omega) (not_all g1)) (if_neg g1).symm
def co (w t:Nat):Nat:=t / w * (w+1)+t % w
def lo4 (a b c d:Int):Int:=mn (mn (mn a b) c) d
def hi4 (a b c d:Int):Int:=mx (mx (mx a b) c) d
def stp (s a x i:Int):Int:=if x > a then (if x > a+1 then Go.bits .or .i64 (Go.bits .or .i64 s (shl .i64 1 i)) 16 else Go.bits .or .i64 s (shl .i64 1 i)) else (if x > a+1 then Go.bits .or .i64 s 16 else s)
def slp (a z0 z1 z2 z3:Int):Int:=stp (stp (stp (stp 0 a z0 0) a z1 1) a z2 2) a z3 3
def bit (b:Bool) (v:Int):Int:=if b then v else 0
def stB (s:Int) (b d:Bool) (i:Int):Int:=if b then (if d then Go.bits .or .i64 (Go.bits .or .i64 s (shl .i64 1 i)) 16 else Go.bits .or .i64 s (shl .i64 1 i)) else (if d then Go.bits .or .i64 s 16 else s)
theorem stp_B (s a x i:Int):stp s a x i=stB s (decide (x > a)) (decide (x > a+1)) i:=by
 unfold stp stB
 by_cases h1:x > a <;> by_cases h2:x > a+1 <;> simp [h1,h2]
theorem slB:∀ b0 d0 b1 d1 b2 d2 b3 d3:Bool,stB (stB (stB (stB 0 b0 d0 0) b1 d1 1) b2 d2 2) b3 d3 3=bit b0 1+bit b1 2+bit b2 4+bit b3 8+bit (d0 || d1 || d2 || d3) 16:=by decide +kernel
theorem slp_eq (a z0 z1 z2 z3:Int):slp a z0 z1 z2 z3=bit (decide (z0 > a)) 1+bit (decide (z1 > a)) 2+bit (decide (z2 > a)) 4+bit (decide (z3 > a)) 8+bit (decide (z0 > a+1) || decide (z1 > a+1) || decide (z2 > a+1) || decide (z3 > a+1)) 16:=by
 unfold slp
 rw [stp_B,stp_B,stp_B,stp_B,slB]
theorem bit_le (b:Bool) (v:Int) (h:0≤v):0≤bit b v∧bit b v≤v:=by cases b <;> simp [bit] <;> omega
theorem lo4_le (a b c d:Int):lo4 a b c d≤a∧lo4 a b c d≤b∧lo4 a b c d≤c∧lo4 a b c d≤d∧(lo4 a b c d=a∨lo4 a b c d=b∨lo4 a b c d=c∨lo4 a b c d=d):=by
 unfold lo4 mn;repeat' split
 all_goals omega
theorem hi4_ge (a b c d:Int):a≤hi4 a b c d∧b≤hi4 a b c d∧c≤hi4 a b c d∧d≤hi4 a b c d∧(hi4 a b c d=a∨hi4 a b c d=b∨hi4 a b c d=c∨hi4 a b c d=d):=by
 unfold hi4 mx;repeat' split
 all_goals omega
section
variable (w:Nat) (C:List Int) (t:Nat)
def zk (k:Nat):Int:=match k with|0=>z C (co w t)|1=>z C (co w t+1)|2=>z C (co w t+w+2)|_=>z C (co w t+w+1)
def base (w:Nat) (C:List Int) (t:Nat):Int:=lo4 (zk w C t 0) (zk w C t 1) (zk w C t 2) (zk w C t 3)
def top (w:Nat) (C:List Int) (t:Nat):Int:=hi4 (zk w C t 0) (zk w C t 1) (zk w C t 2) (zk w C t 3)
def slope (w:Nat) (C:List Int) (t:Nat):Int:=slp (base w C t) (zk w C t 0) (zk w C t 1) (zk w C t 2) (zk w C t 3)
def sea (w:Nat) (C:List Int) (t:Nat):Bool:=decide (top w C t≤2)
end
structure Land (w h:Nat) (C:List Int):Prop where
 w0:4≤w
 w1:w≤32
 h0:4≤h
 h1:h≤32
 len:C.length=(w+1) * (h+1)
 zs:Zs C
 flat:Flat C w h
theorem land_of {W H:Int} {C:List Int} (e:lcode W H C=0):∃ w h:Nat,W=(w:Int)∧H=(h:Int)∧Land w h C:=by
 obtain ⟨⟨hW,hH,hl⟩,hz,hf⟩:=lcode_zero.1 e
 obtain ⟨w,rfl⟩:=Int.eq_ofNat_of_zero_le (show 0≤W by omega)
 obtain ⟨h,rfl⟩:=Int.eq_ofNat_of_zero_le (show 0≤H by omega)
 exact ⟨w,h,rfl,rfl,by omega,by omega,by omega,by omega,area_nat hl,hz,by simpa using hf⟩
theorem of_land {w h:Nat} {C:List Int} (L:Land w h C):lcode (w:Int) (h:Int) C=0:=by
 have:=L.w0
 have:=L.w1
 have:=L.h0
 have:=L.h1
 exact lcode_zero.2 ⟨⟨⟨by omega,by omega⟩,⟨by omega,by omega⟩,by rw [L.len];push_cast;rfl⟩,L.zs,by simpa using L.flat⟩
section
variable {w h:Nat} {C:List Int}
theorem tile {t:Nat} (ht:t<w * h):t / w<h∧t % w<w∧t / w * w+t % w=t:=by
 have hw:0<w:=by
  rcases Nat.eq_zero_or_pos w with rfl|hp
  ·simp at ht
  ·exact hp
 exact ⟨by rw [Nat.div_lt_iff_lt_mul hw,Nat.mul_comm];exact ht,Nat.mod_lt _ hw,by rw [Nat.mul_comm];exact Nat.div_add_mod t w⟩
theorem co_lt (L:Land w h C) {t:Nat} (ht:t<w * h):co w t+w+2<C.length∧co w t+w+2≤2000:=by
 obtain ⟨h1,h2,_⟩:=tile ht
 have:=L.w1
 have:=L.h1
 have e:(w+1) * (h+1)=h * (w+1)+(w+1):=by rw [Nat.mul_comm,Nat.succ_mul]
 have h3:=Nat.mul_le_mul_right (w+1) (show t / w+1≤h by omega)
 rw [Nat.succ_mul] at h3
 have h4:h * (w+1)≤32 * 33:=mulle L.h1 (by omega)
 rw [L.len,e]
 unfold co
 omega
theorem zk_in (L:Land w h C) {t:Nat} (ht:t<w * h) (k:Nat):0≤zk w C t k∧zk w C t k≤15:=by
 have hc:=co_lt L ht
 match k with
 | 0=>exact L.zs _ (Nat.zero_le _) (by omega)
 | 1=>exact L.zs _ (Nat.zero_le _) (by omega)
 | 2=>exact L.zs _ (Nat.zero_le _) (by omega)
 | k+3=>exact L.zs _ (Nat.zero_le _) (by omega)
theorem zk_near (L:Land w h C) {t:Nat} (ht:t<w * h):near (zk w C t 0) (zk w C t 1)∧near (zk w C t 0) (zk w C t 3)∧near (zk w C t 1) (zk w C t 2)∧near (zk w C t 3) (zk w C t 2):=by
 obtain ⟨h1,h2,_⟩:=tile ht
 have e:(t / w+1) * (w+1)=t / w * (w+1)+(w+1):=Nat.succ_mul _ _
 have p:=L.flat (t / w) (by omega) (t % w) (by omega)
 have q:=L.flat (t / w) (by omega) (t % w+1) (by omega)
 have s:=L.flat (t / w+1) (by omega) (t % w) (by omega)
 refine ⟨p.1 h2,?_,?_,?_⟩
 ·have:=p.2 h1
  rw [e,show t / w * (w+1)+(w+1)+t % w=t / w * (w+1)+t % w+w+1 by omega] at this
  exact this
 ·have:=q.2 h1
  rw [e,show t / w * (w+1)+(w+1)+(t % w+1)=t / w * (w+1)+t % w+w+2 by omega,← Nat.add_assoc] at this
  exact this
 ·have:=s.1 h2
  rw [e,show t / w * (w+1)+(w+1)+t % w=t / w * (w+1)+t % w+w+1 by omega] at this
  exact this
theorem base_in (L:Land w h C) {t:Nat} (ht:t<w * h):0≤base w C t∧base w C t≤15:=by
 have h0:=zk_in L ht 0
 have h1:=zk_in L ht 1
 have h2:=zk_in L ht 2
 have h3:=zk_in L ht 3
 have:=lo4_le (zk w C t 0) (zk w C t 1) (zk w C t 2) (zk w C t 3)
 unfold base
 omega
theorem top_in (L:Land w h C) {t:Nat} (ht:t<w * h):base w C t≤top w C t∧top w C t≤base w C t+2∧top w C t≤15:=by
 have h0:=zk_in L ht 0
 have h1:=zk_in L ht 1
 have h2:=zk_in L ht 2
 have h3:=zk_in L ht 3
 obtain ⟨n1,n2,n3,n4⟩:=zk_near L ht
 unfold near at n1 n2 n3 n4
 have:=lo4_le (zk w C t 0) (zk w C t 1) (zk w C t 2) (zk w C t 3)
 have:=hi4_ge (zk w C t 0) (zk w C t 1) (zk w C t 2) (zk w C t 3)
 unfold base top
 omega
theorem idx_t (L:Land w h C) {t:Nat} (ht:t<w * h):wrap64 (wrap64 (wrap64 (Int.tdiv (t:Int) (w:Int)) * wrap64 ((w:Int)+1))+Int.tmod (t:Int) (w:Int))=((co w t:Nat):Int):=by
 obtain ⟨h1,h2,_⟩:=tile ht
 have:=L.w1
 have:=L.h1
 have e1:Int.tdiv (t:Int) (w:Int)=((t / w:Nat):Int):=rfl
 have e2:Int.tmod (t:Int) (w:Int)=((t % w:Nat):Int):=rfl
 rw [e1,e2]
 unfold co
 clear e1 e2
 generalize t / w=y at h1 ⊢
 generalize t % w=x at h2 ⊢
 rw [wrap_in (x:=((y:Nat):Int)) (by omega) (by omega),idxw _ _ _ (by omega) (by omega) (by omega)]
theorem idx_2 (n w:Nat) (hn:n≤2000) (hw:w≤40):wrap64 (wrap64 ((n:Int)+(w:Int))+2)=((n+w+2:Nat):Int)∧wrap64 (wrap64 ((n:Int)+(w:Int))+1)=((n+w+1:Nat):Int):=by
 rw [wrap_in (x:=(n:Int)+(w:Int)) (by omega) (by omega),wrap_in (by omega) (by omega),wrap_in (by omega) (by omega)]
 omega
end
section
variable {w h:Nat} {C:List Int}
end
section
variable {w h:Nat} {C K B:List Int}
end
section
variable {w h:Nat} {C K B:List Int}
theorem is_eq (L:Land w h C) (b:Int):h02_Is.f (w:Int) (h:Int) C b=some (decide (0≤b∧b<((w * h:Nat):Int))):=by
 have hwh:w * h≤32 * 32:=mulle L.w1 L.h1
 unfold h02_Is.f
 rw [← Int.natCast_mul,wrap_in (by omega) (by omega)]
 by_cases hb:b≥0
 ·rw [if_pos hb];congr 1;apply decide_eq_decide.2;omega
 ·rw [if_neg hb,decide_eq_false (by omega)]
end
theorem side_eq (n:Int):h02_side.f n=some (decide (4≤n∧n≤32)):=by
 unfold h02_side.f
 by_cases h:n≥4
 ·rw [if_pos h];congr 1;apply decide_eq_decide.2;omega
 ·rw [if_neg h,decide_eq_false (by omega)]
theorem rapart_eq {a b:Int} (ha:0≤a∧a≤15) (hb:0≤b∧b≤15):∃ t,h02_Apart.f a b=some t∧(t > 1↔¬ near a b):=by
 unfold h02_Apart.f near
 rw [wrap_in (x:=a - b) (by omega) (by omega),wrap_in (x:=b - a) (by omega) (by omega)]
 by_cases h:a<b
 ·rw [if_pos h];exact ⟨_,rfl,by omega⟩
 ·rw [if_neg h];exact ⟨_,rfl,by omega⟩
def QAt (C:List Int) (w i:Nat):Prop:=(0<i % (w+1)→near (z C i) (z C (i - 1)))∧(w<i→near (z C i) (z C (i - (w+1))))
theorem flat_q {w h:Nat} {C:List Int} (hl:C.length=(w+1) * (h+1)):Flat C w h↔∀ i,0≤i→i<C.length→QAt C w i:=by
 have sm:∀ y:Nat,(y+1) * (w+1)=y * (w+1)+(w+1):=fun y=>Nat.succ_mul _ _
 have hl':C.length=h * (w+1)+(w+1):=by rw [hl,Nat.mul_comm,sm]
 constructor
 ·intro f i _ hi
  have hd:=Nat.div_add_mod i (w+1)
  have hm:=Nat.mod_lt i (Nat.succ_pos w)
  obtain ⟨y,hy⟩:∃ y,y=i / (w+1):=⟨_,rfl⟩
  obtain ⟨x,hx⟩:∃ x,x=i % (w+1):=⟨_,rfl⟩
  rw [← hy,← hx,Nat.mul_comm] at hd
  rw [← hx] at hm
  have hyh:y≤h:=by
   apply Classical.byContradiction
   intro hn
   have:=Nat.mul_le_mul_right (w+1) (show h+1≤y by omega)
   rw [sm] at this
   omega
  refine ⟨fun h0=>?_,fun h0=>?_⟩
  ·rw [← hx] at h0
   have:=(f y hyh (x - 1) (by omega)).1 (by omega)
   rw [show y * (w+1)+(x - 1)+1=i by omega,show y * (w+1)+(x - 1)=i - 1 by omega] at this
   exact near_symm this
  ·cases y with
   | zero=>omega
   | succ y =>
    have:=(f y (by omega) x (by omega)).2 (by omega)
    rw [hd,show y * (w+1)+x=i - (w+1) by rw [sm] at hd;omega] at this
    exact near_symm this
 ·intro q y hy x hx
  have hle:=Nat.mul_le_mul_right (w+1) hy
  refine ⟨fun h0=>?_,fun h0=>?_⟩
  ·have:=(q (y * (w+1)+x+1) (Nat.zero_le _) (by omega)).1 (by
    rw [Nat.add_assoc,Nat.mul_comm,Nat.mul_add_mod,Nat.mod_eq_of_lt (by omega)];omega)
   rw [Nat.add_sub_cancel] at this
   exact near_symm this
  ·have h1:=Nat.mul_le_mul_right (w+1) (show y+1≤h by omega)
   rw [sm] at h1
   have:=(q ((y+1) * (w+1)+x) (Nat.zero_le _) (by rw [sm];omega)).2 (by rw [sm];omega)
   rw [show (y+1) * (w+1)+x - (w+1)=y * (w+1)+x by rw [sm];omega] at this
   exact near_symm this
theorem ref_land_ev {W H:Int} {C:List Int} (hl:C.length≤4000):Ev (fun k=>h02_Validate.f k W H C) (lcode W H C):=by
 unfold h02_Validate.f
 have bad:¬ LShape W H C→∀ q,q=true→Ev (fun k=>h02_Validate.j0 k q W H C) (lcode W H C):=by
  intro h q hq
  refine Ev.eq (Ev.step (fun k=>by simp only [h02_Validate.j0];rfl) (Ev.pos hq (Ev.now _))) (if_neg h).symm
 refine Ev.bindc (side_eq W) ?_
 by_cases hW:4≤W∧W≤32
 rotate_left
 ·exact Ev.neg (by simp [hW]) (bad (fun h=>hW h.1) _ rfl)
 refine Ev.pos (by simp [hW]) (Ev.bindc (side_eq H) ?_)
 by_cases hH:4≤H∧H≤32
 rotate_left
 ·exact Ev.neg (by simp [hH]) (bad (fun h=>hH h.2.1) _ rfl)
 refine Ev.pos (by simp [hH]) ?_
 obtain ⟨w,rfl⟩:=Int.eq_ofNat_of_zero_le (show 0≤W by omega)
 obtain ⟨h,rfl⟩:=Int.eq_ofNat_of_zero_le (show 0≤H by omega)
 have hm:(w+1) * (h+1)≤40 * 40:=mulle (by omega) (by omega)
 have e:wrap64 (wrap64 ((w:Int)+1) * wrap64 ((h:Int)+1))=(((w+1) * (h+1):Nat):Int):=by
  rw [sucw w (by omega),sucw h (by omega),← Int.natCast_mul,wrap_in (by omega) (by omega)]
 rw [e]
 by_cases l1:C.length=(w+1) * (h+1)
 rotate_left
 ·exact bad (fun hs=>l1 (area_nat hs.2.2)) _ (bne_iff_ne.2 (by omega))
 have hs:LShape (w:Int) (h:Int) C:=⟨⟨by omega,by omega⟩,⟨by omega,by omega⟩,by rw [l1];push_cast;rfl⟩
 rw [show ((C.length:Int) != (((w+1) * (h+1):Nat):Int))=false from bne_eq_false_iff_eq.2 (by omega)]
 refine Ev.eq ?_ (if_pos hs).symm
 refine Ev.step (fun k=>by simp only [h02_Validate.j0];rfl) (Ev.neg (by simp) ?_)
 have good1:∀ i,i<C.length→ZAt C i→∀ r,Ev (fun k=>h02_Validate.l0 k C (C.length:Int) ((i:Int)+1) (w:Int) (h:Int) C) r→Ev (fun k=>h02_Validate.l0 k C (C.length:Int) (i:Int) (w:Int) (h:Int) C) r:=by
  intro i hi p r hr
  unfold ZAt z at p
  refine Ev.step (fun k=>by simp only [h02_Validate.l0];rfl) ?_
  rw [rdN,wrap_in (x:=(i:Int)+1) (by omega) (by omega)]
  exact Ev.pos (by omega) (Ev.pos (by omega) (Ev.pos (by omega) (Ev.neg (by omega) (Ev.neg (by omega) hr))))
 have bad1:∀ i,i<C.length→¬ ZAt C i→Ev (fun k=>h02_Validate.l0 k C (C.length:Int) (i:Int) (w:Int) (h:Int) C) 1:=by
  intro i hi p
  unfold ZAt z at p
  refine Ev.step (fun k=>by simp only [h02_Validate.l0];rfl) ?_
  rw [rdN]
  refine Ev.pos (by omega) (Ev.pos (by omega) (Ev.pos (by omega) ?_))
  by_cases q1:C.getD i 0<0
  ·exact Ev.pos q1 (Ev.now _)
  exact Ev.neg q1 (Ev.pos (by omega) (Ev.now _))
 by_cases g1:Zs C
 rotate_left
 ·exact Ev.eq (Ev.scan_some (g:=fun k i=>h02_Validate.l0 k C (C.length:Int) i (w:Int) (h:Int) C) good1 bad1 C.length 0 (by omega) (not_all g1)) (if_neg g1).symm
 refine Ev.eq ?_ (if_pos g1).symm
 refine Ev.scan_all (g:=fun k i=>h02_Validate.l0 k C (C.length:Int) i (w:Int) (h:Int) C) (Ev.step (fun k=>by simp only [h02_Validate.l0];rfl) (Ev.neg (by omega) ?_)) good1 C.length 0 (by omega) g1
 simp only [Int.toNat_natCast]
 have zr:∀ j,j<C.length→0≤C.getD j 0∧C.getD j 0≤15:=fun j hj=>g1 j (Nat.zero_le _) hj
 have tm:∀ i:Nat,Int.tmod (i:Int) (wrap64 ((w:Int)+1))=((i % (w+1):Nat):Int):=by
  intro i;rw [sucw w (by omega)];rfl
 have left:∀ i:Nat,0<i % (w+1)→wrap64 ((i:Int) - 1)=((i - 1:Nat):Int)∨100000<i:=by
  intro i hi
  by_cases hb:i≤100000
  ·left
   have:0<i:=by cases i with|zero=>simp at hi|succ i=>omega
   rw [wrap_in (by omega) (by omega)];omega
  ·right;omega
 have up:∀ i:Nat,w<i→i≤100000→wrap64 (wrap64 ((i:Int) - (w:Int)) - 1)=((i - (w+1):Nat):Int):=by
  intro i hi hb
  rw [wrap_in (x:=(i:Int) - (w:Int)) (by omega) (by omega),wrap_in (by omega) (by omega)];omega
 have good2:∀ i,i<C.length→QAt C w i→∀ r,Ev (fun k=>h02_Validate.l1 k C (C.length:Int) ((i:Int)+1) (w:Int) (h:Int) C) r→Ev (fun k=>h02_Validate.l1 k C (C.length:Int) (i:Int) (w:Int) (h:Int) C) r:=by
  intro i hi ⟨p1,p2⟩ r hr
  refine Ev.step (fun k=>by simp only [h02_Validate.l1];rfl) ?_
  rw [tm,wrap_in (x:=(i:Int)+1) (by omega) (by omega)]
  refine Ev.pos (by omega) (Ev.pos (by omega) (Ev.pos (by omega) (Ev.neg (by rw [sucw w (by omega)];omega) ?_)))
  have more:Ev (fun k=>if (i:Int) > (w:Int) then (if 0≤wrap64 (wrap64 ((i:Int) - (w:Int)) - 1) then (if wrap64 (wrap64 ((i:Int) - (w:Int)) - 1)<(C.length:Int) then ((h02_Apart.f (rd C (i:Int)) (rd C (wrap64 (wrap64 ((i:Int) - (w:Int)) - 1)))).bind fun t=>if t > 1 then some 5 else h02_Validate.l1 k C (C.length:Int) ((i:Int)+1) (w:Int) (h:Int) C) else none) else none) else h02_Validate.l1 k C (C.length:Int) ((i:Int)+1) (w:Int) (h:Int) C) r:=by
   by_cases hw:w<i
   ·rw [up i hw (by omega),rdN,rdN]
    obtain ⟨t,ht,hiff⟩:=rapart_eq (zr i hi) (zr (i - (w+1)) (by omega))
    exact Ev.pos (by omega) (Ev.pos (by omega) (Ev.pos (by omega) (Ev.bindc ht (Ev.neg (fun hc=>hiff.1 hc (p2 hw)) hr))))
   ·exact Ev.neg (by omega) hr
  by_cases hx:0<i % (w+1)
  ·rcases left i hx with e1|e1
   ·rw [e1,rdN,rdN]
    rw [rdN] at more
    obtain ⟨t,ht,hiff⟩:=rapart_eq (zr i hi) (zr (i - 1) (by omega))
    exact Ev.pos (by omega) (Ev.pos (by omega) (Ev.pos (by omega) (Ev.bindc ht (Ev.neg (fun hc=>hiff.1 hc (p1 hx)) more))))
   ·omega
  ·exact Ev.neg (by omega) more
 have bad2:∀ i,i<C.length→¬ QAt C w i→Ev (fun k=>h02_Validate.l1 k C (C.length:Int) (i:Int) (w:Int) (h:Int) C) 5:=by
  intro i hi p
  refine Ev.step (fun k=>by simp only [h02_Validate.l1];rfl) ?_
  rw [tm,wrap_in (x:=(i:Int)+1) (by omega) (by omega)]
  refine Ev.pos (by omega) (Ev.pos (by omega) (Ev.pos (by omega) (Ev.neg (by rw [sucw w (by omega)];omega) ?_)))
  have more:¬ (w<i→near (z C i) (z C (i - (w+1))))→Ev (fun k=>if (i:Int) > (w:Int) then (if 0≤wrap64 (wrap64 ((i:Int) - (w:Int)) - 1) then (if wrap64 (wrap64 ((i:Int) - (w:Int)) - 1)<(C.length:Int) then ((h02_Apart.f (rd C (i:Int)) (rd C (wrap64 (wrap64 ((i:Int) - (w:Int)) - 1)))).bind fun t=>if t > 1 then some 5 else h02_Validate.l1 k C (C.length:Int) ((i:Int)+1) (w:Int) (h:Int) C) else none) else none) else h02_Validate.l1 k C (C.length:Int) ((i:Int)+1) (w:Int) (h:Int) C) 5:=by
   intro hc
   have hw:w<i:=Classical.byContradiction fun hn=>hc fun h1=>absurd h1 hn
   rw [up i hw (by omega),rdN,rdN]
   obtain ⟨t,ht,hiff⟩:=rapart_eq (zr i hi) (zr (i - (w+1)) (by omega))
   exact Ev.pos (by omega) (Ev.pos (by omega) (Ev.pos (by omega) (Ev.bindc ht (Ev.pos (hiff.2 fun hn=>hc fun _=>hn) (Ev.now _)))))
  by_cases hx:0<i % (w+1)
  ·rcases left i hx with e1|e1
   ·rw [e1,rdN,rdN]
    rw [rdN] at more
    obtain ⟨t,ht,hiff⟩:=rapart_eq (zr i hi) (zr (i - 1) (by omega))
    refine Ev.pos (by omega) (Ev.pos (by omega) (Ev.pos (by omega) (Ev.bindc ht ?_)))
    by_cases hn:near (z C i) (z C (i - 1))
    ·exact Ev.neg (fun hc=>hiff.1 hc hn) (more fun h2=>p ⟨fun _=>hn,h2⟩)
    ·exact Ev.pos (hiff.2 hn) (Ev.now _)
   ·omega
  ·exact Ev.neg (by omega) (more fun h2=>p ⟨fun h1=>absurd h1 hx,h2⟩)
 have fin2:Ev (fun k=>h02_Validate.l1 k C (C.length:Int) ((C.length:Nat):Int) (w:Int) (h:Int) C) 0 :=
  Ev.step (fun k=>by simp only [h02_Validate.l1];rfl) (Ev.neg (by omega) (Ev.now _))
 by_cases g2:Flat C w h
 ·rw [if_pos g2]
  exact Ev.scan_all (g:=fun k i=>h02_Validate.l1 k C (C.length:Int) i (w:Int) (h:Int) C) fin2 good2 C.length 0 (by omega) ((flat_q l1).1 g2)
 ·rw [if_neg g2]
  exact Ev.scan_some (g:=fun k i=>h02_Validate.l1 k C (C.length:Int) i (w:Int) (h:Int) C) good2 bad2 C.length 0 (by omega) (not_all fun hc=>g2 ((flat_q l1).2 hc))
section
variable {w h:Nat} {C:List Int}
theorem places_eq (L:Land w h C) {t:Nat} (ht:t<w * h):h02_Places.f (w:Int) (h:Int) C (t:Int)=some (⟨((co w t:Nat):Int),((co w t+1:Nat):Int),((co w t+w+2:Nat):Int),((co w t+w+1:Nat):Int)⟩:S75):=by
 have:=L.w0
 have:=L.w1
 have hc:=co_lt L ht
 unfold h02_Places.f
 rw [if_neg (by omega),idx_t L ht,(idx_2 (co w t) w (by omega) (by omega)).1,(idx_2 (co w t) w (by omega) (by omega)).2,sucw (co w t) (by omega)]
theorem sea_ev (L:Land w h C) {t:Nat} (ht:t<w * h):Ev (fun k=>h02_Sea.f k (w:Int) (h:Int) C (t:Int)) (sea w C t):=by
 have hc:=co_lt L ht
 unfold h02_Sea.f
 refine Ev.bindc (places_eq L ht) ?_
 have one:∀ (i:Int) (n:Nat) (r:Bool),0≤i∧i<4→ix75 (⟨((co w t:Nat):Int),((co w t+1:Nat):Int),((co w t+w+2:Nat):Int),((co w t+w+1:Nat):Int)⟩:S75) i=(n:Int)→n<C.length→(¬ z C n≤2→r=false) →
   (z C n≤2→Ev (fun k=>h02_Sea.l0 k (⟨((co w t:Nat):Int),((co w t+1:Nat):Int),((co w t+w+2:Nat):Int),((co w t+w+1:Nat):Int)⟩:S75) (i+1) (w:Int) (h:Int) C) r)→Ev (fun k=>h02_Sea.l0 k (⟨((co w t:Nat):Int),((co w t+1:Nat):Int),((co w t+w+2:Nat):Int),((co w t+w+1:Nat):Int)⟩:S75) i (w:Int) (h:Int) C) r:=by
  intro i n r hi hn hl hb hk
  refine Ev.step (fun k=>by simp only [h02_Sea.l0];rfl) ?_
  rw [hn,rdN,wrap_in (x:=i+1) (by omega) (by omega)]
  refine Ev.pos hi.2 (Ev.pos hi.1 (Ev.pos (by omega) (Ev.pos (by omega) ?_)))
  by_cases h2:z C n≤2
  ·exact Ev.neg (by unfold z at h2;omega) (hk h2)
  ·exact Ev.pos (by unfold z at h2;omega) (Ev.eq (Ev.now _) (hb h2).symm)
 have hg:=hi4_ge (zk w C t 0) (zk w C t 1) (zk w C t 2) (zk w C t 3)
 have big:∀ k,¬ zk w C t k≤2→(k=0∨k=1∨k=2∨k=3)→sea w C t=false:=by
  intro k h1 h2
  unfold sea top
  rw [decide_eq_false]
  rcases h2 with rfl|rfl|rfl|rfl <;> omega
 refine one 0 (co w t) _ (by decide) rfl (by omega) (fun hb=>big 0 hb (by simp)) fun h0=>?_
 refine one 1 (co w t+1) _ (by decide) rfl (by omega) (fun hb=>big 1 hb (by simp)) fun h1=>?_
 refine one 2 (co w t+w+2) _ (by decide) rfl (by omega) (fun hb=>big 2 hb (by simp)) fun h2=>?_
 refine one 3 (co w t+w+1) _ (by decide) rfl (by omega) (fun hb=>big 3 hb (by simp)) fun h3=>?_
 refine Ev.step (fun k=>by simp only [h02_Sea.l0];rfl) (Ev.neg (by decide) (Ev.eq (Ev.now _) ?_))
 have h0':zk w C t 0≤2:=h0
 have h1':zk w C t 1≤2:=h1
 have h2':zk w C t 2≤2:=h2
 have h3':zk w C t 3≤2:=h3
 unfold sea top
 rw [decide_eq_true]
 omega
theorem face_ev (L:Land w h C) {t:Nat} (ht:t<w * h):Ev (fun k=>h02_Face.f k (w:Int) (h:Int) C (t:Int)) (slope w C t,base w C t):=by
 have hc:=co_lt L ht
 unfold h02_Face.f
 refine Ev.bindc (places_eq L ht) (Ev.pos (by show (0:Int)≤((co w t:Nat):Int);omega) (Ev.pos (by show ((co w t:Nat):Int)<(C.length:Int);omega) ?_))
 obtain ⟨q,hq⟩:∃ q,q=(⟨((co w t:Nat):Int),((co w t+1:Nat):Int),((co w t+w+2:Nat):Int),((co w t+w+1:Nat):Int)⟩:S75):=⟨_,rfl⟩
 have one:∀ (i:Int) (n:Nat) (a b:Int) (r:Int × Int),0≤i∧i<4→ix75 q i=(n:Int)→n<C.length →
   Ev (fun k=>h02_Face.l0 k (mn a (z C n)) (mx b (z C n)) q (i+1) (w:Int) (h:Int) C ((co w t:Nat):Int) ((co w t+1:Nat):Int) ((co w t+w+2:Nat):Int) ((co w t+w+1:Nat):Int)) r→Ev (fun k=>h02_Face.l0 k a b q i (w:Int) (h:Int) C ((co w t:Nat):Int) ((co w t+1:Nat):Int) ((co w t+w+2:Nat):Int) ((co w t+w+1:Nat):Int)) r:=by
  intro i n a b r hi hn hl hk
  refine Ev.step (fun k=>by simp only [h02_Face.l0];rfl) ?_
  rw [hn,rdN,wrap_in (x:=i+1) (by omega) (by omega)]
  exact Ev.pos hi.2 (Ev.pos hi.1 (Ev.pos (by omega) (Ev.pos (by omega) hk)))
 have two:∀ (i:Int) (n:Nat) (a b s v:Int) (r:Int × Int),0≤i∧i<4→ix75 q i=(n:Int)→n<C.length→0≤s∧s≤100→0≤v∧v≤100 →
   Ev (fun k=>h02_Face.l1 k a b (s+bit (decide (z C n > a)) v) (v * 2) q (i+1) (w:Int) (h:Int) C) r→Ev (fun k=>h02_Face.l1 k a b s v q i (w:Int) (h:Int) C) r:=by
  intro i n a b s v r hi hn hl hs hv hk
  refine Ev.step (fun k=>by simp only [h02_Face.l1];rfl) ?_
  rw [hn,rdN,wrap_in (x:=i+1) (by omega) (by omega),wrap_in (x:=s+v) (by omega) (by omega),wrap_in (x:=v * 2) (by omega) (by omega)]
  refine Ev.pos hi.2 (Ev.pos hi.1 (Ev.pos (by omega) (Ev.pos (by omega) ?_)))
  by_cases hz:C.getD n 0 > a
  ·refine Ev.pos hz ?_
   rw [show bit (decide (z C n > a)) v=v by unfold z;rw [decide_eq_true hz];rfl] at hk
   exact hk
  ·refine Ev.neg hz ?_
   rw [show bit (decide (z C n > a)) v=0 by unfold z;rw [decide_eq_false hz];rfl,Int.add_zero] at hk
   exact hk
 rw [rdN]
 change Ev (fun k=>h02_Face.l0 k (zk w C t 0) (zk w C t 0) (⟨((co w t:Nat):Int),((co w t+1:Nat):Int),((co w t+w+2:Nat):Int),((co w t+w+1:Nat):Int)⟩:S75) 0 (w:Int) (h:Int) C ((co w t:Nat):Int) ((co w t+1:Nat):Int) ((co w t+w+2:Nat):Int) ((co w t+w+1:Nat):Int)) _
 rw [← hq]
 refine one 0 (co w t) _ _ _ (by decide) (by rw [hq];rfl) (by omega) ?_
 refine one 1 (co w t+1) _ _ _ (by decide) (by rw [hq];rfl) (by omega) ?_
 refine one 2 (co w t+w+2) _ _ _ (by decide) (by rw [hq];rfl) (by omega) ?_
 refine one 3 (co w t+w+1) _ _ _ (by decide) (by rw [hq];rfl) (by omega) ?_
 have m0:∀ a:Int,mn a a=a:=fun a=>by unfold mn;split <;> rfl
 have m1:∀ a:Int,mx a a=a:=fun a=>by unfold mx;split <;> rfl
 change Ev (fun k=>h02_Face.l0 k (mn (mn (mn (mn (zk w C t 0) (zk w C t 0)) (zk w C t 1)) (zk w C t 2)) (zk w C t 3)) (mx (mx (mx (mx (zk w C t 0) (zk w C t 0)) (zk w C t 1)) (zk w C t 2)) (zk w C t 3)) q 4 (w:Int) (h:Int) C ((co w t:Nat):Int) ((co w t+1:Nat):Int) ((co w t+w+2:Nat):Int) ((co w t+w+1:Nat):Int)) _
 rw [m0,m1]
 change Ev (fun k=>h02_Face.l0 k (base w C t) (top w C t) q 4 (w:Int) (h:Int) C ((co w t:Nat):Int) ((co w t+1:Nat):Int) ((co w t+w+2:Nat):Int) ((co w t+w+1:Nat):Int)) _
 refine Ev.step (fun k=>by simp only [h02_Face.l0];rfl) (Ev.neg (by decide) ?_)
 rw [← hq]
 have B1:=bit_le (decide (z C (co w t) > base w C t)) 1 (by decide)
 have B2:=bit_le (decide (z C (co w t+1) > base w C t)) (1 * 2) (by decide)
 have B3:=bit_le (decide (z C (co w t+w+2) > base w C t)) (1 * 2 * 2) (by decide)
 have B4:=bit_le (decide (z C (co w t+w+1) > base w C t)) (1 * 2 * 2 * 2) (by decide)
 refine two 0 (co w t) _ _ _ _ _ (by decide) (by rw [hq];rfl) (by omega) (by decide) (by decide) ?_
 refine two 1 (co w t+1) _ _ _ _ _ (by decide) (by rw [hq];rfl) (by omega) (by omega) (by decide) ?_
 refine two 2 (co w t+w+2) _ _ _ _ _ (by decide) (by rw [hq];rfl) (by omega) (by omega) (by decide) ?_
 refine two 3 (co w t+w+1) _ _ _ _ _ (by decide) (by rw [hq];rfl) (by omega) (by omega) (by decide) ?_
 obtain ⟨t1,t2,t3⟩:=top_in L ht
 have b:=base_in L ht
 have zz:∀ k,0≤zk w C t k∧zk w C t k≤15:=zk_in L ht
 have hz:=fun k=>zz k
 have lo:=lo4_le (zk w C t 0) (zk w C t 1) (zk w C t 2) (zk w C t 3)
 have hi:=hi4_ge (zk w C t 0) (zk w C t 1) (zk w C t 2) (zk w C t 3)
 have e:(decide (zk w C t 0 > base w C t+1) || decide (zk w C t 1 > base w C t+1) || decide (zk w C t 2 > base w C t+1) || decide (zk w C t 3 > base w C t+1))=decide (top w C t - base w C t=2):=by
  have:(decide (zk w C t 0 > base w C t+1) || decide (zk w C t 1 > base w C t+1) || decide (zk w C t 2 > base w C t+1) || decide (zk w C t 3 > base w C t+1))=decide (zk w C t 0 > base w C t+1∨zk w C t 1 > base w C t+1∨zk w C t 2 > base w C t+1∨zk w C t 3 > base w C t+1):=by
   simp [Bool.or_assoc]
  rw [this]
  apply decide_eq_decide.2
  unfold top base at *
  omega
 refine Ev.step (fun k=>by simp only [h02_Face.l1];rfl) (Ev.neg (by decide) ?_)
 have sl:slope w C t=0+bit (decide (z C (co w t) > base w C t)) 1+bit (decide (z C (co w t+1) > base w C t)) (1 * 2)+bit (decide (z C (co w t+w+2) > base w C t)) (1 * 2 * 2)+bit (decide (z C (co w t+w+1) > base w C t)) (1 * 2 * 2 * 2)+bit (decide (top w C t - base w C t=2)) 16:=by
  unfold slope
  rw [slp_eq,e,Int.zero_add]
  rfl
 rw [wrap_in (x:=top w C t - base w C t) (by omega) (by omega)]
 by_cases hd:top w C t - base w C t=2
 ·refine Ev.pos hd (Ev.eq (Ev.now _) ?_)
  rw [show bit (decide (top w C t - base w C t=2)) 16=16 by simp [bit,hd]] at sl
  rw [sl,wrap_in (by omega) (by omega)]
 ·refine Ev.neg hd (Ev.eq (Ev.now _) ?_)
  rw [show bit (decide (top w C t - base w C t=2)) 16=0 by simp [bit,hd],Int.add_zero] at sl
  rw [sl]
end

end Go.Proofs.Ytbdijpjlgokfkaa.Pure.L
