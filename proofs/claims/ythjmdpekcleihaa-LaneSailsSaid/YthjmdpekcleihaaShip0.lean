/- What the program's functions of layers 1, 6 and 17 (lands, waters, ships) come to, in plain words. No conditions. -/
import Derived.Test.YthjmdpekcleihaaPx0
import Derived.Test.YthjmdpekcleihaaPx8
import Derived.Test.YthjmdpekcleihaaPx9
import Derived.Test.YthjmdpekcleihaaPx10
import Derived.Test.YthjmdpekcleihaaPx11
import Derived.Test.YthjmdpekcleihaaEvKit
import Derived.Test.YthjmdpekcleihaaVOpen
namespace Go.Proofs.Ythjmdpekcleihaa.Pure
set_option linter.unusedVariables false
set_option linter.unusedSimpArgs false
open Go.RowKit Go.Proofs.YthjmdpekcleihaaW.PrintWords Go.Proofs.YthjmdpekcleihaaW.PrintMore Go.Proofs.Ythjmdpekcleihaa.P Go.Proofs.Ythjmdpekcleihaa
theorem Ev.rounds {α:Type} {g:Nat → Option α} {r:α} (h:Ev g r):∃ k,g k = some r := by
 obtain ⟨K,h⟩:=h
 exact ⟨K,h K (Nat.le_refl _)⟩
theorem rdN (l:List Int) (i:Nat):rd l (i:Int) = l.getD i 0 := by unfold rd; simp
theorem rdB (l:List Bool) (i:Nat):rdOf false l (i:Int) = l.getD i false := by unfold rdOf; simp
theorem not_all {p:Nat → Prop} {n:Nat} (h:¬ ∀ j,0 ≤ j → j < n → p j):∃ j,0 ≤ j ∧ j < n ∧ ¬ p j := by
 apply Classical.byContradiction
 intro hc
 exact h fun j h1 h2=>Classical.byContradiction fun h3=>hc ⟨j,h1,h2,h3⟩
def near (a b : Int) : Prop := a - b ≤ 1 ∧ b - a ≤ 1
instance (a b : Int) : Decidable (near a b) := inferInstanceAs (Decidable (_ ∧ _))
theorem near_symm {a b:Int} (h:near a b):near b a := ⟨h.2,h.1⟩
def z (C : List Int) (j : Nat) : Int := C.getD j 0
def ZAt (C : List Int) (j : Nat) : Prop := 0 ≤ z C j ∧ z C j ≤ 15
def Zs (C : List Int) : Prop := ∀ j, 0 ≤ j → j < C.length → ZAt C j
def LShape (W H : Int) (C : List Int) : Prop := (4 ≤ W ∧ W ≤ 32) ∧ (4 ≤ H ∧ H ≤ 32) ∧ (C.length : Int) = (W + 1) * (H + 1)
def PQ (C : List Int) (w h y x : Nat) : Prop := (x < w → near (z C (y * (w + 1) + x)) (z C (y * (w + 1) + x + 1))) ∧ (y < h → near (z C (y * (w + 1) + x)) (z C ((y + 1) * (w + 1) + x)))
def Flat (C : List Int) (w h : Nat) : Prop := ∀ y, y ≤ h → ∀ x, x ≤ w → PQ C w h y x
open Classical in
noncomputable def lcode (W H : Int) (C : List Int) : Int := if LShape W H C then (if Zs C then (if Flat C W.toNat H.toNat then 0 else 5) else 1) else 1
theorem lcode_zero {W H:Int} {C:List Int}:lcode W H C = 0 ↔ LShape W H C ∧ Zs C ∧ Flat C W.toNat H.toNat := by
 unfold lcode
 by_cases h1:LShape W H C
 ·by_cases h2:Zs C
  ·by_cases h3:Flat C W.toNat H.toNat
   ·simp [h1,h2,h3]
   ·simp [h1,h2,h3]
  ·simp [h1,h2]
 ·simp [h1]
theorem apart_eq {a b:Int} (ha:0 ≤ a ∧ a ≤ 15) (hb:0 ≤ b ∧ b ≤ 15):land_apart.f a b = some (decide (¬ near a b)) := by
 unfold land_apart.f near
 rw [wrap_in (x:=a - b) (by omega) (by omega),wrap_in (x:=b - a) (by omega) (by omega)]
 by_cases h:a - b > 1
 ·rw [if_pos h,decide_eq_true (by omega)]
 ·rw [if_neg h];congr 1;apply decide_eq_decide.2;omega
theorem mulle {a b m n:Nat} (h1:a ≤ m) (h2:b ≤ n):a * b ≤ m * n := Nat.mul_le_mul h1 h2
theorem mulw (y w:Nat) (hy:y ≤ 40) (hw:w ≤ 40):wrap64 ((y:Int) * wrap64 ((w:Int) + 1)) = ((y * (w + 1):Nat):Int) := by
 have h:y * (w + 1) ≤ 40 * 41:=mulle hy (by omega)
 have e:(y:Int) * ((w:Int) + 1) = ((y * (w + 1):Nat):Int):=by push_cast;rfl
 rw [wrap_in (x:=(w:Int) + 1) (by omega) (by omega),e,wrap_in (by omega) (by omega)]
theorem idxw (y w x:Nat) (hy:y ≤ 40) (hw:w ≤ 40) (hx:x ≤ 40):wrap64 (wrap64 ((y:Int) * wrap64 ((w:Int) + 1)) + (x:Int)) = ((y * (w + 1) + x:Nat):Int) := by
 have h:y * (w + 1) ≤ 40 * 41:=mulle hy (by omega)
 rw [mulw y w hy hw,wrap_in (by omega) (by omega)];omega
theorem sucw (n:Nat) (h:n ≤ 100000):wrap64 ((n:Int) + 1) = ((n + 1:Nat):Int) := by rw [wrap_in (by omega) (by omega)]; omega
section
variable {w h : Nat} {C : List Int}
open Classical in
theorem land_scan (hw:w ≤ 32) (hh:h ≤ 32) (hl:C.length = (w + 1) * (h + 1)) (hz:Zs C):Ev (fun k => land_Validate.l1 k 0 (w:Int) (h:Int) C) (if (∀ y,0 ≤ y → y < h + 1 → ∀ x,0 ≤ x → x < w + 1 → PQ C w h y x) then 0 else 5) := by
 have zr:∀ j,j < C.length → 0 ≤ C.getD j 0 ∧ C.getD j 0 ≤ 15:=fun j hj=>hz j (Nat.zero_le _) hj
 have len:∀ y x,y ≤ h → x ≤ w → y * (w + 1) + x < C.length:=by
  intro y x hy hx
  have:=mulle hy (Nat.le_refl (w + 1))
  have e:(w + 1) * (h + 1) = h * (w + 1) + (w + 1):=by rw [Nat.mul_comm,Nat.succ_mul]
  omega
 have good:∀ y,y ≤ h → ∀ x,x < w + 1 → PQ C w h y x → ∀ r,Ev (fun k=>land_Validate.l2 k (y:Int) ((x:Int) + 1) (w:Int) (h:Int) C) r → Ev (fun k=>land_Validate.l2 k (y:Int) (x:Int) (w:Int) (h:Int) C) r:=by
  intro y hy x hx ⟨p1,p2⟩ r hr
  have hlen:=len y x hy (by omega)
  refine Ev.step (fun k=>by simp only [land_Validate.l2];rfl) ?_
  simp only [idxw y w x (by omega) (by omega) (by omega),sucw y (by omega),idxw (y + 1) w x (by omega) (by omega) (by omega),sucw x (by omega)]
  have hb:y * (w + 1) + x ≤ 100000:=by have:=mulle (show y ≤ 40 by omega) (show w + 1 ≤ 40 by omega);omega
  simp only [sucw (y * (w + 1) + x) hb,rdN]
  have hr':Ev (fun k=>land_Validate.l2 k (y:Int) ((x + 1:Nat):Int) (w:Int) (h:Int) C) r:=by simpa using hr
  refine Ev.pos (by omega) (Ev.pos (by omega) (Ev.pos (by omega) ?_))
  by_cases hxw:x < w
  ·have hl2:=len y (x + 1) hy (by omega)
   refine Ev.pos (by omega) (Ev.pos (by omega) (Ev.pos (by omega) ?_))
   refine Ev.bindc (apart_eq (zr _ hlen) (zr _ (by omega))) (Ev.neg (by rw [decide_eq_true_eq];exact fun hc=>hc (p1 hxw)) ?_)
   by_cases hyh:y < h
   ·have hl3:=len (y + 1) x (by omega) (by omega)
    exact Ev.pos (by omega) (Ev.pos (by omega) (Ev.pos (by omega) (Ev.bindc (apart_eq (zr _ hlen) (zr _ hl3)) (Ev.neg (by rw [decide_eq_true_eq];exact fun hc=>hc (p2 hyh)) hr'))))
   ·exact Ev.neg (by omega) hr'
  ·refine Ev.neg (by omega) ?_
   by_cases hyh:y < h
   ·have hl3:=len (y + 1) x (by omega) (by omega)
    exact Ev.pos (by omega) (Ev.pos (by omega) (Ev.pos (by omega) (Ev.bindc (apart_eq (zr _ hlen) (zr _ hl3)) (Ev.neg (by rw [decide_eq_true_eq];exact fun hc=>hc (p2 hyh)) hr'))))
   ·exact Ev.neg (by omega) hr'
 have bad:∀ y,y ≤ h → ∀ x,x < w + 1 → ¬ PQ C w h y x → Ev (fun k=>land_Validate.l2 k (y:Int) (x:Int) (w:Int) (h:Int) C) 5:=by
  intro y hy x hx hp
  have hlen:=len y x hy (by omega)
  refine Ev.step (fun k=>by simp only [land_Validate.l2];rfl) ?_
  simp only [idxw y w x (by omega) (by omega) (by omega),sucw y (by omega),idxw (y + 1) w x (by omega) (by omega) (by omega),sucw x (by omega)]
  have hb:y * (w + 1) + x ≤ 100000:=by have:=mulle (show y ≤ 40 by omega) (show w + 1 ≤ 40 by omega);omega
  simp only [sucw (y * (w + 1) + x) hb,rdN]
  refine Ev.pos (by omega) (Ev.pos (by omega) (Ev.pos (by omega) ?_))
  have dn:¬ (y < h → near (z C (y * (w + 1) + x)) (z C ((y + 1) * (w + 1) + x))) → ∀ {r:Nat → Option Int},Ev (fun k=>if (y:Int) < (h:Int) then (if 0 ≤ (((y + 1) * (w + 1) + x:Nat):Int) then (if (((y + 1) * (w + 1) + x:Nat):Int) < (C.length:Int) then ((land_apart.f (C.getD (y * (w + 1) + x) 0) (C.getD ((y + 1) * (w + 1) + x) 0)).bind fun t=>if t = true then some 5 else r k) else none) else none) else r k) 5:=by
   intro hc r
   have hyh:y < h:=Classical.byContradiction fun hn=>hc fun h1=>absurd h1 hn
   have hl3:=len (y + 1) x (by omega) (by omega)
   exact Ev.pos (by omega) (Ev.pos (by omega) (Ev.pos (by omega) (Ev.bindc (apart_eq (zr _ hlen) (zr _ hl3)) (Ev.pos (by rw [decide_eq_true_eq];exact fun hn=>hc fun _=>hn) (Ev.now _)))))
  by_cases hxw:x < w
  ·have hl2:=len y (x + 1) hy (by omega)
   refine Ev.pos (by omega) (Ev.pos (by omega) (Ev.pos (by omega) ?_))
   refine Ev.bindc (apart_eq (zr _ hlen) (zr _ (by omega))) ?_
   by_cases hn:near (C.getD (y * (w + 1) + x) 0) (C.getD (y * (w + 1) + x + 1) 0)
   ·refine Ev.neg (by rw [decide_eq_true_eq];exact fun hc=>hc hn) (dn fun hc=>hp ⟨fun _=>hn,hc⟩)
   ·exact Ev.pos (by rw [decide_eq_true_eq];exact hn) (Ev.now _)
  ·exact Ev.neg (by omega) (dn fun hc=>hp ⟨fun h1=>absurd h1 hxw,hc⟩)
 have rowend:∀ y,y ≤ h → ∀ r,Ev (fun k=>land_Validate.l1 k ((y:Int) + 1) (w:Int) (h:Int) C) r → Ev (fun k=>land_Validate.l2 k (y:Int) ((w + 1:Nat):Int) (w:Int) (h:Int) C) r:=by
  intro y hy r hr
  refine Ev.step (fun k=>by simp only [land_Validate.l2];rfl) ?_
  rw [sucw y (by omega)]
  exact Ev.neg (by omega) (by simpa using hr)
 have rowgood:∀ y,y < h + 1 → (∀ x,0 ≤ x → x < w + 1 → PQ C w h y x) → ∀ r,Ev (fun k=>land_Validate.l1 k ((y:Int) + 1) (w:Int) (h:Int) C) r → Ev (fun k=>land_Validate.l1 k (y:Int) (w:Int) (h:Int) C) r:=by
  intro y hy hp r hr
  refine Ev.step (fun k=>by simp only [land_Validate.l1];rfl) (Ev.pos (by omega) ?_)
  exact Ev.scan_all (g:=fun k i=>land_Validate.l2 k (y:Int) i (w:Int) (h:Int) C) (rowend y (by omega) r hr) (good y (by omega)) (w + 1) 0 (by omega) hp
 have rowbad:∀ y,y < h + 1 → ¬ (∀ x,0 ≤ x → x < w + 1 → PQ C w h y x) → Ev (fun k=>land_Validate.l1 k (y:Int) (w:Int) (h:Int) C) 5:=by
  intro y hy hp
  refine Ev.step (fun k=>by simp only [land_Validate.l1];rfl) (Ev.pos (by omega) ?_)
  exact Ev.scan_some (g:=fun k i=>land_Validate.l2 k (y:Int) i (w:Int) (h:Int) C) (good y (by omega)) (bad y (by omega)) (w + 1) 0 (by omega) (not_all hp)
 have fin:Ev (fun k=>land_Validate.l1 k ((h + 1:Nat):Int) (w:Int) (h:Int) C) 0:=Ev.step (fun k=>by simp only [land_Validate.l1];rfl) (Ev.neg (by omega) (Ev.now _))
 by_cases g:∀ y,0 ≤ y → y < h + 1 → ∀ x,0 ≤ x → x < w + 1 → PQ C w h y x
 ·rw [if_pos g]
  exact Ev.scan_all (g:=fun k i=>land_Validate.l1 k i (w:Int) (h:Int) C) (p:=fun y=>∀ x,0 ≤ x → x < w + 1 → PQ C w h y x) fin rowgood (h + 1) 0 (by omega) g
 ·rw [if_neg g]
  exact Ev.scan_some (g:=fun k i=>land_Validate.l1 k i (w:Int) (h:Int) C) (p:=fun y=>∀ x,0 ≤ x → x < w + 1 → PQ C w h y x) rowgood rowbad (h + 1) 0 (by omega) (not_all g)
end
theorem area_nat {n w h:Nat} (e:(n:Int) = ((w:Int) + 1) * ((h:Int) + 1)):n = (w + 1) * (h + 1) := by
 have h2:(w:Int) + 1 = ((w + 1:Nat):Int):=by omega
 have h3:(h:Int) + 1 = ((h + 1:Nat):Int):=by omega
 rw [h2,h3,← Int.natCast_mul] at e
 omega
theorem flat_iff {w h:Nat} {C:List Int}:Flat C w h ↔ ∀ y,0 ≤ y → y < h + 1 → ∀ x,0 ≤ x → x < w + 1 → PQ C w h y x :=
 ⟨fun f y _ hy x _ hx=>f y (by omega) x (by omega),fun f y hy x hx=>f y (Nat.zero_le _) (by omega) x (Nat.zero_le _) (by omega)⟩
theorem land_ev {W H:Int} {C:List Int} (hl:C.length ≤ 4000):Ev (fun k => land_Validate.f k W H C) (lcode W H C) := by
 unfold land_Validate.f
 have bad:¬ LShape W H C → ∀ q,q = true → Ev (fun k=>land_Validate.j0 k q W H C) (lcode W H C):=by
  intro h q hq
  refine Ev.eq (Ev.step (fun k=>by simp only [land_Validate.j0];rfl) (Ev.pos hq (Ev.now _))) (if_neg h).symm
 by_cases w0:W < 4
 ·exact Ev.pos w0 (bad (fun h=>by have:=h.1;omega) _ rfl)
 refine Ev.neg w0 ?_
 by_cases w1:W > 32
 ·exact Ev.pos w1 (bad (fun h=>by have:=h.1;omega) _ rfl)
 refine Ev.neg w1 ?_
 by_cases h0:H < 4
 ·exact Ev.pos h0 (bad (fun h=>by have:=h.2.1;omega) _ rfl)
 refine Ev.neg h0 ?_
 by_cases h1:H > 32
 ·exact Ev.pos h1 (bad (fun h=>by have:=h.2.1;omega) _ rfl)
 refine Ev.neg h1 ?_
 obtain ⟨w,rfl⟩:=Int.eq_ofNat_of_zero_le (show 0 ≤ W by omega)
 obtain ⟨h,rfl⟩:=Int.eq_ofNat_of_zero_le (show 0 ≤ H by omega)
 have hm:(w + 1) * (h + 1) ≤ 40 * 40:=mulle (by omega) (by omega)
 have e:wrap64 (wrap64 ((w:Int) + 1) * wrap64 ((h:Int) + 1)) = (((w + 1) * (h + 1):Nat):Int):=by
  rw [sucw w (by omega),sucw h (by omega),← Int.natCast_mul,wrap_in (by omega) (by omega)]
 rw [e]
 by_cases l1:C.length = (w + 1) * (h + 1)
 rotate_left
 ·exact bad (fun hs=>l1 (area_nat hs.2.2)) _ (bne_iff_ne.2 (by omega))
 have hs:LShape (w:Int) (h:Int) C:=⟨⟨by omega,by omega⟩,⟨by omega,by omega⟩,by rw [l1];push_cast;rfl⟩
 rw [show ((C.length:Int) != (((w + 1) * (h + 1):Nat):Int)) = false from bne_eq_false_iff_eq.2 (by omega)]
 refine Ev.eq ?_ (if_pos hs).symm
 refine Ev.step (fun k=>by simp only [land_Validate.j0];rfl) (Ev.neg (by simp) ?_)
 have good1:∀ i,i < C.length → ZAt C i → ∀ r,Ev (fun k=>land_Validate.l0 k C (C.length:Int) ((i:Int) + 1) (w:Int) (h:Int) C) r → Ev (fun k=>land_Validate.l0 k C (C.length:Int) (i:Int) (w:Int) (h:Int) C) r:=by
  intro i hi p r hr
  unfold ZAt z at p
  refine Ev.step (fun k=>by simp only [land_Validate.l0];rfl) ?_
  rw [rdN,wrap_in (x:=(i:Int) + 1) (by omega) (by omega)]
  exact Ev.pos (by omega) (Ev.pos (by omega) (Ev.pos (by omega) (Ev.neg (by omega) (Ev.neg (by omega) hr))))
 have bad1:∀ i,i < C.length → ¬ ZAt C i → Ev (fun k=>land_Validate.l0 k C (C.length:Int) (i:Int) (w:Int) (h:Int) C) 1:=by
  intro i hi p
  unfold ZAt z at p
  refine Ev.step (fun k=>by simp only [land_Validate.l0];rfl) ?_
  rw [rdN]
  refine Ev.pos (by omega) (Ev.pos (by omega) (Ev.pos (by omega) ?_))
  by_cases q1:C.getD i 0 < 0
  ·exact Ev.pos q1 (Ev.now _)
  exact Ev.neg q1 (Ev.pos (by omega) (Ev.now _))
 by_cases g1:Zs C
 ·refine Ev.eq ?_ (if_pos g1).symm
  have fin:=land_scan (w:=w) (h:=h) (by omega) (by omega) l1 g1
  refine Ev.scan_all (g:=fun k i=>land_Validate.l0 k C (C.length:Int) i (w:Int) (h:Int) C) (Ev.step (fun k=>by simp only [land_Validate.l0];rfl) (Ev.neg (by omega) ?_)) good1 C.length 0 (by omega) g1
  simp only [Int.toNat_natCast]
  by_cases g2:Flat C w h
  ·rw [if_pos (flat_iff.1 g2)] at fin;rw [if_pos g2];exact fin
  ·rw [if_neg (fun hc=>g2 (flat_iff.2 hc))] at fin;rw [if_neg g2];exact fin
 ·exact Ev.eq (Ev.scan_some (g:=fun k i=>land_Validate.l0 k C (C.length:Int) i (w:Int) (h:Int) C) good1 bad1 C.length 0 (by omega) (not_all g1)) (if_neg g1).symm
def co (w t : Nat) : Nat := t / w * (w + 1) + t % w
def lo4 (a b c d : Int) : Int := mn (mn (mn a b) c) d
def hi4 (a b c d : Int) : Int := mx (mx (mx a b) c) d
def stp (s a x i : Int) : Int := if x > a then (if x > a + 1 then Go.bits .or .i64 (Go.bits .or .i64 s (shl .i64 1 i)) 16 else Go.bits .or .i64 s (shl .i64 1 i)) else (if x > a + 1 then Go.bits .or .i64 s 16 else s)
def slp (a z0 z1 z2 z3 : Int) : Int := stp (stp (stp (stp 0 a z0 0) a z1 1) a z2 2) a z3 3
def bit (b : Bool) (v : Int) : Int := if b then v else 0
def stB (s : Int) (b d : Bool) (i : Int) : Int := if b then (if d then Go.bits .or .i64 (Go.bits .or .i64 s (shl .i64 1 i)) 16 else Go.bits .or .i64 s (shl .i64 1 i)) else (if d then Go.bits .or .i64 s 16 else s)
theorem stp_B (s a x i:Int):stp s a x i = stB s (decide (x > a)) (decide (x > a + 1)) i := by
 unfold stp stB
 by_cases h1:x > a <;> by_cases h2:x > a + 1 <;> simp [h1,h2]
theorem slB:∀ b0 d0 b1 d1 b2 d2 b3 d3:Bool,stB (stB (stB (stB 0 b0 d0 0) b1 d1 1) b2 d2 2) b3 d3 3 = bit b0 1 + bit b1 2 + bit b2 4 + bit b3 8 + bit (d0 || d1 || d2 || d3) 16 := by decide +kernel
theorem slp_eq (a z0 z1 z2 z3:Int):slp a z0 z1 z2 z3 = bit (decide (z0 > a)) 1 + bit (decide (z1 > a)) 2 + bit (decide (z2 > a)) 4 + bit (decide (z3 > a)) 8 + bit (decide (z0 > a + 1) || decide (z1 > a + 1) || decide (z2 > a + 1) || decide (z3 > a + 1)) 16 := by
 unfold slp
 rw [stp_B,stp_B,stp_B,stp_B,slB]
theorem bit_le (b:Bool) (v:Int) (h:0 ≤ v):0 ≤ bit b v ∧ bit b v ≤ v := by cases b <;> simp [bit] <;> omega
theorem lo4_le (a b c d:Int):lo4 a b c d ≤ a ∧ lo4 a b c d ≤ b ∧ lo4 a b c d ≤ c ∧ lo4 a b c d ≤ d ∧ (lo4 a b c d = a ∨ lo4 a b c d = b ∨ lo4 a b c d = c ∨ lo4 a b c d = d) := by
 unfold lo4 mn;repeat' split
 all_goals omega
theorem hi4_ge (a b c d:Int):a ≤ hi4 a b c d ∧ b ≤ hi4 a b c d ∧ c ≤ hi4 a b c d ∧ d ≤ hi4 a b c d ∧ (hi4 a b c d = a ∨ hi4 a b c d = b ∨ hi4 a b c d = c ∨ hi4 a b c d = d) := by
 unfold hi4 mx;repeat' split
 all_goals omega
section
variable (w : Nat) (C : List Int) (t : Nat)
def zk (k : Nat) : Int := match k with | 0 => z C (co w t) | 1 => z C (co w t + 1) | 2 => z C (co w t + w + 2) | _ => z C (co w t + w + 1)
def base (w : Nat) (C : List Int) (t : Nat) : Int := lo4 (zk w C t 0) (zk w C t 1) (zk w C t 2) (zk w C t 3)
def top (w : Nat) (C : List Int) (t : Nat) : Int := hi4 (zk w C t 0) (zk w C t 1) (zk w C t 2) (zk w C t 3)
def slope (w : Nat) (C : List Int) (t : Nat) : Int := slp (base w C t) (zk w C t 0) (zk w C t 1) (zk w C t 2) (zk w C t 3)
def sea (w : Nat) (C : List Int) (t : Nat) : Bool := decide (top w C t ≤ 2)
end
structure Land (w h : Nat) (C : List Int) : Prop where
 w0:4 ≤ w
 w1:w ≤ 32
 h0:4 ≤ h
 h1:h ≤ 32
 len:C.length = (w + 1) * (h + 1)
 zs:Zs C
 flat:Flat C w h
theorem land_of {W H:Int} {C:List Int} (e:lcode W H C = 0):∃ w h:Nat,W = (w:Int) ∧ H = (h:Int) ∧ Land w h C := by
 obtain ⟨⟨hW,hH,hl⟩,hz,hf⟩:=lcode_zero.1 e
 obtain ⟨w,rfl⟩:=Int.eq_ofNat_of_zero_le (show 0 ≤ W by omega)
 obtain ⟨h,rfl⟩:=Int.eq_ofNat_of_zero_le (show 0 ≤ H by omega)
 exact ⟨w,h,rfl,rfl,by omega,by omega,by omega,by omega,area_nat hl,hz,by simpa using hf⟩
theorem of_land {w h:Nat} {C:List Int} (L:Land w h C):lcode (w:Int) (h:Int) C = 0 := by
 have:=L.w0
 have:=L.w1
 have:=L.h0
 have:=L.h1
 exact lcode_zero.2 ⟨⟨⟨by omega,by omega⟩,⟨by omega,by omega⟩,by rw [L.len];push_cast;rfl⟩,L.zs,by simpa using L.flat⟩
section
variable {w h : Nat} {C : List Int}
theorem tile {t:Nat} (ht:t < w * h):t / w < h ∧ t % w < w ∧ t / w * w + t % w = t := by
 have hw:0 < w:=by
  rcases Nat.eq_zero_or_pos w with rfl | hp
  ·simp at ht
  ·exact hp
 exact ⟨by rw [Nat.div_lt_iff_lt_mul hw,Nat.mul_comm];exact ht,Nat.mod_lt _ hw,by rw [Nat.mul_comm];exact Nat.div_add_mod t w⟩
theorem co_lt (L:Land w h C) {t:Nat} (ht:t < w * h):co w t + w + 2 < C.length ∧ co w t + w + 2 ≤ 2000 := by
 obtain ⟨h1,h2,_⟩:=tile ht
 have:=L.w1
 have:=L.h1
 have e:(w + 1) * (h + 1) = h * (w + 1) + (w + 1):=by rw [Nat.mul_comm,Nat.succ_mul]
 have h3:=Nat.mul_le_mul_right (w + 1) (show t / w + 1 ≤ h by omega)
 rw [Nat.succ_mul] at h3
 have h4:h * (w + 1) ≤ 32 * 33:=mulle L.h1 (by omega)
 rw [L.len,e]
 unfold co
 omega
theorem zk_in (L:Land w h C) {t:Nat} (ht:t < w * h) (k:Nat):0 ≤ zk w C t k ∧ zk w C t k ≤ 15 := by
 have hc:=co_lt L ht
 match k with
 | 0=>exact L.zs _ (Nat.zero_le _) (by omega)
 | 1=>exact L.zs _ (Nat.zero_le _) (by omega)
 | 2=>exact L.zs _ (Nat.zero_le _) (by omega)
 | k + 3=>exact L.zs _ (Nat.zero_le _) (by omega)
theorem zk_near (L:Land w h C) {t:Nat} (ht:t < w * h):near (zk w C t 0) (zk w C t 1) ∧ near (zk w C t 0) (zk w C t 3) ∧ near (zk w C t 1) (zk w C t 2) ∧ near (zk w C t 3) (zk w C t 2) := by
 obtain ⟨h1,h2,_⟩:=tile ht
 have e:(t / w + 1) * (w + 1) = t / w * (w + 1) + (w + 1):=Nat.succ_mul _ _
 have p:=L.flat (t / w) (by omega) (t % w) (by omega)
 have q:=L.flat (t / w) (by omega) (t % w + 1) (by omega)
 have s:=L.flat (t / w + 1) (by omega) (t % w) (by omega)
 refine ⟨p.1 h2,?_,?_,?_⟩
 ·have:=p.2 h1
  rw [e,show t / w * (w + 1) + (w + 1) + t % w = t / w * (w + 1) + t % w + w + 1 by omega] at this
  exact this
 ·have:=q.2 h1
  rw [e,show t / w * (w + 1) + (w + 1) + (t % w + 1) = t / w * (w + 1) + t % w + w + 2 by omega,← Nat.add_assoc] at this
  exact this
 ·have:=s.1 h2
  rw [e,show t / w * (w + 1) + (w + 1) + t % w = t / w * (w + 1) + t % w + w + 1 by omega] at this
  exact this
theorem base_in (L:Land w h C) {t:Nat} (ht:t < w * h):0 ≤ base w C t ∧ base w C t ≤ 15 := by
 have h0:=zk_in L ht 0
 have h1:=zk_in L ht 1
 have h2:=zk_in L ht 2
 have h3:=zk_in L ht 3
 have:=lo4_le (zk w C t 0) (zk w C t 1) (zk w C t 2) (zk w C t 3)
 unfold base
 omega
theorem top_in (L:Land w h C) {t:Nat} (ht:t < w * h):base w C t ≤ top w C t ∧ top w C t ≤ base w C t + 2 ∧ top w C t ≤ 15 := by
 have h0:=zk_in L ht 0
 have h1:=zk_in L ht 1
 have h2:=zk_in L ht 2
 have h3:=zk_in L ht 3
 obtain ⟨n1,n2,n3,n4⟩:=zk_near L ht
 unfold near at n1 n2 n3 n4
 have:=lo4_le (zk w C t 0) (zk w C t 1) (zk w C t 2) (zk w C t 3)
 have:=hi4_ge (zk w C t 0) (zk w C t 1) (zk w C t 2) (zk w C t 3)
 unfold base top
 omega
theorem slope_in (t:Nat):0 ≤ slope w C t ∧ slope w C t ≤ 31 := by
 unfold slope
 rw [slp_eq]
 have:=bit_le (decide (zk w C t 0 > base w C t)) 1 (by decide)
 have:=bit_le (decide (zk w C t 1 > base w C t)) 2 (by decide)
 have:=bit_le (decide (zk w C t 2 > base w C t)) 4 (by decide)
 have:=bit_le (decide (zk w C t 3 > base w C t)) 8 (by decide)
 have:=bit_le (decide (zk w C t 0 > base w C t + 1) || decide (zk w C t 1 > base w C t + 1) || decide (zk w C t 2 > base w C t + 1) || decide (zk w C t 3 > base w C t + 1)) 16 (by decide)
 omega
def gS (w h : Nat) (C : List Int) : List Int := (List.range (w * h)).map (slope w C)
def gB (w h : Nat) (C : List Int) : List Int := (List.range (w * h)).map (base w C)
def gE (w h : Nat) (C : List Int) : List Bool := (List.range (w * h)).map (sea w C)
theorem g_len:(gS w h C).length = w * h ∧ (gB w h C).length = w * h ∧ (gE w h C).length = w * h := by simp [gS,gB,gE]
theorem gS_at {t:Nat} (ht:t < w * h):(gS w h C).getD t 0 = slope w C t := by simp [gS,ht]
theorem gB_at {t:Nat} (ht:t < w * h):(gB w h C).getD t 0 = base w C t := by simp [gB,ht]
theorem gE_at {t:Nat} (ht:t < w * h):(gE w h C).getD t false = sea w C t := by simp [gE,ht]
theorem idx_t (L:Land w h C) {t:Nat} (ht:t < w * h):wrap64 (wrap64 (wrap64 (Int.tdiv (t:Int) (w:Int)) * wrap64 ((w:Int) + 1)) + Int.tmod (t:Int) (w:Int)) = ((co w t:Nat):Int) := by
 obtain ⟨h1,h2,_⟩:=tile ht
 have:=L.w1
 have:=L.h1
 have e1:Int.tdiv (t:Int) (w:Int) = ((t / w:Nat):Int):=rfl
 have e2:Int.tmod (t:Int) (w:Int) = ((t % w:Nat):Int):=rfl
 rw [e1,e2]
 unfold co
 clear e1 e2
 generalize t / w = y at h1 ⊢
 generalize t % w = x at h2 ⊢
 rw [wrap_in (x:=((y:Nat):Int)) (by omega) (by omega),idxw _ _ _ (by omega) (by omega) (by omega)]
theorem idx_2 (n w:Nat) (hn:n ≤ 2000) (hw:w ≤ 40):wrap64 (wrap64 ((n:Int) + (w:Int)) + 2) = ((n + w + 2:Nat):Int) ∧ wrap64 (wrap64 ((n:Int) + (w:Int)) + 1) = ((n + w + 1:Nat):Int) := by
 rw [wrap_in (x:=(n:Int) + (w:Int)) (by omega) (by omega),wrap_in (by omega) (by omega),wrap_in (by omega) (by omega)]
 omega
theorem fold1 {a s n t:Int} {q:S126} {W H:Int} {Cc:List Int} {gw gh:Int} {g2 g3:List Int} {g4:List Bool} {p0 p1 p2 p3:Int} {r:Int × Int × List Int × List Int × List Bool × Int} (ha:0 ≤ a ∧ a ≤ 15) (i:Int) (hi:0 ≤ i ∧ i < 4)
  (k:Ev (fun k=>water_groundOf.l1 k a (stp s a (ix126 q i) i) n t q (i + 1) W H Cc gw gh g2 g3 g4 p0 p1 p2 p3) r):Ev (fun k=>water_groundOf.l1 k a s n t q i W H Cc gw gh g2 g3 g4 p0 p1 p2 p3) r:=by
 refine Ev.step (fun k=>by simp only [water_groundOf.l1];rfl) (Ev.pos hi.2 (Ev.pos hi.1 ?_))
 rw [wrap_in (x:=a + 1) (by omega) (by omega),wrap_in (x:=i + 1) (by omega) (by omega)]
 unfold stp at k
 by_cases h1:ix126 q i > a
 ·rw [if_pos h1] at k
  by_cases h2:ix126 q i > a + 1
  ·rw [if_pos h2] at k;exact Ev.pos h1 (Ev.pos h2 k)
  ·rw [if_neg h2] at k;exact Ev.pos h1 (Ev.neg h2 k)
 ·rw [if_neg h1] at k
  by_cases h2:ix126 q i > a + 1
  ·rw [if_pos h2] at k;exact Ev.neg h1 (Ev.pos h2 k)
  ·rw [if_neg h2] at k;exact Ev.neg h1 (Ev.neg h2 k)
theorem ground_scan (L:Land w h C):∀ d t,t + d = w * h → Ev (fun k => water_groundOf.l0 k ((w * h:Nat):Int) (t:Int) (w:Int) (h:Int) C (w:Int) (h:Int) ((List.range t).map (slope w C)) ((List.range t).map (base w C)) ((List.range t).map (sea w C))) ((w:Int),(h:Int),gS w h C,gB w h C,gE w h C,0)
 | 0,t,e=>by
  obtain rfl:t = w * h:=by omega
  exact Ev.step (fun k=>by simp only [water_groundOf.l0];rfl) (Ev.neg (by omega) (Ev.now _))
 | d + 1,t,e=>by
  have ih:=ground_scan L d (t + 1) (by omega)
  have ht:t < w * h:=by omega
  have hc:=co_lt L ht
  have:=L.w0
  have hb:=base_in L ht
  have hwh:w * h ≤ 32 * 32:=mulle L.w1 L.h1
  refine Ev.step (fun k=>by simp only [water_groundOf.l0];rfl) (Ev.pos (by omega) (Ev.neg (by omega) ?_))
  simp only [idx_t L ht,(idx_2 (co w t) w (by omega) (by have:=L.w1;omega)).1,(idx_2 (co w t) w (by omega) (by have:=L.w1;omega)).2,sucw (co w t) (by omega),sucw t (by omega),rdN]
  refine Ev.pos (by omega) (Ev.pos (by omega) (Ev.pos (by omega) (Ev.pos (by omega) (Ev.pos (by omega) (Ev.pos (by omega) (Ev.pos (by omega) (Ev.pos (by omega) ?_)))))))
  change Ev (fun k=>water_groundOf.l1 k (base w C t) 0 ((w * h:Nat):Int) (t:Int) (⟨zk w C t 0,zk w C t 1,zk w C t 2,zk w C t 3⟩:S126) 0 (w:Int) (h:Int) C (w:Int) (h:Int) ((List.range t).map (slope w C)) ((List.range t).map (base w C)) ((List.range t).map (sea w C)) (zk w C t 0) (zk w C t 1) (zk w C t 2) (zk w C t 3)) _
  refine fold1 hb 0 (by decide) (fold1 hb 1 (by decide) (fold1 hb 2 (by decide) (fold1 hb 3 (by decide) ?_)))
  change Ev (fun k=>water_groundOf.l1 k (base w C t) (slope w C t) ((w * h:Nat):Int) (t:Int) (⟨zk w C t 0,zk w C t 1,zk w C t 2,zk w C t 3⟩:S126) 4 (w:Int) (h:Int) C (w:Int) (h:Int) ((List.range t).map (slope w C)) ((List.range t).map (base w C)) ((List.range t).map (sea w C)) (zk w C t 0) (zk w C t 1) (zk w C t 2) (zk w C t 3)) _
  refine Ev.step (fun k=>by simp only [water_groundOf.l1];rfl) (Ev.neg (by decide) (Ev.bindc rfl (Ev.pos ?_ (Ev.bindc rfl (Ev.pos ?_ (Ev.bindc rfl (Ev.pos ?_ ?_)))))))
  ·simp;omega
  ·simp;omega
  ·simp;omega
  rw [sucw t (by omega)]
  have e1:∀ {α:Type} (f:Nat → α),(List.range (t + 1)).map f = (List.range t).map f ++ [f t]:=fun f=>by rw [List.range_succ,List.map_append];rfl
  rw [e1,e1,e1] at ih
  exact ih
end
open Classical in
theorem ground_ev {W H:Int} {C:List Int} (hl:C.length ≤ 4000):Ev (fun k => water_groundOf.f k W H C) (if lcode W H C = 0 then (W,H,gS W.toNat H.toNat C,gB W.toNat H.toNat C,gE W.toNat H.toNat C,0) else (0,0,[],[],[],lcode W H C)) := by
 unfold water_groundOf.f
 refine Ev.bind (land_ev hl) ?_
 by_cases e:lcode W H C = 0
 ·rw [if_pos e]
  refine Ev.pos e ?_
  obtain ⟨w,h,rfl,rfl,L⟩:=land_of e
  have hwh:w * h ≤ 32 * 32:=mulle L.w1 L.h1
  rw [← Int.natCast_mul,wrap_in (by omega) (by omega)]
  exact ground_scan L (w * h) 0 (by omega)
 ·rw [if_neg e]
  exact Ev.neg e (Ev.now _)
def inc (s : Int) : Prop := s = 3 ∨ s = 6 ∨ s = 9 ∨ s = 12
instance (s : Int) : Decidable (inc s) := inferInstanceAs (Decidable (_ ∨ _))
def lie (e : Bool) (s k : Int) : Int := if k = 1 then (if e then 9 else if s = 0 then 0 else 5) else if k = 2 then (if e then 9 else if inc s then 0 else 5) else if k = 3 then (if e then 0 else if s = 0 then 0 else 9) else 0
theorem incline_eq (s:Int):water_incline.f s = some (decide (inc s)) := by
 unfold water_incline.f inc
 by_cases h1:s = 3
 ·simp [h1]
 by_cases h2:s = 6
 ·simp [h2]
 by_cases h3:s = 9
 ·simp [h3]
 by_cases h4:s = 12
 ·simp [h4]
 simp [h1,h2,h3,h4]
section
variable {w h : Nat} {C : List Int}
theorem may_ev {t:Nat} (ht:t < w * h) (k0:Int):Ev (fun k => water_ground_may.f k (w:Int) (h:Int) (gS w h C) (gB w h C) (gE w h C) (t:Int) k0) (lie (sea w C t) (slope w C t) k0) := by
 obtain ⟨l1,l2,l3⟩:=g_len (w:=w) (h:=h) (C:=C)
 have b1:(0:Int) ≤ (t:Int):=by omega
 have b2:(t:Int) < ((gS w h C).length:Int):=by omega
 have b3:(t:Int) < ((gE w h C).length:Int):=by omega
 have j2:∀ b:Bool,Ev (fun k=>water_ground_may.j2 k (t:Int) k0 b (w:Int) (h:Int) (gS w h C) (gB w h C) (gE w h C)) (if b = true then 5 else if k0 = 2 then (if inc (slope w C t) then 0 else 5) else 0):=by
  intro b
  refine Ev.step (fun k=>by simp only [water_ground_may.j2];rfl) (Ev.both (fun _=>Ev.now _) fun _=>?_)
  by_cases h2:k0 = 2
  ·refine Ev.eq (Ev.pos h2 (Ev.pos b1 (Ev.pos b2 ?_))) (if_pos h2).symm
   rw [rdN,gS_at ht]
   refine Ev.bindc (incline_eq _) ?_
   by_cases hi:inc (slope w C t)
   ·exact Ev.eq (Ev.pos (by simp [hi]) (Ev.now _)) (if_pos hi).symm
   ·exact Ev.eq (Ev.neg (by simp [hi]) (Ev.now _)) (if_neg hi).symm
  ·exact Ev.eq (Ev.neg h2 (Ev.now _)) (if_neg h2).symm
 have j1:∀ b:Bool,Ev (fun k=>water_ground_may.j1 k (t:Int) k0 b (w:Int) (h:Int) (gS w h C) (gB w h C) (gE w h C)) (if b = true then 9 else if k0 = 1 then (if slope w C t = 0 then 0 else 5) else if k0 = 2 then (if inc (slope w C t) then 0 else 5) else 0):=by
  intro b
  refine Ev.step (fun k=>by simp only [water_ground_may.j1];rfl) (Ev.both (fun _=>Ev.now _) fun _=>?_)
  by_cases h1:k0 = 1
  ·refine Ev.pos h1 (Ev.pos b1 (Ev.pos b2 (Ev.eq (j2 _) ?_)))
   rw [rdN,gS_at ht]
   by_cases hs:slope w C t = 0
   ·simp [hs,h1]
   ·simp [hs,h1]
  ·exact Ev.neg h1 (Ev.eq (j2 false) (by simp [h1]))
 unfold water_ground_may.f
 by_cases h1:k0 = 1
 ·refine Ev.pos h1 (Ev.pos b1 (Ev.pos b3 ?_))
  rw [rdB,gE_at ht]
  refine Ev.step (fun k=>by simp only [water_ground_may.j0];rfl) ?_
  cases he:sea w C t with
  | true=>exact Ev.pos rfl (Ev.eq (j1 true) (by simp [lie,h1]))
  | false =>
   refine Ev.neg (by simp) (Ev.neg (by omega) (Ev.neg (by omega) (Ev.eq (j1 false) ?_)))
   simp [lie,h1]
 ·refine Ev.neg h1 (Ev.step (fun k=>by simp only [water_ground_may.j0];rfl) (Ev.neg (by simp) ?_))
  by_cases h2:k0 = 2
  ·refine Ev.pos h2 (Ev.pos b1 (Ev.pos b3 ?_))
   rw [rdB,gE_at ht]
   cases he:sea w C t with
   | true=>exact Ev.pos rfl (Ev.eq (j1 true) (by simp [lie,h2]))
   | false=>exact Ev.neg (by simp) (Ev.neg (by omega) (Ev.eq (j1 false) (by simp [lie,h2])))
  ·refine Ev.neg h2 ?_
   by_cases h3:k0 = 3
   ·refine Ev.pos h3 (Ev.pos b1 (Ev.pos b3 ?_))
    rw [rdB,gE_at ht]
    cases he:sea w C t with
    | true=>exact Ev.pos rfl (Ev.eq (j1 false) (by simp [lie,h3]))
    | false =>
     refine Ev.neg (by simp) (Ev.pos b2 (Ev.eq (j1 _) ?_))
     rw [rdN,gS_at ht]
     by_cases hs:slope w C t = 0
     ·simp [lie,h3,hs]
     ·simp [lie,h3,hs]
   ·refine Ev.neg h3 (Ev.eq (j1 false) ?_)
    simp [lie,h1,h2,h3]
end
def KAt (K : List Int) (j : Nat) : Prop := 0 ≤ K.getD j 0 ∧ K.getD j 0 ≤ 3
def KOK (K : List Int) : Prop := ∀ j, 0 ≤ j → j < K.length → KAt K j
def IncAt (B : List Int) (j : Nat) : Prop := B.getD (j - 1) 0 < B.getD j 0
def Inc (B : List Int) : Prop := ∀ j, 1 ≤ j → j < max 1 B.length → IncAt B j
def InAt (B : List Int) (n j : Nat) : Prop := 0 ≤ B.getD j 0 ∧ B.getD j 0 < (n : Int)
def InB (B : List Int) (n : Nat) : Prop := ∀ j, 0 ≤ j → j < B.length → InAt B n j
def MayAt (w : Nat) (C K : List Int) (j : Nat) : Prop := lie (sea w C j) (slope w C j) (K.getD j 0) = 0
def May (w : Nat) (C K : List Int) : Prop := ∀ j, 0 ≤ j → j < K.length → MayAt w C K j
def wet (w : Nat) (C K : List Int) (t : Nat) : Bool := sea w C t || (K.getD t 0 != 0)
def WetAt (w : Nat) (C K B : List Int) (j : Nat) : Prop := wet w C K (B.getD j 0).toNat = true
def WetB (w : Nat) (C K B : List Int) : Prop := ∀ j, 0 ≤ j → j < B.length → WetAt w C K B j
structure Waters (w h : Nat) (C K B : List Int) : Prop where
 land:Land w h C
 len:K.length = w * h
 kinds:KOK K
 inc:Inc B
 inB:InB B (w * h)
 may:May w C K
 wetB:WetB w C K B
open Classical in
noncomputable def ucode (w h : Nat) (C K B : List Int) : Int := if K.length = w * h then (if KOK K then (if Inc B then (if InB B (w * h) then (if May w C K then (if WetB w C K B then 0 else 9) else 9) else 2) else 1) else 1) else 1
open Classical in
noncomputable def wcode (W H : Int) (C K B : List Int) : Int := if lcode W H C = 0 then ucode W.toNat H.toNat C K B else lcode W H C
theorem ucode_zero {w h:Nat} {C K B:List Int} (L:Land w h C):ucode w h C K B = 0 ↔ Waters w h C K B := by
 unfold ucode
 by_cases h1:K.length = w * h
 ·by_cases h2:KOK K
  ·by_cases h3:Inc B
   ·by_cases h4:InB B (w * h)
    ·by_cases h5:May w C K
     ·by_cases h6:WetB w C K B
      ·simp only [h1,h2,h3,h4,h5,h6,if_true,true_iff];exact ⟨L,h1,h2,h3,h4,h5,h6⟩
      ·simp only [h1,h2,h3,h4,h5,h6,if_true,if_false];exact ⟨fun h=>absurd h (by decide),fun U=>absurd U.wetB h6⟩
     ·simp only [h1,h2,h3,h4,h5,if_true,if_false];exact ⟨fun h=>absurd h (by decide),fun U=>absurd U.may h5⟩
    ·simp only [h1,h2,h3,h4,if_true,if_false];exact ⟨fun h=>absurd h (by decide),fun U=>absurd U.inB h4⟩
   ·simp only [h1,h2,h3,if_true,if_false];exact ⟨fun h=>absurd h (by decide),fun U=>absurd U.inc h3⟩
  ·simp only [h1,h2,if_true,if_false];exact ⟨fun h=>absurd h (by decide),fun U=>absurd U.kinds h2⟩
 ·simp only [h1,if_false];exact ⟨fun h=>absurd h (by decide),fun U=>absurd U.len h1⟩
theorem waters_of {W H:Int} {C K B:List Int} (e:wcode W H C K B = 0):∃ w h:Nat,W = (w:Int) ∧ H = (h:Int) ∧ Waters w h C K B := by
 unfold wcode at e
 by_cases hl:lcode W H C = 0
 ·rw [if_pos hl] at e
  obtain ⟨w,h,rfl,rfl,L⟩:=land_of hl
  exact ⟨w,h,rfl,rfl,(ucode_zero L).1 (by simpa using e)⟩
 ·rw [if_neg hl] at e;exact absurd e hl
theorem of_waters {w h:Nat} {C K B:List Int} (U:Waters w h C K B):wcode (w:Int) (h:Int) C K B = 0 := by
 unfold wcode
 rw [if_pos (of_land U.land)]
 exact (ucode_zero U.land).2 U
theorem wet_lt {w h:Nat} {C K B:List Int} {t:Nat} (hK:K.length = w * h) (ht:t < w * h):water_ground_wet.f (w:Int) (h:Int) (gS w h C) (gB w h C) (gE w h C) K B (t:Int) = some (wet w C K t) := by
 obtain ⟨l1,l2,l3⟩:=g_len (w:=w) (h:=h) (C:=C)
 unfold water_ground_wet.f wet
 rw [if_pos (by omega),if_pos (by omega),rdB,gE_at ht,rdN]
 cases he:sea w C t with
 | true=>simp
 | false=>rw [if_neg (by simp),if_pos (by omega)];simp
noncomputable def gr (w h : Nat) (C : List Int) (c : Int) : Int × Int × List Int × List Int × List Bool × Int := ((w : Int), (h : Int), gS w h C, gB w h C, gE w h C, c)
section
variable {w h : Nat} {C K B : List Int}
theorem check4 (L:Land w h C) (hK:K.length = w * h) (hB:B.length ≤ 4000) (hin:InB B (w * h)):Ev (fun k => water_check.l4 k B (B.length:Int) 0 K B (w:Int) (h:Int) (gS w h C) (gB w h C) (gE w h C)) (gr w h C (open Classical in if WetB w C K B then 0 else 9)) := by
 have hend:Ev (fun k=>water_check.l4 k B (B.length:Int) (B.length:Int) K B (w:Int) (h:Int) (gS w h C) (gB w h C) (gE w h C)) (gr w h C 0):=Ev.step (fun k=>by simp only [water_check.l4];rfl) (Ev.neg (by omega) (Ev.now _))
 have val:∀ i,i < B.length → water_ground_wet.f (w:Int) (h:Int) (gS w h C) (gB w h C) (gE w h C) K B (B.getD i 0) = some (wet w C K (B.getD i 0).toNat):=by
  intro i hi
  obtain ⟨h1,h2⟩:=hin i (Nat.zero_le _) hi
  have:=wet_lt (B:=B) (C:=C) hK (t:=(B.getD i 0).toNat) (by omega)
  rw [Int.toNat_of_nonneg h1] at this
  exact this
 have good:∀ i,i < B.length → WetAt w C K B i → ∀ r,Ev (fun k=>water_check.l4 k B (B.length:Int) ((i:Int) + 1) K B (w:Int) (h:Int) (gS w h C) (gB w h C) (gE w h C)) r → Ev (fun k=>water_check.l4 k B (B.length:Int) (i:Int) K B (w:Int) (h:Int) (gS w h C) (gB w h C) (gE w h C)) r:=by
  intro i hi p r hr
  refine Ev.step (fun k=>by simp only [water_check.l4];rfl) ?_
  rw [rdN,wrap_in (x:=(i:Int) + 1) (by omega) (by omega)]
  exact Ev.pos (by omega) (Ev.pos (by omega) (Ev.pos (by omega) (Ev.bindc (val i hi) (Ev.pos p hr))))
 have bad:∀ i,i < B.length → ¬ WetAt w C K B i → Ev (fun k=>water_check.l4 k B (B.length:Int) (i:Int) K B (w:Int) (h:Int) (gS w h C) (gB w h C) (gE w h C)) (gr w h C 9):=by
  intro i hi p
  refine Ev.step (fun k=>by simp only [water_check.l4];rfl) ?_
  rw [rdN]
  exact Ev.pos (by omega) (Ev.pos (by omega) (Ev.pos (by omega) (Ev.bindc (val i hi) (Ev.neg p (Ev.now _)))))
 by_cases g:WetB w C K B
 ·rw [if_pos g]
  exact Ev.scan_all (g:=fun k i=>water_check.l4 k B (B.length:Int) i K B (w:Int) (h:Int) (gS w h C) (gB w h C) (gE w h C)) hend good B.length 0 (by omega) g
 ·rw [if_neg g]
  exact Ev.scan_some (g:=fun k i=>water_check.l4 k B (B.length:Int) i K B (w:Int) (h:Int) (gS w h C) (gB w h C) (gE w h C)) good bad B.length 0 (by omega) (not_all g)
open Classical in
theorem check3 (L:Land w h C) (hK:K.length = w * h) (hB:B.length ≤ 4000) (hin:InB B (w * h)):Ev (fun k => water_check.l3 k K (K.length:Int) 0 K B (w:Int) (h:Int) (gS w h C) (gB w h C) (gE w h C)) (gr w h C (if May w C K then (if WetB w C K B then 0 else 9) else 9)) := by
 have hwh:w * h ≤ 32 * 32:=mulle L.w1 L.h1
 have hend:∀ r,Ev (fun k=>water_check.l4 k B (B.length:Int) 0 K B (w:Int) (h:Int) (gS w h C) (gB w h C) (gE w h C)) r → Ev (fun k=>water_check.l3 k K (K.length:Int) (K.length:Int) K B (w:Int) (h:Int) (gS w h C) (gB w h C) (gE w h C)) r:=fun r hr=>Ev.step (fun k=>by simp only [water_check.l3];rfl) (Ev.neg (by omega) hr)
 have good:∀ i,i < K.length → MayAt w C K i → ∀ r,Ev (fun k=>water_check.l3 k K (K.length:Int) ((i:Int) + 1) K B (w:Int) (h:Int) (gS w h C) (gB w h C) (gE w h C)) r → Ev (fun k=>water_check.l3 k K (K.length:Int) (i:Int) K B (w:Int) (h:Int) (gS w h C) (gB w h C) (gE w h C)) r:=by
  intro i hi p r hr
  refine Ev.step (fun k=>by simp only [water_check.l3];rfl) ?_
  rw [rdN,wrap_in (x:=(i:Int) + 1) (by omega) (by omega)]
  exact Ev.pos (by omega) (Ev.pos (by omega) (Ev.pos (by omega) (Ev.bind (may_ev (by omega) _) (Ev.pos p hr))))
 have bad:∀ i,i < K.length → ¬ MayAt w C K i → Ev (fun k=>water_check.l3 k K (K.length:Int) (i:Int) K B (w:Int) (h:Int) (gS w h C) (gB w h C) (gE w h C)) (gr w h C 9):=by
  intro i hi p
  refine Ev.step (fun k=>by simp only [water_check.l3];rfl) ?_
  rw [rdN]
  exact Ev.pos (by omega) (Ev.pos (by omega) (Ev.pos (by omega) (Ev.bind (may_ev (by omega) _) (Ev.neg p (Ev.now _)))))
 by_cases g:May w C K
 ·rw [if_pos g]
  exact Ev.scan_all (g:=fun k i=>water_check.l3 k K (K.length:Int) i K B (w:Int) (h:Int) (gS w h C) (gB w h C) (gE w h C)) (hend _ (check4 L hK hB hin)) good K.length 0 (by omega) g
 ·rw [if_neg g]
  exact Ev.scan_some (g:=fun k i=>water_check.l3 k K (K.length:Int) i K B (w:Int) (h:Int) (gS w h C) (gB w h C) (gE w h C)) good bad K.length 0 (by omega) (not_all g)
open Classical in
theorem check2 (L:Land w h C) (hK:K.length = w * h) (hB:B.length ≤ 4000):Ev (fun k => water_check.l2 k B (B.length:Int) 0 (w:Int) (h:Int) C K B (w:Int) (h:Int) (gS w h C) (gB w h C) (gE w h C)) (gr w h C (if InB B (w * h) then (if May w C K then (if WetB w C K B then 0 else 9) else 9) else 2)) := by
 have hwh:w * h ≤ 32 * 32:=mulle L.w1 L.h1
 have e:wrap64 ((w:Int) * (h:Int)) = ((w * h:Nat):Int):=by rw [← Int.natCast_mul,wrap_in (by omega) (by omega)]
 have hend:∀ r,Ev (fun k=>water_check.l3 k K (K.length:Int) 0 K B (w:Int) (h:Int) (gS w h C) (gB w h C) (gE w h C)) r → Ev (fun k=>water_check.l2 k B (B.length:Int) (B.length:Int) (w:Int) (h:Int) C K B (w:Int) (h:Int) (gS w h C) (gB w h C) (gE w h C)) r:=fun r hr=>Ev.step (fun k=>by simp only [water_check.l2];rfl) (Ev.neg (by omega) hr)
 have good:∀ i,i < B.length → InAt B (w * h) i → ∀ r,Ev (fun k=>water_check.l2 k B (B.length:Int) ((i:Int) + 1) (w:Int) (h:Int) C K B (w:Int) (h:Int) (gS w h C) (gB w h C) (gE w h C)) r → Ev (fun k=>water_check.l2 k B (B.length:Int) (i:Int) (w:Int) (h:Int) C K B (w:Int) (h:Int) (gS w h C) (gB w h C) (gE w h C)) r:=by
  intro i hi p r hr
  unfold InAt at p
  refine Ev.step (fun k=>by simp only [water_check.l2];rfl) ?_
  rw [rdN,e,wrap_in (x:=(i:Int) + 1) (by omega) (by omega)]
  exact Ev.pos (by omega) (Ev.pos (by omega) (Ev.pos (by omega) (Ev.neg (by omega) (Ev.neg (by omega) hr))))
 have bad:∀ i,i < B.length → ¬ InAt B (w * h) i → Ev (fun k=>water_check.l2 k B (B.length:Int) (i:Int) (w:Int) (h:Int) C K B (w:Int) (h:Int) (gS w h C) (gB w h C) (gE w h C)) (gr w h C 2):=by
  intro i hi p
  unfold InAt at p
  refine Ev.step (fun k=>by simp only [water_check.l2];rfl) ?_
  rw [rdN,e]
  refine Ev.pos (by omega) (Ev.pos (by omega) (Ev.pos (by omega) ?_))
  by_cases q:B.getD i 0 < 0
  ·exact Ev.pos q (Ev.now _)
  ·exact Ev.neg q (Ev.pos (by omega) (Ev.now _))
 by_cases g:InB B (w * h)
 ·rw [if_pos g]
  exact Ev.scan_all (g:=fun k i=>water_check.l2 k B (B.length:Int) i (w:Int) (h:Int) C K B (w:Int) (h:Int) (gS w h C) (gB w h C) (gE w h C)) (hend _ (check3 L hK hB g)) good B.length 0 (by omega) g
 ·rw [if_neg g]
  exact Ev.scan_some (g:=fun k i=>water_check.l2 k B (B.length:Int) i (w:Int) (h:Int) C K B (w:Int) (h:Int) (gS w h C) (gB w h C) (gE w h C)) good bad B.length 0 (by omega) (not_all g)
theorem not_all1 {p:Nat → Prop} {n:Nat} (h:¬ ∀ j,1 ≤ j → j < n → p j):∃ j,1 ≤ j ∧ j < n ∧ ¬ p j := by
 apply Classical.byContradiction
 intro hc
 exact h fun j h1 h2=>Classical.byContradiction fun h3=>hc ⟨j,h1,h2,h3⟩
open Classical in
theorem check1 (L:Land w h C) (hK:K.length = w * h) (hB:B.length ≤ 4000):Ev (fun k => water_check.l1 k 1 (w:Int) (h:Int) C K B (w:Int) (h:Int) (gS w h C) (gB w h C) (gE w h C)) (gr w h C (if Inc B then (if InB B (w * h) then (if May w C K then (if WetB w C K B then 0 else 9) else 9) else 2) else 1)) := by
 have hend:∀ r,Ev (fun k=>water_check.l2 k B (B.length:Int) 0 (w:Int) (h:Int) C K B (w:Int) (h:Int) (gS w h C) (gB w h C) (gE w h C)) r → Ev (fun k=>water_check.l1 k ((max 1 B.length:Nat):Int) (w:Int) (h:Int) C K B (w:Int) (h:Int) (gS w h C) (gB w h C) (gE w h C)) r:=fun r hr=>Ev.step (fun k=>by simp only [water_check.l1];rfl) (Ev.neg (by omega) hr)
 have pre:∀ i:Nat,1 ≤ i → i ≤ 4000 → wrap64 ((i:Int) - 1) = ((i - 1:Nat):Int):=by intro i h1 h2;rw [wrap_in (by omega) (by omega)];omega
 have good:∀ i,i < max 1 B.length → (1 ≤ i → IncAt B i) ∧ 1 ≤ i → ∀ r,Ev (fun k=>water_check.l1 k ((i:Int) + 1) (w:Int) (h:Int) C K B (w:Int) (h:Int) (gS w h C) (gB w h C) (gE w h C)) r → Ev (fun k=>water_check.l1 k (i:Int) (w:Int) (h:Int) C K B (w:Int) (h:Int) (gS w h C) (gB w h C) (gE w h C)) r:=by
  intro i hi ⟨p0,p1⟩ r hr
  have p:=p0 p1
  unfold IncAt at p
  refine Ev.step (fun k=>by simp only [water_check.l1];rfl) ?_
  rw [pre i p1 (by omega),rdN,rdN,wrap_in (x:=(i:Int) + 1) (by omega) (by omega)]
  exact Ev.pos (by omega) (Ev.pos (by omega) (Ev.pos (by omega) (Ev.pos (by omega) (Ev.neg (by omega) hr))))
 have bad:∀ i,i < max 1 B.length → ¬ ((1 ≤ i → IncAt B i) ∧ 1 ≤ i) → 1 ≤ i → Ev (fun k=>water_check.l1 k (i:Int) (w:Int) (h:Int) C K B (w:Int) (h:Int) (gS w h C) (gB w h C) (gE w h C)) (gr w h C 1):=by
  intro i hi p p1
  have p:¬ IncAt B i:=fun hc=>p ⟨fun _=>hc,p1⟩
  unfold IncAt at p
  refine Ev.step (fun k=>by simp only [water_check.l1];rfl) ?_
  rw [pre i p1 (by omega),rdN,rdN]
  exact Ev.pos (by omega) (Ev.pos (by omega) (Ev.pos (by omega) (Ev.pos (by omega) (Ev.pos (by omega) (Ev.now _)))))
 have go:∀ d i,1 ≤ i → i + d = max 1 B.length → Ev (fun k=>water_check.l1 k (i:Int) (w:Int) (h:Int) C K B (w:Int) (h:Int) (gS w h C) (gB w h C) (gE w h C)) (gr w h C (if (∀ j,i ≤ j → j < max 1 B.length → IncAt B j) then (if InB B (w * h) then (if May w C K then (if WetB w C K B then 0 else 9) else 9) else 2) else 1)):=by
  intro d
  induction d with
  | zero =>
   intro i h1 e
   rw [if_pos (fun j a b=>by omega)]
   rw [show i = max 1 B.length by omega]
   exact hend _ (check2 L hK hB)
  | succ d ih =>
   intro i h1 e
   by_cases hp:IncAt B i
   ·refine good i (by omega) ⟨fun _=>hp,h1⟩ _ (Ev.eq (by simpa using ih (i + 1) (by omega) (by omega)) ?_)
    have:(∀ j,i + 1 ≤ j → j < max 1 B.length → IncAt B j) ↔ (∀ j,i ≤ j → j < max 1 B.length → IncAt B j):=by
     constructor
     ·intro f j a b
      by_cases he:j = i
      ·rw [he];exact hp
      ·exact f j (by omega) b
     ·intro f j a b;exact f j (by omega) b
    simp only [this]
   ·rw [if_neg (fun f=>hp (f i (Nat.le_refl _) (by omega)))]
    exact bad i (by omega) (fun hc=>hp (hc.1 h1)) h1
 have:=go (max 1 B.length - 1) 1 (Nat.le_refl _) (by omega)
 exact this
open Classical in
theorem check0 (L:Land w h C) (hK:K.length = w * h) (hB:B.length ≤ 4000):Ev (fun k => water_check.l0 k K (K.length:Int) 0 (w:Int) (h:Int) C K B (w:Int) (h:Int) (gS w h C) (gB w h C) (gE w h C)) (gr w h C (ucode w h C K B)) := by
 have hwh:w * h ≤ 32 * 32:=mulle L.w1 L.h1
 unfold ucode
 rw [if_pos hK]
 have hend:∀ r,Ev (fun k=>water_check.l1 k 1 (w:Int) (h:Int) C K B (w:Int) (h:Int) (gS w h C) (gB w h C) (gE w h C)) r → Ev (fun k=>water_check.l0 k K (K.length:Int) (K.length:Int) (w:Int) (h:Int) C K B (w:Int) (h:Int) (gS w h C) (gB w h C) (gE w h C)) r:=fun r hr=>Ev.step (fun k=>by simp only [water_check.l0];rfl) (Ev.neg (by omega) hr)
 have good:∀ i,i < K.length → KAt K i → ∀ r,Ev (fun k=>water_check.l0 k K (K.length:Int) ((i:Int) + 1) (w:Int) (h:Int) C K B (w:Int) (h:Int) (gS w h C) (gB w h C) (gE w h C)) r → Ev (fun k=>water_check.l0 k K (K.length:Int) (i:Int) (w:Int) (h:Int) C K B (w:Int) (h:Int) (gS w h C) (gB w h C) (gE w h C)) r:=by
  intro i hi p r hr
  unfold KAt at p
  refine Ev.step (fun k=>by simp only [water_check.l0];rfl) ?_
  rw [rdN,wrap_in (x:=(i:Int) + 1) (by omega) (by omega)]
  exact Ev.pos (by omega) (Ev.pos (by omega) (Ev.pos (by omega) (Ev.neg (by omega) (Ev.neg (by omega) hr))))
 have bad:∀ i,i < K.length → ¬ KAt K i → Ev (fun k=>water_check.l0 k K (K.length:Int) (i:Int) (w:Int) (h:Int) C K B (w:Int) (h:Int) (gS w h C) (gB w h C) (gE w h C)) (gr w h C 1):=by
  intro i hi p
  unfold KAt at p
  refine Ev.step (fun k=>by simp only [water_check.l0];rfl) ?_
  rw [rdN]
  refine Ev.pos (by omega) (Ev.pos (by omega) (Ev.pos (by omega) ?_))
  by_cases q:K.getD i 0 < 0
  ·exact Ev.pos q (Ev.now _)
  ·exact Ev.neg q (Ev.pos (by omega) (Ev.now _))
 by_cases g:KOK K
 ·rw [if_pos g]
  exact Ev.scan_all (g:=fun k i=>water_check.l0 k K (K.length:Int) i (w:Int) (h:Int) C K B (w:Int) (h:Int) (gS w h C) (gB w h C) (gE w h C)) (hend _ (check1 L hK hB)) good K.length 0 (by omega) g
 ·rw [if_neg g]
  exact Ev.scan_some (g:=fun k i=>water_check.l0 k K (K.length:Int) i (w:Int) (h:Int) C K B (w:Int) (h:Int) (gS w h C) (gB w h C) (gE w h C)) good bad K.length 0 (by omega) (not_all g)
end
open Classical in
theorem check_ev {W H:Int} {C K B:List Int} (hC:C.length ≤ 4000) (hB:B.length ≤ 4000):Ev (fun k => water_check.f k W H C K B) (if lcode W H C = 0 then gr W.toNat H.toNat C (wcode W H C K B) else (0,0,[],[],[],wcode W H C K B)) := by
 unfold water_check.f
 refine Ev.bind (ground_ev hC) ?_
 by_cases e:lcode W H C = 0
 ·simp only [if_pos e]
  obtain ⟨w,h,rfl,rfl,L⟩:=land_of e
  have hwh:w * h ≤ 32 * 32:=mulle L.w1 L.h1
  simp only [Int.toNat_natCast]
  have ew:wcode (w:Int) (h:Int) C K B = ucode w h C K B:=by unfold wcode;rw [if_pos e];simp
  rw [ew]
  refine Ev.pos (by first | rfl | trivial) ?_
  have ee:wrap64 ((w:Int) * (h:Int)) = ((w * h:Nat):Int):=by rw [← Int.natCast_mul,wrap_in (by omega) (by omega)]
  rw [ee]
  by_cases hK:K.length = w * h
  ·exact Ev.pos (by omega) (check0 L hK hB)
  ·refine Ev.neg (by omega) (Ev.eq (Ev.now _) ?_)
   unfold ucode
   rw [if_neg hK]
   rfl
 ·simp only [if_neg e]
  have ew:wcode W H C K B = lcode W H C:=by unfold wcode;rw [if_neg e]
  rw [ew]
  exact Ev.now _
theorem validate_ev {W H:Int} {C K B:List Int} (hC:C.length ≤ 4000) (hB:B.length ≤ 4000):Ev (fun k => water_Validate.f k W H C K B) (wcode W H C K B) := by
 unfold water_Validate.f
 refine Ev.bind (check_ev hC hB) (Ev.eq (Ev.now _) ?_)
 by_cases e:lcode W H C = 0
 ·rw [if_pos e];rfl
 ·rw [if_neg e]
section
variable {w h : Nat} {C K B : List Int}
end
def bey (w h t : Nat) (s : Int) : Int :=
 if s = 0 then (if t % w + 1 < w then ((t + 1:Nat):Int) else -1)
 else if s = 1 then (if t / w + 1 < h then ((t + w:Nat):Int) else -1)
 else if s = 2 then (if 0 < t % w then ((t - 1:Nat):Int) else -1)
 else (if 0 < t / w then ((t - w:Nat):Int) else -1)
def level (w : Nat) (C : List Int) (t : Nat) : Int := if sea w C t then 2 else base w C t
def upp (s : Int) : Int := if s = 6 then 0 else if s = 12 then 1 else if s = 9 then 2 else 3
def thru (w : Nat) (C : List Int) (t : Nat) (s l : Int) : Bool := if s = upp (slope w C t) then l == level w C t + 1 else if s = Int.tmod (upp (slope w C t) + 2) 4 then l == level w C t else false
def join (w h : Nat) (C K : List Int) (t : Nat) (s : Int) : Bool :=
 if bey w h t s < 0 then false else if wet w C K t = true then (if wet w C K (bey w h t s).toNat = true then
  (if K.getD t 0 = 2 then (if K.getD (bey w h t s).toNat 0 = 2 then false else thru w C t s (level w C (bey w h t s).toNat))
   else if K.getD (bey w h t s).toNat 0 = 2 then thru w C (bey w h t s).toNat (Int.tmod (s + 2) 4) (level w C t) else level w C t == level w C (bey w h t s).toNat)
  else false) else false
theorem upp_in (s:Int):0 ≤ upp s ∧ upp s ≤ 3 := by
 unfold upp
 repeat' split
 all_goals decide
section
variable {w h : Nat} {C K B : List Int}
theorem bey_lt {t:Nat} (ht:t < w * h) (s:Int):bey w h t s < ((w * h:Nat):Int) ∧ -1 ≤ bey w h t s := by
 obtain ⟨h1,h2,h3⟩:=tile ht
 have e:(t / w + 1) * w = t / w * w + w:=Nat.succ_mul _ _
 have down:t / w + 1 < h → t + w < w * h:=by
  intro q
  have h4:=Nat.mul_le_mul_right w (show t / w + 1 + 1 ≤ h by omega)
  rw [Nat.succ_mul,e,Nat.mul_comm h w] at h4
  omega
 have left:t % w + 1 < w → t + 1 < w * h:=by
  intro q
  have h4:=Nat.mul_le_mul_right w (show t / w + 1 ≤ h by omega)
  rw [e,Nat.mul_comm h w] at h4
  omega
 unfold bey
 by_cases s0:s = 0
 ·rw [if_pos s0]
  by_cases q:t % w + 1 < w
  ·have:=left q;rw [if_pos q];omega
  ·rw [if_neg q];omega
 rw [if_neg s0]
 by_cases s1:s = 1
 ·rw [if_pos s1]
  by_cases q:t / w + 1 < h
  ·have:=down q;rw [if_pos q];omega
  ·rw [if_neg q];omega
 rw [if_neg s1]
 by_cases s2:s = 2
 ·rw [if_pos s2]
  split <;> omega
 rw [if_neg s2]
 split <;> omega
theorem beyond_ev (L:Land w h C) {t:Nat} (ht:t < w * h) {s:Int} (hs:0 ≤ s ∧ s ≤ 3) (S Bb:List Int) (E:List Bool):Ev (fun k => water_ground_beyond.f k (w:Int) (h:Int) S Bb E (t:Int) s) (bey w h t s) := by
 obtain ⟨h1,h2,h3⟩:=tile ht
 have:=L.w0
 have:=L.w1
 have:=L.h1
 have e1:Int.tdiv (t:Int) (w:Int) = ((t / w:Nat):Int):=rfl
 have e2:Int.tmod (t:Int) (w:Int) = ((t % w:Nat):Int):=rfl
 unfold water_ground_beyond.f bey
 rw [e1,e2]
 clear e1 e2
 have hb:t / w * w ≤ 32 * 32:=mulle (by omega) (by omega)
 generalize t / w = y at h1 h3 hb ⊢
 generalize t % w = x at h2 h3 ⊢
 have j:∀ (a b:Int),-1 ≤ a ∧ a ≤ 40 → -1 ≤ b ∧ b ≤ 40 → Ev (fun k=>water_ground_beyond.j0 k a b (w:Int) (h:Int) S Bb E) (if 0 ≤ a ∧ a < (w:Int) ∧ 0 ≤ b ∧ b < (h:Int) then b * (w:Int) + a else -1):=by
  intro a b ha hb
  have j1:∀ q:Bool,Ev (fun k=>water_ground_beyond.j1 k a b q (w:Int) (h:Int) S Bb E) (if q = true then -1 else wrap64 (wrap64 (b * (w:Int)) + a)):=fun q=>Ev.step (fun k=>by simp only [water_ground_beyond.j1] <;> rfl) (Ev.both (fun _=>Ev.now _) (fun _=>Ev.now _))
  refine Ev.step (fun k=>by simp only [water_ground_beyond.j0];rfl) ?_
  by_cases q1:a < 0
  ·exact Ev.pos q1 (Ev.eq (j1 true) (by rw [if_pos rfl,if_neg (by omega)]))
  refine Ev.neg q1 ?_
  by_cases q2:a ≥ (w:Int)
  ·exact Ev.pos q2 (Ev.eq (j1 true) (by rw [if_pos rfl,if_neg (by omega)]))
  refine Ev.neg q2 ?_
  by_cases q3:b < 0
  ·exact Ev.pos q3 (Ev.eq (j1 true) (by rw [if_pos rfl,if_neg (by omega)]))
  refine Ev.neg q3 (Ev.eq (j1 _) ?_)
  by_cases q4:b ≥ (h:Int)
  ·rw [if_pos (decide_eq_true q4),if_neg (by omega)]
  ·rw [if_neg (by simp only [decide_eq_true_eq];omega),if_pos (by omega)]
   have:b * (w:Int) ≤ 40 * 40:=Int.mul_le_mul (by omega) (by omega) (by omega) (by omega)
   have h0:0 ≤ b * (w:Int):=Int.mul_nonneg (by omega) (by omega)
   rw [wrap_in (x:=b * (w:Int)) (by omega) (by omega),wrap_in (by omega) (by omega)]
 refine Ev.neg (by omega) ?_
 rw [wrap_in (x:=(y:Int)) (by omega) (by omega),wrap_in (x:=(x:Int) + 1) (by omega) (by omega),wrap_in (x:=(y:Int) + 1) (by omega) (by omega),wrap_in (x:=(x:Int) - 1) (by omega) (by omega),wrap_in (x:=(y:Int) - 1) (by omega) (by omega)]
 have my:((y * w:Nat):Int) = (y:Int) * (w:Int):=by push_cast;rfl
 by_cases s0:s = 0
 ·rw [if_pos s0]
  refine Ev.pos s0 (Ev.eq (j _ _ (by omega) (by omega)) ?_)
  by_cases q:x + 1 < w
  ·rw [if_pos q,if_pos (by omega),← my];omega
  ·rw [if_neg q,if_neg (by omega)]
 rw [if_neg s0]
 refine Ev.neg s0 ?_
 by_cases s1:s = 1
 ·rw [if_pos s1]
  refine Ev.pos s1 (Ev.eq (j _ _ (by omega) (by omega)) ?_)
  by_cases q:y + 1 < h
  ·rw [if_pos q,if_pos (by omega),Int.add_mul,← my];omega
  ·rw [if_neg q,if_neg (by omega)]
 rw [if_neg s1]
 refine Ev.neg s1 ?_
 by_cases s2:s = 2
 ·rw [if_pos s2]
  refine Ev.pos s2 (Ev.eq (j _ _ (by omega) (by omega)) ?_)
  by_cases q:0 < x
  ·rw [if_pos q,if_pos (by omega),← my];omega
  ·rw [if_neg q,if_neg (by omega)]
 rw [if_neg s2]
 refine Ev.neg s2 (Ev.eq (j _ _ (by omega) (by omega)) ?_)
 by_cases q:0 < y
 ·have hy:w ≤ y * w:=by have:=Nat.mul_le_mul_right w (show 1 ≤ y by omega);rw [Nat.one_mul] at this;exact this
  rw [if_pos q,if_pos (by omega),Int.sub_mul,← my];omega
 ·rw [if_neg q,if_neg (by omega)]
theorem bey_back {t:Nat} (ht:t < w * h) {s:Int} (hs:0 ≤ s ∧ s ≤ 3) (hb:0 ≤ bey w h t s):bey w h (bey w h t s).toNat (Int.tmod (s + 2) 4) = (t:Int) := by
 obtain ⟨h1,h2,h3⟩:=tile ht
 have hw:0 < w:=by omega
 have nx:∀ y x:Nat,x < w → (y * w + x) / w = y ∧ (y * w + x) % w = x:=by
  intro y x hx
  rw [Nat.mul_comm,Nat.mul_add_div hw,Nat.mul_add_mod,Nat.div_eq_of_lt hx,Nat.mod_eq_of_lt hx]
  exact ⟨by omega,rfl⟩
 generalize hy:t / w = y at h1 h3
 generalize hx:t % w = x at h2 h3
 have hyw:0 < y → w ≤ y * w:=fun q=>by have:=Nat.mul_le_mul_right w (show 1 ≤ y by omega);rw [Nat.one_mul] at this;exact this
 rcases (by omega:s = 0 ∨ s = 1 ∨ s = 2 ∨ s = 3) with rfl | rfl | rfl | rfl
 ·unfold bey at hb ⊢
  rw [hx] at hb ⊢
  by_cases q:x + 1 < w
  ·have e:=nx y (x + 1) q
   rw [← Nat.add_assoc,h3] at e
   simp [q,e.1,e.2]
  ·simp [q] at hb
 ·unfold bey at hb
  rw [hy] at hb
  by_cases q:y + 1 < h
  ·have e:=nx (y + 1) x h2
   rw [Nat.succ_mul,show y * w + w + x = t + w by omega] at e
   clear hb
   have hbv:bey w h t 1 = ((t + w:Nat):Int):=by unfold bey;rw [if_neg (by decide),if_pos rfl,hy,if_pos q]
   change bey w h (bey w h t 1).toNat 3 = _
   rw [hbv,Int.toNat_natCast]
   unfold bey
   rw [if_neg (by decide),if_neg (by decide),if_neg (by decide),e.1,if_pos (by omega)]
   omega
  ·simp [q] at hb
 ·unfold bey at hb ⊢
  rw [hx] at hb ⊢
  by_cases q:0 < x
  ·have e:=nx y (x - 1) (by omega)
   rw [show y * w + (x - 1) = t - 1 by omega] at e
   simp [q,e.1,e.2,show x - 1 + 1 < w by omega]
   omega
  ·simp [q] at hb
 ·unfold bey at hb ⊢
  rw [hy] at hb ⊢
  by_cases q:0 < y
  ·have:=hyw q
   have e:=nx (y - 1) x h2
   rw [Nat.sub_mul,Nat.one_mul,show y * w - w + x = t - w by omega] at e
   simp [q,e.1,e.2,show y - 1 + 1 < h by omega]
   omega
  ·simp [q] at hb
theorem level_eq (L:Land w h C) {t:Nat} (ht:t < w * h):water_ground_level.f (w:Int) (h:Int) (gS w h C) (gB w h C) (gE w h C) (t:Int) = some (level w C t) := by
 obtain ⟨l1,l2,l3⟩:=g_len (w:=w) (h:=h) (C:=C)
 unfold water_ground_level.f level
 rw [if_pos (by omega),if_pos (by omega),rdB,gE_at ht,rdN,gB_at ht]
 cases he:sea w C t with
 | true=>simp
 | false=>rw [if_neg (by simp),if_pos (by omega)];simp
theorem level_in (L:Land w h C) {t:Nat} (ht:t < w * h):0 ≤ level w C t ∧ level w C t ≤ 15 := by
 have:=base_in L ht
 unfold level
 split <;> omega
theorem upp_eq (s:Int):water_upper.f s = some (upp s) := by
 unfold water_upper.f upp
 repeat' split
 all_goals rfl
theorem thru_eq (L:Land w h C) {t:Nat} (ht:t < w * h) (s l:Int):water_ground_through.f (w:Int) (h:Int) (gS w h C) (gB w h C) (gE w h C) (t:Int) s l = some (thru w C t s l) := by
 obtain ⟨l1,l2,l3⟩:=g_len (w:=w) (h:=h) (C:=C)
 have hl:=level_in L ht
 have hu:=upp_in (slope w C t)
 unfold water_ground_through.f thru
 rw [if_pos (by omega),if_pos (by omega),rdN,gS_at ht,upp_eq]
 simp only [Option.bind_some,level_eq L ht]
 rw [wrap_in (x:=level w C t + 1) (by omega) (by omega),wrap_in (x:=upp (slope w C t) + 2) (by omega) (by omega)]
 by_cases q1:s = upp (slope w C t)
 ·simp [q1]
 ·rw [if_neg q1,if_neg q1]
  by_cases q2:s = Int.tmod (upp (slope w C t) + 2) 4
  ·simp [q2]
  ·simp [q2]
theorem join_no1 {t:Nat} {s:Int} (q:bey w h t s < 0):join w h C K t s = false := by unfold join; rw [if_pos q]
theorem join_no2 {t:Nat} {s:Int} (w1:¬ wet w C K t = true):join w h C K t s = false := by
 unfold join
 by_cases q:bey w h t s < 0
 ·rw [if_pos q]
 ·rw [if_neg q,if_neg w1]
theorem join_no3 {t b:Nat} {s:Int} (hb:bey w h t s = (b:Int)) (w2:¬ wet w C K b = true):join w h C K t s = false := by
 unfold join
 rw [hb,if_neg (by omega),Int.toNat_natCast,if_neg w2]
 split <;> rfl
theorem join_yes {t b:Nat} {s:Int} (hb:bey w h t s = (b:Int)) (w1:wet w C K t = true) (w2:wet w C K b = true):join w h C K t s = if K.getD t 0 = 2 then (if K.getD b 0 = 2 then false else thru w C t s (level w C b)) else if K.getD b 0 = 2 then thru w C b (Int.tmod (s + 2) 4) (level w C t) else level w C t == level w C b := by
 unfold join
 rw [hb,if_neg (by omega),Int.toNat_natCast,if_pos w1,if_pos w2]
theorem join_ev (U:Waters w h C K B) {t:Nat} (ht:t < w * h) {s:Int} (hs:0 ≤ s ∧ s ≤ 3):Ev (fun k => water_ground_joined.f k (w:Int) (h:Int) (gS w h C) (gB w h C) (gE w h C) K B (t:Int) s) (join w h C K t s) := by
 have L:=U.land
 have hK:=U.len
 unfold water_ground_joined.f
 refine Ev.bind (beyond_ev L ht hs _ _ _) ?_
 obtain ⟨b1,b2⟩:=bey_lt ht s
 by_cases q0:bey w h t s < 0
 ·rw [join_no1 q0];exact Ev.pos q0 (Ev.now _)
 refine Ev.neg q0 ?_
 obtain ⟨b,hb⟩:=Int.eq_ofNat_of_zero_le (show 0 ≤ bey w h t s by omega)
 rw [hb]
 have hbl:b < w * h:=by omega
 refine Ev.bindc (wet_lt hK ht) ?_
 by_cases w1:wet w C K t = true
 rotate_left
 ·rw [join_no2 w1];exact Ev.neg w1 (Ev.now _)
 refine Ev.pos w1 (Ev.bindc (wet_lt hK hbl) ?_)
 by_cases w2:wet w C K b = true
 rotate_left
 ·rw [join_no3 hb w2];exact Ev.neg w2 (Ev.now _)
 rw [join_yes hb w1 w2]
 refine Ev.pos w2 (Ev.pos (by omega) (Ev.pos (by omega) (Ev.pos (by omega) (Ev.pos (by omega) ?_))))
 rw [rdN,rdN]
 by_cases k1:K.getD t 0 = 2
 ·refine Ev.eq (Ev.pos k1 ?_) (if_pos k1).symm
  by_cases k2:K.getD b 0 = 2
  ·exact Ev.eq (Ev.pos k2 (Ev.now _)) (if_pos k2).symm
  ·exact Ev.eq (Ev.neg k2 (Ev.bindc (level_eq L hbl) (Ev.bindc (thru_eq L ht _ _) (Ev.now _)))) (if_neg k2).symm
 ·refine Ev.eq (Ev.neg k1 ?_) (if_neg k1).symm
  by_cases k2:K.getD b 0 = 2
  ·refine Ev.eq ?_ (if_pos k2).symm
   rw [wrap_in (x:=s + 2) (by omega) (by omega)]
   exact Ev.pos k2 (Ev.bindc (level_eq L ht) (Ev.bindc (thru_eq L hbl _ _) (Ev.now _)))
  ·exact Ev.eq (Ev.neg k2 (Ev.bindc (level_eq L ht) (Ev.bindc (level_eq L hbl) (Ev.now _)))) (if_neg k2).symm
theorem back2 {s:Int} (hs:0 ≤ s ∧ s ≤ 3):(0 ≤ Int.tmod (s + 2) 4 ∧ Int.tmod (s + 2) 4 ≤ 3) ∧ Int.tmod (Int.tmod (s + 2) 4 + 2) 4 = s := by
 rcases (by omega:s = 0 ∨ s = 1 ∨ s = 2 ∨ s = 3) with rfl | rfl | rfl | rfl <;> decide
theorem join_back {t:Nat} (ht:t < w * h) {s:Int} (hs:0 ≤ s ∧ s ≤ 3) (hj:join w h C K t s = true):0 ≤ bey w h t s ∧ join w h C K (bey w h t s).toNat (Int.tmod (s + 2) 4) = true := by
 obtain ⟨b1,b2⟩:=bey_lt ht s
 unfold join at hj
 by_cases q0:bey w h t s < 0
 ·rw [if_pos q0] at hj;cases hj
 refine ⟨by omega,?_⟩
 have hbk:=bey_back ht hs (by omega)
 rw [if_neg q0] at hj
 unfold join
 rw [hbk,if_neg (by omega),Int.toNat_natCast]
 by_cases w1:wet w C K t = true
 rotate_left
 ·rw [if_neg w1] at hj;cases hj
 rw [if_pos w1] at hj ⊢
 by_cases w2:wet w C K (bey w h t s).toNat = true
 rotate_left
 ·rw [if_neg w2] at hj;cases hj
 rw [if_pos w2] at hj ⊢
 rw [(back2 hs).2]
 by_cases k1:K.getD t 0 = 2
 ·rw [if_pos k1] at hj
  by_cases k2:K.getD (bey w h t s).toNat 0 = 2
  ·rw [if_pos k2] at hj;cases hj
  ·rw [if_neg k2] at hj;rw [if_neg k2,if_pos k1];exact hj
 ·rw [if_neg k1] at hj
  by_cases k2:K.getD (bey w h t s).toNat 0 = 2
  ·rw [if_pos k2] at hj;rw [if_pos k2,if_neg k1];exact hj
  ·rw [if_neg k2] at hj;rw [if_neg k2,if_neg k1]
   have:=eq_of_beq hj
   rw [this];simp
end
theorem set_at (l:List Int) (i j:Nat) (v:Int):(l.set i v).getD j 0 = if i = j ∧ j < l.length then v else l.getD j 0 := by
 by_cases hj:j < l.length
 ·by_cases hij:i = j
  ·subst hij;simp [hj]
  ·rw [if_neg (fun h=>hij h.1)]
   simp [List.getElem?_set,hij]
 ·rw [if_neg (fun h=>hj h.2)]
  simp [List.getElem?_set,hj]
  try (intro h1 h2;omega)
theorem at_mem {l:List Int} {j:Nat} (h:j < l.length):l.getD j 0 ∈ l := by
 rw [List.getD_eq_getElem?_getD,List.getElem?_eq_getElem h]
 exact List.getElem_mem h
theorem mem_at {l:List Int} {x:Int} (h:x ∈ l):∃ j,j < l.length ∧ l.getD j 0 = x := by
 obtain ⟨j,hj,e⟩:=List.mem_iff_getElem.1 h
 exact ⟨j,hj,by rw [List.getD_eq_getElem?_getD,List.getElem?_eq_getElem hj];exact e⟩
theorem drop_at {B:List Int} {i:Nat} (h:i < B.length):B.drop i = B.getD i 0 :: B.drop (i + 1) := by
 rw [List.drop_eq_getElem_cons h,List.getD_eq_getElem?_getD,List.getElem?_eq_getElem h]
 rfl
abbrev has (B : List Int) (n : Int) : Prop := n ∈ B
theorem put_has (k v:Int) (j:Int):∀ m:List (Int × Int),mpHas j (mpPut k v m) = if j = k then true else mpHas j m
 | []=>by
  by_cases h:j = k
  ·simp [mpPut,mpHas,h]
  ·simp [mpPut,mpHas,h]
 | p :: r=>by
  have ih:=put_has k v j r
  by_cases hk:k = p.1
  ·by_cases h:j = k
   ·simp [mpPut,mpHas,hk,h]
   ·have:¬ j = p.1:=fun e=>h (e.trans hk.symm)
    simp [mpPut,mpHas,← hk,h]
  ·by_cases h:j = p.1
   ·have h2:¬ j = k:=fun e=>hk (e.symm.trans h)
    have h3:¬ k = j:=fun e=>h2 e.symm
    simp [mpPut,mpHas,← h,h3]
   ·simp only [mpPut,mpHas,hk,h,if_false]
    exact ih
theorem put_val (k v:Int) (j:Int):∀ m:List (Int × Int),mpV j (mpPut k v m) = if j = k then v else mpV j m
 | []=>by
  by_cases h:j = k
  ·simp [mpPut,mpV,h]
  ·simp [mpPut,mpV,h]
 | p :: r=>by
  have ih:=put_val k v j r
  by_cases hk:k = p.1
  ·by_cases h:j = k
   ·simp [mpPut,mpV,hk,h]
   ·simp [mpPut,mpV,← hk,h]
  ·by_cases h:j = p.1
   ·have h2:¬ j = k:=fun e=>hk (e.symm.trans h)
    have h3:¬ k = j:=fun e=>h2 e.symm
    simp [mpPut,mpV,← h,h2,h3]
   ·simp only [mpPut,mpV,hk,h,if_false]
    exact ih
def unl (L : List Int) : Nat := L.countP (fun x => decide (x < 0))
theorem unl_set (L:List Int) (u:Nat) (v:Int) (hu:u < L.length) (h1:L.getD u 0 < 0) (h2:0 ≤ v):unl (L.set u v) + 1 = unl L := by
 unfold unl
 induction L generalizing u with
 | nil=>simp at hu
 | cons a r ih =>
  cases u with
  | zero =>
   simp only [List.getD_cons_zero] at h1
   simp only [List.set_cons_zero]
   rw [List.countP_cons,List.countP_cons,if_neg (by simp only [decide_eq_true_eq];omega),if_pos (by simpa using h1)]
  | succ u =>
   have:=ih u (by simpa using hu) (by simpa using h1)
   simp only [List.set_cons_succ]
   rw [List.countP_cons,List.countP_cons]
   omega
theorem unl_le (L:List Int):unl L ≤ L.length := List.countP_le_length
theorem rep_at (n j:Nat) (v:Int) (h:j < n):(List.replicate n v).getD j 0 = v := by simp [h]
theorem unl_rep (n:Nat):unl (List.replicate n (-1)) = n := by
 unfold unl
 rw [List.countP_replicate]
 simp
theorem list_ext {L R:List Int} (hl:L.length = R.length) (h:∀ j,j < L.length → L.getD j 0 = R.getD j 0):L = R := by
 apply List.ext_getElem hl
 intro j h1 h2
 have:=h j h1
 rw [List.getD_eq_getElem?_getD,List.getD_eq_getElem?_getD,List.getElem?_eq_getElem h1,List.getElem?_eq_getElem h2] at this
 simpa using this
section
variable (w h : Nat) (C K : List Int)
structure Lab (to_ : Nat) (L line : List Int) : Prop where
 len:L.length = w * h
 goal:to_ < w * h ∧ L.getD to_ 0 = 0
 low:∀ t,t < w * h → -1 ≤ L.getD t 0
 cap:∀ t,t < w * h → L.getD t 0 < (line.length:Int)
 from_:∀ t,t < w * h → 0 ≤ L.getD t 0 → t = to_ ∨ (1 ≤ L.getD t 0 ∧ ∃ s:Int,(0 ≤ s ∧ s ≤ 3) ∧ join w h C K t s = true ∧ L.getD (bey w h t s).toNat 0 = L.getD t 0 - 1)
 all:line.length + unl L = w * h
 line_in:∀ x,x ∈ line → ∃ t:Nat,x = (t:Int) ∧ t < w * h ∧ 0 ≤ L.getD t 0
def Tells (L : List Int) (m : List (Int × Int)) : Prop := ∀ t : Nat, t < w * h → (mpHas (t : Int) m = decide (0 ≤ L.getD t 0)) ∧ (0 ≤ L.getD t 0 → mpV (t : Int) m = L.getD t 0)
end
section
variable {w h : Nat} {C K B : List Int} {to_ : Nat}
theorem Lab.step {L line:List Int} (hL:Lab w h C K to_ L line) {p:Nat} (hp:p < w * h) (hpl:0 ≤ L.getD p 0) {s:Int} (hs:0 ≤ s ∧ s ≤ 3) (hj:join w h C K p s = true) {b:Nat} (hb:bey w h p s = (b:Int)) (hbl:b < w * h) (hn:L.getD b 0 < 0) :
  Lab w h C K to_ (L.set b (L.getD p 0 + 1)) (line ++ [(b:Int)]):=by
 have hlen:=hL.len
 have hbto:b ≠ to_:=fun e=>by rw [e,hL.goal.2] at hn;omega
 have hpb:p ≠ b:=fun e=>by rw [e] at hpl;omega
 have hcap:=hL.cap p hp
 have hu:=unl_set L b (L.getD p 0 + 1) (by omega) hn (by omega)
 have hall:=hL.all
 refine ⟨by simpa using hlen,⟨hL.goal.1,?_⟩,?_,?_,?_,?_,?_⟩
 ·rw [set_at,if_neg (fun e=>hbto e.1)];exact hL.goal.2
 ·intro t ht
  rw [set_at]
  split
  ·omega
  ·exact hL.low t ht
 ·intro t ht
  rw [set_at,List.length_append,List.length_singleton]
  split
  ·omega
  ·have:=hL.cap t ht;omega
 ·intro t ht h0
  rw [set_at] at h0 ⊢
  by_cases e:b = t ∧ t < L.length
  ·rw [if_pos e] at h0 ⊢
   refine .inr ⟨by omega,Int.tmod (s + 2) 4,(back2 hs).1,?_,?_⟩
   ·have:=(join_back hp hs hj).2
    rw [hb,Int.toNat_natCast] at this
    rw [← e.1];exact this
   ·have:=bey_back hp hs (by omega)
    rw [hb,Int.toNat_natCast] at this
    rw [← e.1,this,Int.toNat_natCast,set_at,if_neg (fun e2=>hpb e2.1.symm)]
    omega
  ·rw [if_neg e] at h0 ⊢
   rcases hL.from_ t ht h0 with q | ⟨q1,s',q2,q3,q4⟩
   ·exact .inl q
   ·refine .inr ⟨q1,s',q2,q3,?_⟩
    rw [set_at]
    split
    ·rename_i e2
     rw [← e2.1] at q4
     omega
    ·exact q4
 ·rw [List.length_append,List.length_singleton];omega
 ·intro x hx
  rcases List.mem_append.1 hx with q | q
  ·obtain ⟨t,rfl,ht,h0⟩:=hL.line_in x q
   refine ⟨t,rfl,ht,?_⟩
   rw [set_at]
   split
   ·omega
   ·exact h0
  ·rw [List.mem_singleton] at q
   exact ⟨b,q,hbl,by rw [set_at,if_pos ⟨rfl,by omega⟩];omega⟩
theorem Tells.step {L:List Int} {m:List (Int × Int)} (hT:Tells w h L m) (hlen:L.length = w * h) {b:Nat} (hbl:b < w * h) {v:Int} (hv:0 ≤ v):Tells w h (L.set b v) (mpPut (b:Int) v m) := by
 intro t ht
 have:=hT t ht
 rw [put_has,put_val,set_at]
 by_cases e:b = t
 ·have h1:(t:Int) = (b:Int):=by omega
  have h2:b = t ∧ t < L.length:=⟨e,by omega⟩
  simp only [if_pos h1,if_pos h2]
  exact ⟨(decide_eq_true hv).symm,fun _=>by first | trivial | rfl⟩
 ·have h1:¬ (t:Int) = (b:Int):=by omega
  have h2:¬ (b = t ∧ t < L.length):=fun q=>e q.1
  simp only [if_neg h1,if_neg h2]
  exact this
end
section
variable {w h : Nat} {C K B : List Int}
theorem lab_start {to_:Nat} (ht:to_ < w * h):Lab w h C K to_ ((List.replicate (w * h) (-1)).set to_ 0) [(to_:Int)] ∧ Tells w h ((List.replicate (w * h) (-1)).set to_ 0) (mpPut (to_:Int) 0 []) := by
 have at_:∀ t,t < w * h → ((List.replicate (w * h) (-1:Int)).set to_ 0).getD t 0 = if to_ = t then 0 else -1:=by
  intro t h1
  rw [set_at]
  by_cases e:to_ = t
  ·rw [if_pos ⟨e,by simpa using h1⟩,if_pos e]
  ·rw [if_neg (fun q=>e q.1),if_neg e,rep_at _ _ _ h1]
 have hu:=unl_set (List.replicate (w * h) (-1)) to_ 0 (by simpa using ht) (by rw [rep_at _ _ _ ht];decide) (by decide)
 rw [unl_rep] at hu
 refine ⟨⟨by simp,⟨ht,by rw [at_ to_ ht,if_pos rfl]⟩,?_,?_,?_,by simp;omega,?_⟩,?_⟩
 ·intro t h1;rw [at_ t h1];split <;> decide
 ·intro t h1;rw [at_ t h1];split <;> simp
 ·intro t h1 h0
  rw [at_ t h1] at h0
  by_cases e:to_ = t
  ·exact .inl e.symm
  ·rw [if_neg e] at h0;exact absurd h0 (by decide)
 ·intro x hx
  rw [List.mem_singleton] at hx
  exact ⟨to_,hx,ht,by rw [at_ to_ ht,if_pos rfl];decide⟩
 ·refine Tells.step (L:=List.replicate (w * h) (-1)) (m:=[]) ?_ (by simp) ht (by decide)
  intro t h1
  rw [rep_at _ _ _ h1]
  exact ⟨rfl,fun q=>absurd q (by decide)⟩
end
theorem app_at {l:List Int} {x:Int} {j:Nat} (h:j < l.length):(l ++ [x]).getD j 0 = l.getD j 0 := by
 rw [List.getD_eq_getElem?_getD,List.getElem?_append_left h,← List.getD_eq_getElem?_getD]
theorem app_end (l:List Int) (x:Int):(l ++ [x]).getD l.length 0 = x := by simp
def Stp (w h : Nat) (C K : List Int) (t u : Nat) : Prop := t < w * h ∧ u < w * h ∧ ∃ s : Int, (0 ≤ s ∧ s ≤ 3) ∧ join w h C K t s = true ∧ bey w h t s = (u : Int)
def Chain (w h : Nat) (C K : List Int) : Nat → List Int → Nat → Prop
 | a,[],z=>a = z
 | a,x :: p,z=>∃ n:Nat,x = (n:Int) ∧ Stp w h C K a n ∧ Chain w h C K n p z
def lb (L line : List Int) (j : Nat) : Int := L.getD (line.getD j 0).toNat 0
structure Bfs (w h : Nat) (C K : List Int) (to_ : Nat) (L line : List Int) (i : Nat) : Prop where
 lab:Lab w h C K to_ L line
 has:∀ t:Nat,t < w * h → 0 ≤ L.getD t 0 → (t:Int) ∈ line
 ord:∀ j k,j ≤ k → k < line.length → lb L line j ≤ lb L line k
 top:i < line.length → ∀ k,k < line.length → lb L line k ≤ lb L line i + 1
 cls:∀ j,j < i → j < line.length → ∀ u,Stp w h C K (line.getD j 0).toNat u → 0 ≤ L.getD u 0 ∧ L.getD u 0 ≤ lb L line j + 1
def Sds (w h : Nat) (C K L : List Int) (p : Nat) (s : Int) : Prop := ∀ s' : Int, 0 ≤ s' → s' < s → ∀ u : Nat, join w h C K p s' = true → bey w h p s' = (u : Int) → 0 ≤ L.getD u 0 ∧ L.getD u 0 ≤ L.getD p 0 + 1
section
variable {w h : Nat} {C K B : List Int} {to_ : Nat}
theorem Stp.back {t u:Nat} (q:Stp w h C K t u):Stp w h C K u t := by
 obtain ⟨ht,hu,s,hs,hj,hb⟩:=q
 have h2:=(join_back ht hs hj).2
 have h3:=bey_back ht hs (by omega)
 rw [hb,Int.toNat_natCast] at h2 h3
 exact ⟨hu,ht,Int.tmod (s + 2) 4,(back2 hs).1,h2,h3⟩
theorem Bfs.step {L line:List Int} {i:Nat} (q:Bfs w h C K to_ L line i) (hi:i < line.length) {p:Nat} (hq:line.getD i 0 = (p:Int)) (hp:p < w * h) {s:Int} (hs:0 ≤ s ∧ s ≤ 3) (hj:join w h C K p s = true) {b:Nat} (hb:bey w h p s = (b:Int)) (hbl:b < w * h) (hn:L.getD b 0 < 0) :
  0 ≤ L.getD p 0 ∧ Bfs w h C K to_ (L.set b (L.getD p 0 + 1)) (line ++ [(b:Int)]) i ∧ ∀ u:Nat,0 ≤ L.getD u 0 → (L.set b (L.getD p 0 + 1)).getD u 0 = L.getD u 0:=by
 have hlen:=q.lab.len
 have pl:0 ≤ L.getD p 0:=by
  obtain ⟨t,e1,_,e3⟩:=q.lab.line_in _ (at_mem hi)
  rw [show p = t by omega];exact e3
 have keep:∀ u:Nat,0 ≤ L.getD u 0 → (L.set b (L.getD p 0 + 1)).getD u 0 = L.getD u 0:=by
  intro u hu
  rw [set_at,if_neg]
  rintro ⟨rfl,_⟩
  omega
 have at_b:(L.set b (L.getD p 0 + 1)).getD b 0 = L.getD p 0 + 1:=by rw [set_at,if_pos ⟨rfl,by omega⟩]
 have old:∀ j,j < line.length → lb (L.set b (L.getD p 0 + 1)) (line ++ [(b:Int)]) j = lb L line j:=by
  intro j hj
  unfold lb
  obtain ⟨t,e1,_,e3⟩:=q.lab.line_in _ (at_mem hj)
  rw [app_at hj,e1,Int.toNat_natCast,keep t e3]
 have new:lb (L.set b (L.getD p 0 + 1)) (line ++ [(b:Int)]) line.length = L.getD p 0 + 1:=by
  unfold lb
  rw [app_end,Int.toNat_natCast,at_b]
 have li:lb L line i = L.getD p 0:=by unfold lb;rw [hq,Int.toNat_natCast]
 have top:=q.top hi
 refine ⟨pl,⟨q.lab.step hp pl hs hj hb hbl hn,?_,?_,?_,?_⟩,keep⟩
 ·intro t ht h0
  by_cases e:t = b
  ·subst e;simp
  ·rw [set_at,if_neg (fun z=>e z.1.symm)] at h0
   exact List.mem_append_left _ (q.has t ht h0)
 ·intro j k hjk hk
  simp only [List.length_append,List.length_singleton] at hk
  by_cases e:k < line.length
  ·rw [old j (by omega),old k e];exact q.ord j k hjk e
  ·obtain rfl:k = line.length:=by omega
   rw [new]
   by_cases e2:j < line.length
   ·rw [old j e2,← li];exact top j e2
   ·obtain rfl:j = line.length:=by omega
    rw [new];exact Int.le_refl _
 ·intro _ k hk
  simp only [List.length_append,List.length_singleton] at hk
  rw [old i hi]
  by_cases e:k < line.length
  ·rw [old k e];exact top k e
  ·obtain rfl:k = line.length:=by omega
   rw [new,li];exact Int.le_refl _
 ·intro j hji _ u hu
  have hjl:j < line.length:=by omega
  rw [app_at hjl] at hu
  have:=q.cls j hji hjl u hu
  rw [keep u this.1,old j hjl]
  exact this
theorem Bfs.next {L line:List Int} {i:Nat} (q:Bfs w h C K to_ L line i) (hi:i < line.length) {p:Nat} (hq:line.getD i 0 = (p:Int)) (hS:Sds w h C K L p 4):Bfs w h C K to_ L line (i + 1) := by
 refine ⟨q.lab,q.has,q.ord,fun h1 k hk=>?_,fun j hj hjl u hu=>?_⟩
 ·have:=q.top hi k hk
  have:=q.ord i (i + 1) (by omega) h1
  omega
 ·by_cases e:j < i
  ·exact q.cls j e hjl u hu
  ·obtain rfl:j = i:=by omega
   rw [hq,Int.toNat_natCast] at hu
   obtain ⟨_,_,s,hs,hj2,hb⟩:=hu
   have:=hS s hs.1 (by omega) u hj2 hb
   unfold lb
   rw [hq,Int.toNat_natCast]
   exact this
theorem chain_lb {L:List Int} (h0:L.getD to_ 0 = 0) (cl:∀ t u,Stp w h C K t u → 0 ≤ L.getD t 0 → 0 ≤ L.getD u 0 ∧ L.getD u 0 ≤ L.getD t 0 + 1):∀ (q:List Int) (a:Nat),Chain w h C K a q to_ → 0 ≤ L.getD a 0 ∧ L.getD a 0 ≤ (q.length:Int)
 | [],a,e=>by
  have e':a = to_:=e
  rw [e',h0];simp
 | x :: q,a,e=>by
  obtain ⟨n,_,hs,hc⟩:=e
  have ih:=chain_lb h0 cl q n hc
  have:=cl n a hs.back ih.1
  simp only [List.length_cons]
  omega
theorem Bfs.end {L line:List Int} (q:Bfs w h C K to_ L line line.length):∀ t u,Stp w h C K t u → 0 ≤ L.getD t 0 → 0 ≤ L.getD u 0 ∧ L.getD u 0 ≤ L.getD t 0 + 1 := by
 intro t u hs h0
 obtain ⟨j,hj,e⟩:=mem_at (q.has t hs.1 h0)
 have:=q.cls j hj hj u (by rw [e,Int.toNat_natCast];exact hs)
 unfold lb at this
 rw [e,Int.toNat_natCast] at this
 exact this
theorem bfs_start {to_:Nat} (ht:to_ < w * h):Bfs w h C K to_ ((List.replicate (w * h) (-1)).set to_ 0) [(to_:Int)] 0 := by
 obtain ⟨hL,_⟩:=lab_start (w:=w) (h:=h) (C:=C) (K:=K) ht
 refine ⟨hL,fun t h1 h0=>?_,fun j k hjk hk=>?_,fun _ k hk=>?_,fun j hj=>by omega⟩
 ·rw [set_at] at h0
  by_cases e:to_ = t
  ·rw [e];exact List.mem_singleton.2 rfl
  ·rw [if_neg (fun q=>e q.1),rep_at _ _ _ h1] at h0;exact absurd h0 (by decide)
 ·simp only [List.length_singleton] at hk
  rw [show j = k by omega];exact Int.le_refl _
 ·simp only [List.length_singleton] at hk
  rw [show k = 0 by omega];omega
end
section
variable {w h : Nat} {C K B : List Int} {to_ : Nat}
def Goes (w h : Nat) (C K B : List Int) (m : List (Int × Int)) (a n : Nat) (p : List Int) : Prop := ∀ o : List Int, o.length + n ≤ 2000 → Ev (fun k => water_Sail.l3 k (a : Int) (n : Int) o K B (w : Int) (h : Int) (gS w h C) (gB w h C) (gE w h C) m) (o ++ p, 0)
def Fol (w h : Nat) (C K B L : List Int) (m : List (Int × Int)) (p : List Int) : Prop := ∃ (b n : Nat) (q : List Int), p = (b : Int) :: q ∧ b < w * h ∧ L.getD b 0 = (n : Int) ∧ Goes w h C K B m b n q
theorem pickA (U:Waters w h C K B) {L line:List Int} {m:List (Int × Int)} (hL:Lab w h C K to_ L line) (hT:Tells w h L m) {a:Nat} (ha:a < w * h) (n:Nat) (hd:L.getD a 0 = (n:Int) + 1) (hn:n ≤ 5000)
  (next:∀ b:Nat,b < w * h → L.getD b 0 = (n:Int) → ∃ p:List Int,p.length = n ∧ Chain w h C K b p to_ ∧ Goes w h C K B m b n p) :
  ∀ d s:Nat,s + d = 4 → ∀ best:Int,((best = -1 ∧ ∃ s':Int,(s:Int) ≤ s' ∧ s' ≤ 3 ∧ join w h C K a s' = true ∧ L.getD (bey w h a s').toNat 0 = (n:Int)) ∨ (∃ b:Nat,best = (b:Int) ∧ Stp w h C K a b ∧ L.getD b 0 = (n:Int))) →
   ∃ p:List Int,p.length = n + 1 ∧ Chain w h C K a p to_ ∧ Fol w h C K B L m p ∧ ∀ o:List Int,o.length + n < 2000 → Ev (fun k=>water_Sail.l4 k (a:Int) ((n:Int) + 1) o best (s:Int) K B (w:Int) (h:Int) (gS w h C) (gB w h C) (gE w h C) m) (o ++ p,0)
 | 0,s,e,best,hb=>by
  rcases hb with ⟨_,s',h1,h2,_⟩ | ⟨b,rfl,hbs,hv⟩
  ·omega
  obtain ⟨p,p0,p1,p2⟩:=next b hbs.2.1 hv
  refine ⟨(b:Int) :: p,by simp [p0],⟨b,rfl,hbs,p1⟩,⟨b,n,p,rfl,hbs.2.1,hv,p2⟩,fun o ho=>Ev.step (fun k=>by simp only [water_Sail.l4];rfl) (Ev.neg (by omega) (Ev.pos (by omega) ?_))⟩
  rw [wrap_in (x:=(n:Int) + 1 - 1) (by omega) (by omega),show (n:Int) + 1 - 1 = (n:Int) by omega]
  exact Ev.eq (p2 (o ++ [(b:Int)]) (by simp;omega)) (by simp)
 | d + 1,s,e,best,hb=>by
  have hs:0 ≤ (s:Int) ∧ (s:Int) ≤ 3:=by omega
  have hlen:=hL.len
  have hwh:w * h ≤ 32 * 32:=mulle U.land.w1 U.land.h1
  have go:=fun best hb=>pickA U hL hT ha n hd hn next d (s + 1) (by omega) best hb
  have w1:wrap64 ((s:Int) + 1) = ((s + 1:Nat):Int):=by rw [wrap_in (by omega) (by omega)];omega
  have w2:wrap64 ((n:Int) + 1 - 1) = (n:Int):=by rw [wrap_in (by omega) (by omega)];omega
  by_cases hj:join w h C K a (s:Int) = true
  rotate_left
  ·have hb':(best = -1 ∧ ∃ s':Int,((s + 1:Nat):Int) ≤ s' ∧ s' ≤ 3 ∧ join w h C K a s' = true ∧ L.getD (bey w h a s').toNat 0 = (n:Int)) ∨ (∃ b:Nat,best = (b:Int) ∧ Stp w h C K a b ∧ L.getD b 0 = (n:Int)):=by
    rcases hb with ⟨q,s',h1,h2,h3,h4⟩ | q
    ·refine .inl ⟨q,s',?_,h2,h3,h4⟩
     by_cases e2:s' = (s:Int)
     ·rw [e2] at h3;exact absurd h3 hj
     ·omega
    ·exact .inr q
   obtain ⟨p,p0,p1,pf,p2⟩:=go best hb'
   refine ⟨p,p0,p1,pf,fun o ho=>Ev.step (fun k=>by simp only [water_Sail.l4];rfl) (Ev.pos (by omega) (Ev.bind (join_ev U ha hs) (Ev.neg hj ?_)))⟩
   rw [w1];exact p2 o ho
  have b0:=(join_back ha hs hj).1
  obtain ⟨b,hbe⟩:=Int.eq_ofNat_of_zero_le b0
  have hbe':bey w h a (s:Int) = (b:Int):=hbe
  have hbl:b < w * h:=by have:=(bey_lt ha (s:Int)).1;omega
  have tb:=hT b hbl
  have P1:∀ (o:List Int) (r:List Int × Int),(∀ best2:Int,best2 = (if L.getD b 0 = (n:Int) ∧ (best < 0 ∨ (b:Int) < best) then (b:Int) else best) → Ev (fun k=>water_Sail.l4 k (a:Int) ((n:Int) + 1) o best2 ((s + 1:Nat):Int) K B (w:Int) (h:Int) (gS w h C) (gB w h C) (gE w h C) m) r) → Ev (fun k=>water_Sail.l4 k (a:Int) ((n:Int) + 1) o best (s:Int) K B (w:Int) (h:Int) (gS w h C) (gB w h C) (gE w h C) m) r:=by
   intro o r hr
   refine Ev.step (fun k=>by simp only [water_Sail.l4];rfl) (Ev.pos (by omega) (Ev.bind (join_ev U ha hs) (Ev.pos hj (Ev.bind (beyond_ev U.land ha hs _ _ _) ?_))))
   rw [hbe',w1,w2]
   by_cases q0:0 ≤ L.getD b 0
   ·refine Ev.pos (by rw [tb.1];exact decide_eq_true q0) ?_
    rw [tb.2 q0]
    by_cases q1:L.getD b 0 = (n:Int)
    ·refine Ev.pos q1 ?_
     by_cases q2:best < 0
     ·exact Ev.pos q2 (hr _ (by rw [if_pos ⟨q1,.inl q2⟩]))
     ·refine Ev.neg q2 ?_
      by_cases q3:(b:Int) < best
      ·exact Ev.pos q3 (hr _ (by rw [if_pos ⟨q1,.inr q3⟩]))
      ·exact Ev.neg q3 (hr _ (by rw [if_neg (fun q=>by rcases q.2 with q | q <;> omega)]))
    ·exact Ev.neg q1 (hr _ (by rw [if_neg (fun q=>q1 q.1)]))
   ·exact Ev.neg (by rw [tb.1];simp only [decide_eq_true_eq];exact q0) (hr _ (by rw [if_neg (fun q=>by omega)]))
  have hb':((if L.getD b 0 = (n:Int) ∧ (best < 0 ∨ (b:Int) < best) then (b:Int) else best) = -1 ∧ ∃ s':Int,((s + 1:Nat):Int) ≤ s' ∧ s' ≤ 3 ∧ join w h C K a s' = true ∧ L.getD (bey w h a s').toNat 0 = (n:Int)) ∨ (∃ b':Nat,(if L.getD b 0 = (n:Int) ∧ (best < 0 ∨ (b:Int) < best) then (b:Int) else best) = (b':Int) ∧ Stp w h C K a b' ∧ L.getD b' 0 = (n:Int)):=by
   by_cases q:L.getD b 0 = (n:Int) ∧ (best < 0 ∨ (b:Int) < best)
   ·rw [if_pos q];exact .inr ⟨b,rfl,⟨ha,hbl,(s:Int),hs,hj,hbe'⟩,q.1⟩
   ·rw [if_neg q]
    rcases hb with ⟨q1,s',h1,h2,h3,h4⟩ | q1
    ·refine .inl ⟨q1,s',?_,h2,h3,h4⟩
     by_cases e2:s' = (s:Int)
     ·rw [e2,hbe',Int.toNat_natCast] at h4
      exact absurd ⟨h4,.inl (by omega)⟩ q
     ·omega
    ·exact .inr q1
  obtain ⟨p,p0,p1,pf,p2⟩:=go _ hb'
  exact ⟨p,p0,p1,pf,fun o ho=>P1 o _ (fun _ e2=>by rw [e2];exact p2 o ho)⟩
theorem pathA (U:Waters w h C K B) {L line:List Int} {m:List (Int × Int)} (hL:Lab w h C K to_ L line) (hT:Tells w h L m):∀ n:Nat,n ≤ 2000 → ∀ a:Nat,a < w * h → L.getD a 0 = (n:Int) →
  ∃ p:List Int,p.length = n ∧ Chain w h C K a p to_ ∧ (p ≠ [] → Fol w h C K B L m p) ∧ Goes w h C K B m a n p
 | 0,_,a,ha,hv=>by
  have e:a = to_:=by
   rcases hL.from_ a ha (by omega) with q | q
   ·exact q
   ·omega
  exact ⟨[],rfl,e,fun q=>absurd rfl q,fun o _=>Ev.step (fun k=>by simp only [water_Sail.l3];rfl) (Ev.neg (by omega) (Ev.const (by simp)))⟩
 | n + 1,hn,a,ha,hv=>by
  have hne:a ≠ to_:=fun e=>by rw [e,hL.goal.2] at hv;omega
  have hv':L.getD a 0 = (n:Int) + 1:=by omega
  have par:∃ s':Int,((0:Nat):Int) ≤ s' ∧ s' ≤ 3 ∧ join w h C K a s' = true ∧ L.getD (bey w h a s').toNat 0 = (n:Int):=by
   rcases hL.from_ a ha (by omega) with q | ⟨_,s',q1,q2,q3⟩
   ·exact absurd q hne
   ·exact ⟨s',q1.1,q1.2,q2,by rw [q3,hv'];omega⟩
  obtain ⟨p,p0,p1,pf,p2⟩:=pickA U hL hT ha n hv' (by omega) (fun b hb hbv=>by
   obtain ⟨p,p0,p1,_,p2⟩:=pathA U hL hT n (by omega) b hb hbv
   exact ⟨p,p0,p1,p2⟩) 4 0 (by omega) (-1) (.inl ⟨rfl,par⟩)
  exact ⟨p,p0,p1,fun _=>pf,fun o ho=>Ev.step (fun k=>by simp only [water_Sail.l3];rfl) (Ev.pos (by omega) (p2 o (by omega)))⟩
theorem below_next {s':Int} {s:Nat} (h:s' < ((s + 1:Nat):Int)) (hn:¬ s' = (s:Int)):s' < (s:Int) := by omega
theorem spreadA_sides {N:Nat} (U:Waters w h C K B) {R:(Nat → List Int × Int) → Prop} {p:Nat} (hp:p < w * h) (i:Nat)
  (next:∀ (L:List Int) (m:List (Int × Int)) (line:List Int),Bfs w h C K to_ L line (i + 1) → Tells w h L m → i < line.length → ∀ M:Nat,2 * unl L + (line.length - i) ≤ M + 1 → M < N → ∃ r:Nat → List Int × Int,R r ∧ ∀ a:Nat,a < w * h → Ev (fun k=>water_Sail.l1 k (a:Int) (line.drop (i + 1)) K B (w:Int) (h:Int) (gS w h C) (gB w h C) (gE w h C) m) (r a)) :
  ∀ n s:Nat,s + n = 4 → ∀ (L:List Int) (m:List (Int × Int)) (line:List Int),Bfs w h C K to_ L line i → Tells w h L m → i < line.length → line.getD i 0 = (p:Int) → Sds w h C K L p (s:Int) → 2 * unl L + (line.length - i) ≤ N →
   ∃ r:Nat → List Int × Int,R r ∧ ∀ a:Nat,a < w * h → Ev (fun k=>water_Sail.l2 k (a:Int) (line.drop i) (s:Int) K B (w:Int) (h:Int) (gS w h C) (gB w h C) (gE w h C) m) (r a)
 | 0,s,e,L,m,line,hF,hT,hi,hq,hS,hN=>by
  have hwh:w * h ≤ 32 * 32:=mulle U.land.w1 U.land.h1
  have:=hF.lab.all
  have es:(s:Int) = 4:=by omega
  obtain ⟨r,r0,r1⟩:=next L m line (hF.next hi hq (by rw [← es];exact hS)) hT hi (2 * unl L + (line.length - i) - 1) (by omega) (by omega)
  refine ⟨r,r0,fun a ha=>Ev.step (fun k=>by simp only [water_Sail.l2];rfl) (Ev.neg (by omega) (Ev.pos (by rw [List.length_drop];omega) ?_))⟩
  rw [List.drop_drop];exact r1 a ha
 | n + 1,s,e,L,m,line,hF,hT,hi,hq,hS,hN=>by
  have hwh:w * h ≤ 32 * 32:=mulle U.land.w1 U.land.h1
  have hs:0 ≤ (s:Int) ∧ (s:Int) ≤ 3:=by omega
  have hL:=hF.lab
  have hall:=hL.all
  have w1:wrap64 ((s:Int) + 1) = ((s + 1:Nat):Int):=by rw [wrap_in (by omega) (by omega)];omega
  have q0:rd (line.drop i) 0 = (p:Int):=by
   rw [show (0:Int) = ((0:Nat):Int) from rfl,rdN]
   rw [List.getD_eq_getElem?_getD,List.getElem?_drop,← List.getD_eq_getElem?_getD]
   exact hq
  have s4:(s:Int) < 4:=Int.lt_of_le_of_lt hs.2 (by decide)
  have dl:0 < ((line.drop i).length:Int):=by rw [List.length_drop];exact Int.natCast_pos.2 (Nat.sub_pos_of_lt hi)
  have skip:=fun hS'=>spreadA_sides U (R:=R) hp i next n (s + 1) (by omega) L m line hF hT hi hq hS' hN
  by_cases hj:join w h C K p (s:Int) = true
  rotate_left
  ·obtain ⟨r,r0,r1⟩:=skip (fun s' h1 h2 u h3 h4=>by
    by_cases e2:s' = (s:Int)
    ·rw [e2] at h3;exact absurd h3 hj
    ·exact hS s' h1 (below_next h2 e2) u h3 h4)
   refine ⟨r,r0,fun a ha=>Ev.step (fun k=>by simp only [water_Sail.l2];rfl) (Ev.pos s4 (Ev.pos dl ?_))⟩
   rw [q0,w1];exact Ev.bind (join_ev U hp hs) (Ev.neg hj (r1 a ha))
  have b0:=(join_back hp hs hj).1
  obtain ⟨b,hbe⟩:=Int.eq_ofNat_of_zero_le b0
  have hbe':bey w h p (s:Int) = (b:Int):=hbe
  have hbl:b < w * h:=by have:=(bey_lt hp (s:Int)).1;omega
  have tb:=hT b hbl
  have hlen:=hL.len
  by_cases q1:0 ≤ L.getD b 0
  ·have hle:L.getD b 0 ≤ L.getD p 0 + 1:=by
    obtain ⟨j,hjl,ej⟩:=mem_at (hF.has b hbl q1)
    have:=hF.top hi j hjl
    unfold lb at this
    rw [ej,hq,Int.toNat_natCast,Int.toNat_natCast] at this
    exact this
   obtain ⟨r,r0,r1⟩:=skip (fun s' h1 h2 u h3 h4=>by
    by_cases e2:s' = (s:Int)
    ·rw [e2,hbe'] at h4
     obtain rfl:b = u:=by omega
     exact ⟨q1,hle⟩
    ·exact hS s' h1 (below_next h2 e2) u h3 h4)
   refine ⟨r,r0,fun a ha=>Ev.step (fun k=>by simp only [water_Sail.l2];rfl) (Ev.pos s4 (Ev.pos dl ?_))⟩
   rw [q0,w1]
   refine Ev.bind (join_ev U hp hs) (Ev.pos hj (Ev.bind (beyond_ev U.land hp hs _ _ _) ?_))
   rw [hbe']
   exact Ev.pos (by rw [tb.1];exact decide_eq_true q1) (r1 a ha)
  ·obtain ⟨pl,hF2,keep⟩:=hF.step hi hq hp hs hj hbe' hbl (by omega)
   have hT2:Tells w h (L.set b (L.getD p 0 + 1)) (mpPut (b:Int) (L.getD p 0 + 1) m):=hT.step hlen hbl (by omega)
   have hu:=unl_set L b (L.getD p 0 + 1) (by omega) (by omega) (by omega)
   have hcap:=hL.cap p hp
   obtain ⟨r,r0,r1⟩:=spreadA_sides U (R:=R) hp i next n (s + 1) (by omega) _ _ _ hF2 hT2 (by simp;omega) (by rw [app_at hi];exact hq) (fun s' h1 h2 u h3 h4=>by
    rw [keep p pl]
    by_cases e2:s' = (s:Int)
    ·rw [e2,hbe'] at h4
     obtain rfl:b = u:=by omega
     rw [set_at,if_pos ⟨rfl,by omega⟩]
     omega
    ·have:=hS s' h1 (below_next h2 e2) u h3 h4
     rw [keep u this.1];exact this) (by rw [List.length_append,List.length_singleton];omega)
   have w3:wrap64 (L.getD p 0 + 1) = L.getD p 0 + 1:=wrap_in (by omega) (by omega)
   refine ⟨r,r0,fun a ha=>Ev.step (fun k=>by simp only [water_Sail.l2];rfl) (Ev.pos s4 (Ev.pos dl ?_))⟩
   rw [q0,w1]
   refine Ev.bind (join_ev U hp hs) (Ev.pos hj (Ev.bind (beyond_ev U.land hp hs _ _ _) ?_))
   rw [hbe',(hT p hp).2 pl,w3]
   refine Ev.neg (by rw [tb.1];simp only [decide_eq_true_eq];exact q1) (Ev.pos (by rw [List.length_drop];omega) ?_)
   have r1:=r1 a ha
   rw [List.drop_append_of_le_length (by omega)] at r1
   exact r1
def Least (w h : Nat) (C K : List Int) (a to_ : Nat) (r : List Int × Int) : Prop := (∃ p : List Int, r = ((a : Int) :: p, 0) ∧ p.length < w * h ∧ Chain w h C K a p to_ ∧ ∀ q, Chain w h C K a q to_ → p.length ≤ q.length) ∨ (r = ([], 2) ∧ ¬ ∃ q, Chain w h C K a q to_)
def Ways (w h : Nat) (C K : List Int) (to_ : Nat) (R : Nat → List Int × Int) : Prop := (∀ a, a < w * h → Least w h C K a to_ (R a)) ∧ ∀ (a : Nat) (x : Int) (q : List Int), a < w * h → R a = ((a : Int) :: x :: q, 0) → ∃ b : Nat, x = (b : Int) ∧ b < w * h ∧ R b = ((b : Int) :: q, 0)
theorem spreadA_end (U:Waters w h C K B) {L line:List Int} {m:List (Int × Int)} {i:Nat} (hF:Bfs w h C K to_ L line i) (hi:i = line.length) (hT:Tells w h L m) :
  ∃ r:Nat → List Int × Int,Ways w h C K to_ r ∧ ∀ a:Nat,a < w * h → Ev (fun k=>water_Sail.l1 k (a:Int) (line.drop i) K B (w:Int) (h:Int) (gS w h C) (gB w h C) (gE w h C) m) (r a):=by
 subst hi
 have hL:=hF.lab
 have hwh:w * h ≤ 32 * 32:=mulle U.land.w1 U.land.h1
 have hall:=hL.all
 have cl:=chain_lb hL.goal.2 hF.end
 have run:∀ (a n:Nat) (p:List Int),a < w * h → L.getD a 0 = (n:Int) → n < w * h → Goes w h C K B m a n p → Ev (fun k=>water_Sail.l1 k (a:Int) (line.drop line.length) K B (w:Int) (h:Int) (gS w h C) (gB w h C) (gE w h C) m) ((a:Int) :: p,0):=by
  intro a n p ha hn hlt g
  have ta:=hT a ha
  have q:0 ≤ L.getD a 0:=by omega
  refine Ev.step (fun k=>by simp only [water_Sail.l1];rfl) (Ev.neg (by rw [List.length_drop];omega) (Ev.pos (by rw [ta.1];exact decide_eq_true q) ?_))
  rw [ta.2 q,hn]
  exact g [(a:Int)] (by simp;omega)
 have ex:∀ a:Nat,∃ r:List Int × Int,a < w * h → Least w h C K a to_ r ∧ Ev (fun k=>water_Sail.l1 k (a:Int) (line.drop line.length) K B (w:Int) (h:Int) (gS w h C) (gB w h C) (gE w h C) m) r ∧ ∀ x q,r = ((a:Int) :: x :: q,0) → Fol w h C K B L m (x :: q):=by
  intro a
  by_cases ha:a < w * h
  rotate_left
  ·exact ⟨([],2),fun z=>absurd z ha⟩
  have ta:=hT a ha
  by_cases q:0 ≤ L.getD a 0
  ·obtain ⟨n,hn⟩:=Int.eq_ofNat_of_zero_le q
   have hcap:=hL.cap a ha
   obtain ⟨p,p0,p1,pf,p2⟩:=pathA U hL hT n (by omega) a ha hn
   refine ⟨((a:Int) :: p,0),fun _=>⟨.inl ⟨p,rfl,by omega,p1,fun q hq=>by have:=(cl q a hq).2;omega⟩,run a n p ha hn (by omega) p2,fun x q e=>?_⟩⟩
   have e2:p = x :: q:=(List.cons.inj (Prod.mk.inj e).1).2
   subst e2
   exact pf (by simp)
  ·refine ⟨([],2),fun _=>⟨.inr ⟨rfl,fun ⟨z,hz⟩=>q (cl z a hz).1⟩,Ev.step (fun k=>by simp only [water_Sail.l1];rfl) (Ev.neg (by rw [List.length_drop];omega) (Ev.neg (by rw [ta.1];simp only [decide_eq_true_eq];exact q) (Ev.now _))),fun x q e=>?_⟩⟩
   exact absurd (Prod.mk.inj e).1 (by simp)
 refine ⟨fun a=>Classical.choose (ex a),⟨fun a ha=>(Classical.choose_spec (ex a) ha).1,fun a x q ha e=>?_⟩,fun a ha=>(Classical.choose_spec (ex a) ha).2.1⟩
 obtain ⟨b,n,q',e2,hb,hbn,g⟩:=(Classical.choose_spec (ex a) ha).2.2 x q e
 obtain ⟨rfl,rfl⟩:=List.cons.inj e2
 have hcap:=hL.cap b hb
 exact ⟨b,rfl,hb,Ev.unique (Classical.choose_spec (ex b) hb).2.1 (run b n q hb hbn (by omega) g)⟩
theorem spreadA (U:Waters w h C K B):∀ (N:Nat) (L:List Int) (m:List (Int × Int)) (line:List Int) (i:Nat),Bfs w h C K to_ L line i → Tells w h L m → i ≤ line.length → 2 * unl L + (line.length - i) ≤ N →
   ∃ r:Nat → List Int × Int,Ways w h C K to_ r ∧ ∀ a:Nat,a < w * h → Ev (fun k=>water_Sail.l1 k (a:Int) (line.drop i) K B (w:Int) (h:Int) (gS w h C) (gB w h C) (gE w h C) m) (r a):=by
 intro N
 induction N using Nat.strongRecOn with
 | ind N IH =>
  intro L m line i hF hT hi hN
  have hL:=hF.lab
  by_cases hlt:i < line.length
  ·obtain ⟨p,hq,hp,_⟩:=hL.line_in _ (at_mem hlt)
   obtain ⟨r,r0,r1⟩:=spreadA_sides (N:=N) U (R:=Ways w h C K to_) hp i (fun L m line hF hT hi' M hM hMN=>IH M hMN L m line (i + 1) hF hT (by omega) (by omega)) 4 0 (by omega) L m line hF hT hlt hq (fun s' h1 h2=>by omega) hN
   exact ⟨r,r0,fun a ha=>Ev.step (fun k=>by simp only [water_Sail.l1];rfl) (Ev.pos (by rw [List.length_drop];omega) (r1 a ha))⟩
  ·exact spreadA_end U hF (by omega) hT
theorem spread1 (U:Waters w h C K B) {a:Nat} (ha:a < w * h) (N:Nat) (L:List Int) (m:List (Int × Int)) (line:List Int) (i:Nat) (hF:Bfs w h C K to_ L line i) (hT:Tells w h L m) (hi:i ≤ line.length) (hN:2 * unl L + (line.length - i) ≤ N) :
   ∃ r:List Int × Int,Least w h C K a to_ r ∧ Ev (fun k=>water_Sail.l1 k (a:Int) (line.drop i) K B (w:Int) (h:Int) (gS w h C) (gB w h C) (gE w h C) m) r:=by
 obtain ⟨r,r0,r1⟩:=spreadA U N L m line i hF hT hi hN
 exact ⟨r a,r0.1 a ha,r1 a ha⟩
end
section
variable {w h : Nat} {C K B : List Int}
def Ends (w h : Nat) (C K : List Int) (a b : Int) (na nb : Nat) : Prop := a = (na : Int) ∧ b = (nb : Int) ∧ na < w * h ∧ nb < w * h ∧ wet w C K na = true ∧ wet w C K nb = true
theorem sail_prog (U:Waters w h C K B) (hC:C.length ≤ 4000) (hB:B.length ≤ 4000) (a b:Int):∃ r:List Int × Int,Ev (fun k => water_Sail.f k (w:Int) (h:Int) C K B a b) r ∧ ((∃ na nb:Nat,Ends w h C K a b na nb ∧ Least w h C K na nb r) ∨ (r = ([],2) ∧ ¬ ∃ na nb:Nat,Ends w h C K a b na nb)) := by
 unfold water_Sail.f
 have hKl:=U.len
 have hwh:w * h ≤ 32 * 32:=mulle U.land.w1 U.land.h1
 have hw':wcode (w:Int) (h:Int) C K B = 0:=of_waters U
 have P:∀ r,Ev (fun k=>water_Sail.l0 k a b (⟨a,b⟩:S107) 0 K B (w:Int) (h:Int) (gS w h C) (gB w h C) (gE w h C)) r → Ev (fun k=>(water_check.f k (w:Int) (h:Int) C K B).bind fun g=>if g.2.2.2.2.2 = 0 then water_Sail.l0 k a b (⟨a,b⟩:S107) 0 K B g.1 g.2.1 g.2.2.1 g.2.2.2.1 g.2.2.2.2.1 else some (([]:List Int),g.2.2.2.2.2)) r:=by
  intro r hr
  refine Ev.bind (check_ev hC hB) ?_
  simp only [if_pos (of_land U.land),Int.toNat_natCast]
  exact Ev.pos hw' hr
 by_cases qa:0 ≤ a ∧ a < ((w * h:Nat):Int)
 rotate_left
 ·refine ⟨([],2),P _ ?_,.inr ⟨rfl,fun ⟨na,nb,e1,_,e3,_⟩=>qa (by omega)⟩⟩
  refine Ev.step (fun k=>by simp only [water_Sail.l0];rfl) (Ev.pos (by decide) (Ev.pos (by decide) ?_))
  change Ev (fun k=>if a < 0 then some ([],2) else if a ≥ (K.length:Int) then some ([],2) else _) _
  by_cases q0:a < 0
  ·exact Ev.pos q0 (Ev.now _)
  ·exact Ev.neg q0 (Ev.pos (by omega) (Ev.now _))
 obtain ⟨na,rfl⟩:=Int.eq_ofNat_of_zero_le qa.1
 have hna:na < w * h:=by omega
 have first:∀ r,Ev (fun k=>if wet w C K na = true then water_Sail.l0 k (na:Int) b (⟨(na:Int),b⟩:S107) 1 K B (w:Int) (h:Int) (gS w h C) (gB w h C) (gE w h C) else some ([],2)) r → Ev (fun k=>water_Sail.l0 k (na:Int) b (⟨(na:Int),b⟩:S107) 0 K B (w:Int) (h:Int) (gS w h C) (gB w h C) (gE w h C)) r:=by
  intro r hr
  refine Ev.step (fun k=>by simp only [water_Sail.l0];rfl) (Ev.pos (by decide) (Ev.pos (by decide) (Ev.neg (show ¬ (na:Int) < 0 by omega) (Ev.neg (show ¬ (na:Int) ≥ (K.length:Int) by omega) ?_))))
  refine Ev.bindc (show water_ground_wet.f (w:Int) (h:Int) (gS w h C) (gB w h C) (gE w h C) K B (na:Int) = some (wet w C K na) from wet_lt hKl hna) ?_
  rw [wrap_in (x:=(0:Int) + 1) (by decide) (by decide)]
  exact hr
 by_cases wa:wet w C K na = true
 rotate_left
 ·exact ⟨([],2),P _ (first _ (Ev.neg wa (Ev.now _))),.inr ⟨rfl,fun ⟨na',nb,e1,_,_,_,e5,_⟩=>wa (by have e1':(na:Int) = (na':Int):=e1;rw [show na = na' by omega];exact e5)⟩⟩
 by_cases qb:0 ≤ b ∧ b < ((w * h:Nat):Int)
 rotate_left
 ·refine ⟨([],2),P _ (first _ ?_),.inr ⟨rfl,fun ⟨na',nb,_,e2,_,e4,_⟩=>qb (by omega)⟩⟩
  refine Ev.pos wa (Ev.step (fun k=>by simp only [water_Sail.l0];rfl) (Ev.pos (by decide) (Ev.pos (by decide) ?_)))
  change Ev (fun k=>if b < 0 then some ([],2) else if b ≥ (K.length:Int) then some ([],2) else _) _
  by_cases q0:b < 0
  ·exact Ev.pos q0 (Ev.now _)
  ·exact Ev.neg q0 (Ev.pos (by omega) (Ev.now _))
 obtain ⟨nb,rfl⟩:=Int.eq_ofNat_of_zero_le qb.1
 have hnb:nb < w * h:=by omega
 have second:∀ r,Ev (fun k=>if wet w C K nb = true then water_Sail.l0 k (na:Int) (nb:Int) (⟨(na:Int),(nb:Int)⟩:S107) 2 K B (w:Int) (h:Int) (gS w h C) (gB w h C) (gE w h C) else some ([],2)) r → Ev (fun k=>water_Sail.l0 k (na:Int) (nb:Int) (⟨(na:Int),(nb:Int)⟩:S107) 1 K B (w:Int) (h:Int) (gS w h C) (gB w h C) (gE w h C)) r:=by
  intro r hr
  refine Ev.step (fun k=>by simp only [water_Sail.l0];rfl) (Ev.pos (by decide) (Ev.pos (by decide) (Ev.neg (show ¬ (nb:Int) < 0 by omega) (Ev.neg (show ¬ (nb:Int) ≥ (K.length:Int) by omega) ?_))))
  refine Ev.bindc (show water_ground_wet.f (w:Int) (h:Int) (gS w h C) (gB w h C) (gE w h C) K B (nb:Int) = some (wet w C K nb) from wet_lt hKl hnb) ?_
  rw [wrap_in (x:=(1:Int) + 1) (by decide) (by decide)]
  exact hr
 by_cases wb:wet w C K nb = true
 rotate_left
 ·exact ⟨([],2),P _ (first _ (Ev.pos wa (second _ (Ev.neg wb (Ev.now _))))),.inr ⟨rfl,fun ⟨na',nb',_,e2,_,_,_,e6⟩=>wb (by have e2':(nb:Int) = (nb':Int):=e2;rw [show nb = nb' by omega];exact e6)⟩⟩
 obtain ⟨r,r0,r1⟩:=spread1 U hna _ _ _ _ 0 (bfs_start (C:=C) (K:=K) hnb) (lab_start (w:=w) (h:=h) (C:=C) (K:=K) hnb).2 (by simp) (Nat.le_refl _)
 exact ⟨r,P _ (first _ (Ev.pos wa (second _ (Ev.pos wb (Ev.step (fun k=>by simp only [water_Sail.l0];rfl) (Ev.neg (by decide) r1)))))),.inl ⟨na,nb,⟨rfl,rfl,hna,hnb,wa,wb⟩,r0⟩⟩
end

end Go.Proofs.Ythjmdpekcleihaa.Pure
