/- What WaterMarks leans on of layers 1 and 6 (lands, waters), in plain words. No conditions. -/
import Derived.Test.YtiencnnkphipoaaPx0
import Derived.Test.YtiencnnkphipoaaPx1
import Derived.Test.YtiencnnkphipoaaPx2
import Derived.Test.YtiencnnkphipoaaPx3
import Derived.Test.YtiencnnkphipoaaPx4
import Derived.Test.YtiencnnkphipoaaPx8
import Derived.Test.YtiencnnkphipoaaPx9
import Derived.Test.YtiencnnkphipoaaPx10
import Derived.Test.YtiencnnkphipoaaEvKit
import Derived.Test.YtiencnnkphipoaaVOpen
namespace Go.Proofs.Ytiencnnkphipoaa.Pure
set_option linter.unusedVariables false
set_option linter.unusedSimpArgs false
open Go.RowKit Go.Proofs.YtiencnnkphipoaaW.PrintWords Go.Proofs.Ytiencnnkphipoaa.P Go.Proofs.Ytiencnnkphipoaa
theorem Ev.rounds {α:Type} {g:Nat → Option α} {r:α} (h:Ev g r):∃ k,g k = some r := by
 obtain ⟨K,h⟩:=h
 exact ⟨K,h K (Nat.le_refl _)⟩
theorem rdN (l:List Int) (i:Nat):rd l (i:Int) = l.getD i 0 := by unfold rd; simp
theorem rdB (l:List Bool) (i:Nat):rdOf false l (i:Int) = l.getD i false := by unfold rdOf; simp
theorem not_all {p:Nat → Prop} {n:Nat} (h:¬ ∀ j,0 ≤ j → j < n → p j):∃ j,0 ≤ j ∧ j < n ∧ ¬ p j := by
 apply Classical.byContradiction
 intro hc
 exact h fun j h1 h2=>Classical.byContradiction fun h3=>hc ⟨j,h1,h2,h3⟩
theorem large_eq (W H:Int) (C K B:List Int):hinterlandlaw06_large.f W H C K B = some (decide ((C.length:Int) > 4000 ∨ (K.length:Int) > 4000 ∨ (B.length:Int) > 4000)) := by
 unfold hinterlandlaw06_large.f
 by_cases h1:(C.length:Int) > 4000
 ·rw [if_pos h1,decide_eq_true (.inl h1)]
 ·rw [if_neg h1]
  by_cases h2:(K.length:Int) > 4000
  ·rw [if_pos h2,decide_eq_true (.inr (.inl h2))]
  ·rw [if_neg h2];congr 1;apply decide_eq_decide.2;omega
def near (a b : Int) : Prop := a - b ≤ 1 ∧ b - a ≤ 1
instance (a b : Int) : Decidable (near a b) := inferInstanceAs (Decidable (_ ∧ _))
theorem near_symm {a b:Int} (h:near a b):near b a := ⟨h.2,h.1⟩
def z (C : List Int) (j : Nat) : Int := C.getD j 0
def ZAt (C : List Int) (j : Nat) : Prop := 0 ≤ z C j ∧ z C j ≤ 15
def Zs (C : List Int) : Prop := ∀ j, 0 ≤ j → j < C.length → ZAt C j
def LShape (W H : Int) (C : List Int) : Prop := (4 ≤ W ∧ W ≤ 32) ∧ (4 ≤ H ∧ H ≤ 32) ∧ (C.length : Int) = (W + 1) * (H + 1)
def PQ (C : List Int) (w h y x : Nat) : Prop := (x < w → near (z C (y * (w + 1) + x)) (z C (y * (w + 1) + x + 1))) ∧ (y < h → near (z C (y * (w + 1) + x)) (z C ((y + 1) * (w + 1) + x)))
def Flat (C : List Int) (w h : Nat) : Prop := ∀ y, y ≤ h → ∀ x, x ≤ w → PQ C w h y x
open Classical in
noncomputable def lcode (W H : Int) (C : List Int) : Int := if LShape W H C then (if Zs C then (if Flat C W.toNat H.toNat then 0 else 5) else 1) else 1
theorem lcode_zero {W H:Int} {C:List Int}:lcode W H C = 0 ↔ LShape W H C ∧ Zs C ∧ Flat C W.toNat H.toNat := by
 unfold lcode
 by_cases h1:LShape W H C
 ·by_cases h2:Zs C
  ·by_cases h3:Flat C W.toNat H.toNat
   ·simp [h1,h2,h3]
   ·simp [h1,h2,h3]
  ·simp [h1,h2]
 ·simp [h1]
theorem apart_eq {a b:Int} (ha:0 ≤ a ∧ a ≤ 15) (hb:0 ≤ b ∧ b ≤ 15):land_apart.f a b = some (decide (¬ near a b)) := by
 unfold land_apart.f near
 rw [wrap_in (x:=a - b) (by omega) (by omega),wrap_in (x:=b - a) (by omega) (by omega)]
 by_cases h:a - b > 1
 ·rw [if_pos h,decide_eq_true (by omega)]
 ·rw [if_neg h];congr 1;apply decide_eq_decide.2;omega
theorem mulle {a b m n:Nat} (h1:a ≤ m) (h2:b ≤ n):a * b ≤ m * n := Nat.mul_le_mul h1 h2
theorem mulw (y w:Nat) (hy:y ≤ 40) (hw:w ≤ 40):wrap64 ((y:Int) * wrap64 ((w:Int) + 1)) = ((y * (w + 1):Nat):Int) := by
 have h:y * (w + 1) ≤ 40 * 41:=mulle hy (by omega)
 have e:(y:Int) * ((w:Int) + 1) = ((y * (w + 1):Nat):Int):=by push_cast;rfl
 rw [wrap_in (x:=(w:Int) + 1) (by omega) (by omega),e,wrap_in (by omega) (by omega)]
theorem idxw (y w x:Nat) (hy:y ≤ 40) (hw:w ≤ 40) (hx:x ≤ 40):wrap64 (wrap64 ((y:Int) * wrap64 ((w:Int) + 1)) + (x:Int)) = ((y * (w + 1) + x:Nat):Int) := by
 have h:y * (w + 1) ≤ 40 * 41:=mulle hy (by omega)
 rw [mulw y w hy hw,wrap_in (by omega) (by omega)];omega
theorem sucw (n:Nat) (h:n ≤ 100000):wrap64 ((n:Int) + 1) = ((n + 1:Nat):Int) := by rw [wrap_in (by omega) (by omega)]; omega
section
variable {w h : Nat} {C : List Int}
open Classical in
theorem land_scan (hw:w ≤ 32) (hh:h ≤ 32) (hl:C.length = (w + 1) * (h + 1)) (hz:Zs C):Ev (fun k => land_Validate.l1 k 0 (w:Int) (h:Int) C) (if (∀ y,0 ≤ y → y < h + 1 → ∀ x,0 ≤ x → x < w + 1 → PQ C w h y x) then 0 else 5) := by
 have zr:∀ j,j < C.length → 0 ≤ C.getD j 0 ∧ C.getD j 0 ≤ 15:=fun j hj=>hz j (Nat.zero_le _) hj
 have len:∀ y x,y ≤ h → x ≤ w → y * (w + 1) + x < C.length:=by
  intro y x hy hx
  have:=mulle hy (Nat.le_refl (w + 1))
  have e:(w + 1) * (h + 1) = h * (w + 1) + (w + 1):=by rw [Nat.mul_comm,Nat.succ_mul]
  omega
 have good:∀ y,y ≤ h → ∀ x,x < w + 1 → PQ C w h y x → ∀ r,Ev (fun k=>land_Validate.l2 k (y:Int) ((x:Int) + 1) (w:Int) (h:Int) C) r → Ev (fun k=>land_Validate.l2 k (y:Int) (x:Int) (w:Int) (h:Int) C) r:=by
  intro y hy x hx ⟨p1,p2⟩ r hr
  have hlen:=len y x hy (by omega)
  refine Ev.step (fun k=>by simp only [land_Validate.l2];rfl) ?_
  simp only [idxw y w x (by omega) (by omega) (by omega),sucw y (by omega),idxw (y + 1) w x (by omega) (by omega) (by omega),sucw x (by omega)]
  have hb:y * (w + 1) + x ≤ 100000:=by have:=mulle (show y ≤ 40 by omega) (show w + 1 ≤ 40 by omega);omega
  simp only [sucw (y * (w + 1) + x) hb,rdN]
  have hr':Ev (fun k=>land_Validate.l2 k (y:Int) ((x + 1:Nat):Int) (w:Int) (h:Int) C) r:=by simpa using hr
  refine Ev.pos (by omega) (Ev.pos (by omega) (Ev.pos (by omega) ?_))
  by_cases hxw:x < w
  ·have hl2:=len y (x + 1) hy (by omega)
   refine Ev.pos (by omega) (Ev.pos (by omega) (Ev.pos (by omega) ?_))
   refine Ev.bindc (apart_eq (zr _ hlen) (zr _ (by omega))) (Ev.neg (by rw [decide_eq_true_eq];exact fun hc=>hc (p1 hxw)) ?_)
   by_cases hyh:y < h
   ·have hl3:=len (y + 1) x (by omega) (by omega)
    exact Ev.pos (by omega) (Ev.pos (by omega) (Ev.pos (by omega) (Ev.bindc (apart_eq (zr _ hlen) (zr _ hl3)) (Ev.neg (by rw [decide_eq_true_eq];exact fun hc=>hc (p2 hyh)) hr'))))
   ·exact Ev.neg (by omega) hr'
  ·refine Ev.neg (by omega) ?_
   by_cases hyh:y < h
   ·have hl3:=len (y + 1) x (by omega) (by omega)
    exact Ev.pos (by omega) (Ev.pos (by omega) (Ev.pos (by omega) (Ev.bindc (apart_eq (zr _ hlen) (zr _ hl3)) (Ev.neg (by rw [decide_eq_true_eq];exact fun hc=>hc (p2 hyh)) hr'))))
   ·exact Ev.neg (by omega) hr'
 have bad:∀ y,y ≤ h → ∀ x,x < w + 1 → ¬ PQ C w h y x → Ev (fun k=>land_Validate.l2 k (y:Int) (x:Int) (w:Int) (h:Int) C) 5:=by
  intro y hy x hx hp
  have hlen:=len y x hy (by omega)
  refine Ev.step (fun k=>by simp only [land_Validate.l2];rfl) ?_
  simp only [idxw y w x (by omega) (by omega) (by omega),sucw y (by omega),idxw (y + 1) w x (by omega) (by omega) (by omega),sucw x (by omega)]
  have hb:y * (w + 1) + x ≤ 100000:=by have:=mulle (show y ≤ 40 by omega) (show w + 1 ≤ 40 by omega);omega
  simp only [sucw (y * (w + 1) + x) hb,rdN]
  refine Ev.pos (by omega) (Ev.pos (by omega) (Ev.pos (by omega) ?_))
  have dn:¬ (y < h → near (z C (y * (w + 1) + x)) (z C ((y + 1) * (w + 1) + x))) → ∀ {r:Nat → Option Int},Ev (fun k=>if (y:Int) < (h:Int) then (if 0 ≤ (((y + 1) * (w + 1) + x:Nat):Int) then (if (((y + 1) * (w + 1) + x:Nat):Int) < (C.length:Int) then ((land_apart.f (C.getD (y * (w + 1) + x) 0) (C.getD ((y + 1) * (w + 1) + x) 0)).bind fun t=>if t = true then some 5 else r k) else none) else none) else r k) 5:=by
   intro hc r
   have hyh:y < h:=Classical.byContradiction fun hn=>hc fun h1=>absurd h1 hn
   have hl3:=len (y + 1) x (by omega) (by omega)
   exact Ev.pos (by omega) (Ev.pos (by omega) (Ev.pos (by omega) (Ev.bindc (apart_eq (zr _ hlen) (zr _ hl3)) (Ev.pos (by rw [decide_eq_true_eq];exact fun hn=>hc fun _=>hn) (Ev.now _)))))
  by_cases hxw:x < w
  ·have hl2:=len y (x + 1) hy (by omega)
   refine Ev.pos (by omega) (Ev.pos (by omega) (Ev.pos (by omega) ?_))
   refine Ev.bindc (apart_eq (zr _ hlen) (zr _ (by omega))) ?_
   by_cases hn:near (C.getD (y * (w + 1) + x) 0) (C.getD (y * (w + 1) + x + 1) 0)
   ·refine Ev.neg (by rw [decide_eq_true_eq];exact fun hc=>hc hn) (dn fun hc=>hp ⟨fun _=>hn,hc⟩)
   ·exact Ev.pos (by rw [decide_eq_true_eq];exact hn) (Ev.now _)
  ·exact Ev.neg (by omega) (dn fun hc=>hp ⟨fun h1=>absurd h1 hxw,hc⟩)
 have rowend:∀ y,y ≤ h → ∀ r,Ev (fun k=>land_Validate.l1 k ((y:Int) + 1) (w:Int) (h:Int) C) r → Ev (fun k=>land_Validate.l2 k (y:Int) ((w + 1:Nat):Int) (w:Int) (h:Int) C) r:=by
  intro y hy r hr
  refine Ev.step (fun k=>by simp only [land_Validate.l2];rfl) ?_
  rw [sucw y (by omega)]
  exact Ev.neg (by omega) (by simpa using hr)
 have rowgood:∀ y,y < h + 1 → (∀ x,0 ≤ x → x < w + 1 → PQ C w h y x) → ∀ r,Ev (fun k=>land_Validate.l1 k ((y:Int) + 1) (w:Int) (h:Int) C) r → Ev (fun k=>land_Validate.l1 k (y:Int) (w:Int) (h:Int) C) r:=by
  intro y hy hp r hr
  refine Ev.step (fun k=>by simp only [land_Validate.l1];rfl) (Ev.pos (by omega) ?_)
  exact Ev.scan_all (g:=fun k i=>land_Validate.l2 k (y:Int) i (w:Int) (h:Int) C) (rowend y (by omega) r hr) (good y (by omega)) (w + 1) 0 (by omega) hp
 have rowbad:∀ y,y < h + 1 → ¬ (∀ x,0 ≤ x → x < w + 1 → PQ C w h y x) → Ev (fun k=>land_Validate.l1 k (y:Int) (w:Int) (h:Int) C) 5:=by
  intro y hy hp
  refine Ev.step (fun k=>by simp only [land_Validate.l1];rfl) (Ev.pos (by omega) ?_)
  exact Ev.scan_some (g:=fun k i=>land_Validate.l2 k (y:Int) i (w:Int) (h:Int) C) (good y (by omega)) (bad y (by omega)) (w + 1) 0 (by omega) (not_all hp)
 have fin:Ev (fun k=>land_Validate.l1 k ((h + 1:Nat):Int) (w:Int) (h:Int) C) 0:=Ev.step (fun k=>by simp only [land_Validate.l1];rfl) (Ev.neg (by omega) (Ev.now _))
 by_cases g:∀ y,0 ≤ y → y < h + 1 → ∀ x,0 ≤ x → x < w + 1 → PQ C w h y x
 ·rw [if_pos g]
  exact Ev.scan_all (g:=fun k i=>land_Validate.l1 k i (w:Int) (h:Int) C) (p:=fun y=>∀ x,0 ≤ x → x < w + 1 → PQ C w h y x) fin rowgood (h + 1) 0 (by omega) g
 ·rw [if_neg g]
  exact Ev.scan_some (g:=fun k i=>land_Validate.l1 k i (w:Int) (h:Int) C) (p:=fun y=>∀ x,0 ≤ x → x < w + 1 → PQ C w h y x) rowgood rowbad (h + 1) 0 (by omega) (not_all g)
end
theorem area_nat {n w h:Nat} (e:(n:Int) = ((w:Int) + 1) * ((h:Int) + 1)):n = (w + 1) * (h + 1) := by
 have h2:(w:Int) + 1 = ((w + 1:Nat):Int):=by omega
 have h3:(h:Int) + 1 = ((h + 1:Nat):Int):=by omega
 rw [h2,h3,← Int.natCast_mul] at e
 omega
theorem flat_iff {w h:Nat} {C:List Int}:Flat C w h ↔ ∀ y,0 ≤ y → y < h + 1 → ∀ x,0 ≤ x → x < w + 1 → PQ C w h y x :=
 ⟨fun f y _ hy x _ hx=>f y (by omega) x (by omega),fun f y hy x hx=>f y (Nat.zero_le _) (by omega) x (Nat.zero_le _) (by omega)⟩
theorem land_ev {W H:Int} {C:List Int} (hl:C.length ≤ 4000):Ev (fun k => land_Validate.f k W H C) (lcode W H C) := by
 unfold land_Validate.f
 have bad:¬ LShape W H C → ∀ q,q = true → Ev (fun k=>land_Validate.j0 k q W H C) (lcode W H C):=by
  intro h q hq
  refine Ev.eq (Ev.step (fun k=>by simp only [land_Validate.j0];rfl) (Ev.pos hq (Ev.now _))) (if_neg h).symm
 by_cases w0:W < 4
 ·exact Ev.pos w0 (bad (fun h=>by have:=h.1;omega) _ rfl)
 refine Ev.neg w0 ?_
 by_cases w1:W > 32
 ·exact Ev.pos w1 (bad (fun h=>by have:=h.1;omega) _ rfl)
 refine Ev.neg w1 ?_
 by_cases h0:H < 4
 ·exact Ev.pos h0 (bad (fun h=>by have:=h.2.1;omega) _ rfl)
 refine Ev.neg h0 ?_
 by_cases h1:H > 32
 ·exact Ev.pos h1 (bad (fun h=>by have:=h.2.1;omega) _ rfl)
 refine Ev.neg h1 ?_
 obtain ⟨w,rfl⟩:=Int.eq_ofNat_of_zero_le (show 0 ≤ W by omega)
 obtain ⟨h,rfl⟩:=Int.eq_ofNat_of_zero_le (show 0 ≤ H by omega)
 have hm:(w + 1) * (h + 1) ≤ 40 * 40:=mulle (by omega) (by omega)
 have e:wrap64 (wrap64 ((w:Int) + 1) * wrap64 ((h:Int) + 1)) = (((w + 1) * (h + 1):Nat):Int):=by
  rw [sucw w (by omega),sucw h (by omega),← Int.natCast_mul,wrap_in (by omega) (by omega)]
 rw [e]
 by_cases l1:C.length = (w + 1) * (h + 1)
 rotate_left
 ·exact bad (fun hs=>l1 (area_nat hs.2.2)) _ (bne_iff_ne.2 (by omega))
 have hs:LShape (w:Int) (h:Int) C:=⟨⟨by omega,by omega⟩,⟨by omega,by omega⟩,by rw [l1];push_cast;rfl⟩
 rw [show ((C.length:Int) != (((w + 1) * (h + 1):Nat):Int)) = false from bne_eq_false_iff_eq.2 (by omega)]
 refine Ev.eq ?_ (if_pos hs).symm
 refine Ev.step (fun k=>by simp only [land_Validate.j0];rfl) (Ev.neg (by simp) ?_)
 have good1:∀ i,i < C.length → ZAt C i → ∀ r,Ev (fun k=>land_Validate.l0 k C (C.length:Int) ((i:Int) + 1) (w:Int) (h:Int) C) r → Ev (fun k=>land_Validate.l0 k C (C.length:Int) (i:Int) (w:Int) (h:Int) C) r:=by
  intro i hi p r hr
  unfold ZAt z at p
  refine Ev.step (fun k=>by simp only [land_Validate.l0];rfl) ?_
  rw [rdN,wrap_in (x:=(i:Int) + 1) (by omega) (by omega)]
  exact Ev.pos (by omega) (Ev.pos (by omega) (Ev.pos (by omega) (Ev.neg (by omega) (Ev.neg (by omega) hr))))
 have bad1:∀ i,i < C.length → ¬ ZAt C i → Ev (fun k=>land_Validate.l0 k C (C.length:Int) (i:Int) (w:Int) (h:Int) C) 1:=by
  intro i hi p
  unfold ZAt z at p
  refine Ev.step (fun k=>by simp only [land_Validate.l0];rfl) ?_
  rw [rdN]
  refine Ev.pos (by omega) (Ev.pos (by omega) (Ev.pos (by omega) ?_))
  by_cases q1:C.getD i 0 < 0
  ·exact Ev.pos q1 (Ev.now _)
  exact Ev.neg q1 (Ev.pos (by omega) (Ev.now _))
 by_cases g1:Zs C
 ·refine Ev.eq ?_ (if_pos g1).symm
  have fin:=land_scan (w:=w) (h:=h) (by omega) (by omega) l1 g1
  refine Ev.scan_all (g:=fun k i=>land_Validate.l0 k C (C.length:Int) i (w:Int) (h:Int) C) (Ev.step (fun k=>by simp only [land_Validate.l0];rfl) (Ev.neg (by omega) ?_)) good1 C.length 0 (by omega) g1
  simp only [Int.toNat_natCast]
  by_cases g2:Flat C w h
  ·rw [if_pos (flat_iff.1 g2)] at fin;rw [if_pos g2];exact fin
  ·rw [if_neg (fun hc=>g2 (flat_iff.2 hc))] at fin;rw [if_neg g2];exact fin
 ·exact Ev.eq (Ev.scan_some (g:=fun k i=>land_Validate.l0 k C (C.length:Int) i (w:Int) (h:Int) C) good1 bad1 C.length 0 (by omega) (not_all g1)) (if_neg g1).symm
def co (w t : Nat) : Nat := t / w * (w + 1) + t % w
def lo4 (a b c d : Int) : Int := mn (mn (mn a b) c) d
def hi4 (a b c d : Int) : Int := mx (mx (mx a b) c) d
def stp (s a x i : Int) : Int := if x > a then (if x > a + 1 then Go.bits .or .i64 (Go.bits .or .i64 s (shl .i64 1 i)) 16 else Go.bits .or .i64 s (shl .i64 1 i)) else (if x > a + 1 then Go.bits .or .i64 s 16 else s)
def slp (a z0 z1 z2 z3 : Int) : Int := stp (stp (stp (stp 0 a z0 0) a z1 1) a z2 2) a z3 3
def bit (b : Bool) (v : Int) : Int := if b then v else 0
def stB (s : Int) (b d : Bool) (i : Int) : Int := if b then (if d then Go.bits .or .i64 (Go.bits .or .i64 s (shl .i64 1 i)) 16 else Go.bits .or .i64 s (shl .i64 1 i)) else (if d then Go.bits .or .i64 s 16 else s)
theorem stp_B (s a x i:Int):stp s a x i = stB s (decide (x > a)) (decide (x > a + 1)) i := by
 unfold stp stB
 by_cases h1:x > a <;> by_cases h2:x > a + 1 <;> simp [h1,h2]
theorem slB:∀ b0 d0 b1 d1 b2 d2 b3 d3:Bool,stB (stB (stB (stB 0 b0 d0 0) b1 d1 1) b2 d2 2) b3 d3 3 = bit b0 1 + bit b1 2 + bit b2 4 + bit b3 8 + bit (d0 || d1 || d2 || d3) 16 := by decide +kernel
theorem slp_eq (a z0 z1 z2 z3:Int):slp a z0 z1 z2 z3 = bit (decide (z0 > a)) 1 + bit (decide (z1 > a)) 2 + bit (decide (z2 > a)) 4 + bit (decide (z3 > a)) 8 + bit (decide (z0 > a + 1) || decide (z1 > a + 1) || decide (z2 > a + 1) || decide (z3 > a + 1)) 16 := by
 unfold slp
 rw [stp_B,stp_B,stp_B,stp_B,slB]
theorem bit_le (b:Bool) (v:Int) (h:0 ≤ v):0 ≤ bit b v ∧ bit b v ≤ v := by cases b <;> simp [bit] <;> omega
theorem lo4_le (a b c d:Int):lo4 a b c d ≤ a ∧ lo4 a b c d ≤ b ∧ lo4 a b c d ≤ c ∧ lo4 a b c d ≤ d ∧ (lo4 a b c d = a ∨ lo4 a b c d = b ∨ lo4 a b c d = c ∨ lo4 a b c d = d) := by
 unfold lo4 mn;repeat' split
 all_goals omega
theorem hi4_ge (a b c d:Int):a ≤ hi4 a b c d ∧ b ≤ hi4 a b c d ∧ c ≤ hi4 a b c d ∧ d ≤ hi4 a b c d ∧ (hi4 a b c d = a ∨ hi4 a b c d = b ∨ hi4 a b c d = c ∨ hi4 a b c d = d) := by
 unfold hi4 mx;repeat' split
 all_goals omega
section
variable (w : Nat) (C : List Int) (t : Nat)
def zk (k : Nat) : Int := match k with | 0 => z C (co w t) | 1 => z C (co w t + 1) | 2 => z C (co w t + w + 2) | _ => z C (co w t + w + 1)
def base (w : Nat) (C : List Int) (t : Nat) : Int := lo4 (zk w C t 0) (zk w C t 1) (zk w C t 2) (zk w C t 3)
def top (w : Nat) (C : List Int) (t : Nat) : Int := hi4 (zk w C t 0) (zk w C t 1) (zk w C t 2) (zk w C t 3)
def slope (w : Nat) (C : List Int) (t : Nat) : Int := slp (base w C t) (zk w C t 0) (zk w C t 1) (zk w C t 2) (zk w C t 3)
def sea (w : Nat) (C : List Int) (t : Nat) : Bool := decide (top w C t ≤ 2)
end
structure Land (w h : Nat) (C : List Int) : Prop where
 w0:4 ≤ w
 w1:w ≤ 32
 h0:4 ≤ h
 h1:h ≤ 32
 len:C.length = (w + 1) * (h + 1)
 zs:Zs C
 flat:Flat C w h
theorem land_of {W H:Int} {C:List Int} (e:lcode W H C = 0):∃ w h:Nat,W = (w:Int) ∧ H = (h:Int) ∧ Land w h C := by
 obtain ⟨⟨hW,hH,hl⟩,hz,hf⟩:=lcode_zero.1 e
 obtain ⟨w,rfl⟩:=Int.eq_ofNat_of_zero_le (show 0 ≤ W by omega)
 obtain ⟨h,rfl⟩:=Int.eq_ofNat_of_zero_le (show 0 ≤ H by omega)
 exact ⟨w,h,rfl,rfl,by omega,by omega,by omega,by omega,area_nat hl,hz,by simpa using hf⟩
theorem of_land {w h:Nat} {C:List Int} (L:Land w h C):lcode (w:Int) (h:Int) C = 0 := by
 have:=L.w0
 have:=L.w1
 have:=L.h0
 have:=L.h1
 exact lcode_zero.2 ⟨⟨⟨by omega,by omega⟩,⟨by omega,by omega⟩,by rw [L.len];push_cast;rfl⟩,L.zs,by simpa using L.flat⟩
section
variable {w h : Nat} {C : List Int}
theorem tile {t:Nat} (ht:t < w * h):t / w < h ∧ t % w < w ∧ t / w * w + t % w = t := by
 have hw:0 < w:=by
  rcases Nat.eq_zero_or_pos w with rfl | hp
  ·simp at ht
  ·exact hp
 exact ⟨by rw [Nat.div_lt_iff_lt_mul hw,Nat.mul_comm];exact ht,Nat.mod_lt _ hw,by rw [Nat.mul_comm];exact Nat.div_add_mod t w⟩
theorem co_lt (L:Land w h C) {t:Nat} (ht:t < w * h):co w t + w + 2 < C.length ∧ co w t + w + 2 ≤ 2000 := by
 obtain ⟨h1,h2,_⟩:=tile ht
 have:=L.w1
 have:=L.h1
 have e:(w + 1) * (h + 1) = h * (w + 1) + (w + 1):=by rw [Nat.mul_comm,Nat.succ_mul]
 have h3:=Nat.mul_le_mul_right (w + 1) (show t / w + 1 ≤ h by omega)
 rw [Nat.succ_mul] at h3
 have h4:h * (w + 1) ≤ 32 * 33:=mulle L.h1 (by omega)
 rw [L.len,e]
 unfold co
 omega
theorem zk_in (L:Land w h C) {t:Nat} (ht:t < w * h) (k:Nat):0 ≤ zk w C t k ∧ zk w C t k ≤ 15 := by
 have hc:=co_lt L ht
 match k with
 | 0=>exact L.zs _ (Nat.zero_le _) (by omega)
 | 1=>exact L.zs _ (Nat.zero_le _) (by omega)
 | 2=>exact L.zs _ (Nat.zero_le _) (by omega)
 | k + 3=>exact L.zs _ (Nat.zero_le _) (by omega)
theorem zk_near (L:Land w h C) {t:Nat} (ht:t < w * h):near (zk w C t 0) (zk w C t 1) ∧ near (zk w C t 0) (zk w C t 3) ∧ near (zk w C t 1) (zk w C t 2) ∧ near (zk w C t 3) (zk w C t 2) := by
 obtain ⟨h1,h2,_⟩:=tile ht
 have e:(t / w + 1) * (w + 1) = t / w * (w + 1) + (w + 1):=Nat.succ_mul _ _
 have p:=L.flat (t / w) (by omega) (t % w) (by omega)
 have q:=L.flat (t / w) (by omega) (t % w + 1) (by omega)
 have s:=L.flat (t / w + 1) (by omega) (t % w) (by omega)
 refine ⟨p.1 h2,?_,?_,?_⟩
 ·have:=p.2 h1
  rw [e,show t / w * (w + 1) + (w + 1) + t % w = t / w * (w + 1) + t % w + w + 1 by omega] at this
  exact this
 ·have:=q.2 h1
  rw [e,show t / w * (w + 1) + (w + 1) + (t % w + 1) = t / w * (w + 1) + t % w + w + 2 by omega,← Nat.add_assoc] at this
  exact this
 ·have:=s.1 h2
  rw [e,show t / w * (w + 1) + (w + 1) + t % w = t / w * (w + 1) + t % w + w + 1 by omega] at this
  exact this
theorem base_in (L:Land w h C) {t:Nat} (ht:t < w * h):0 ≤ base w C t ∧ base w C t ≤ 15 := by
 have h0:=zk_in L ht 0
 have h1:=zk_in L ht 1
 have h2:=zk_in L ht 2
 have h3:=zk_in L ht 3
 have:=lo4_le (zk w C t 0) (zk w C t 1) (zk w C t 2) (zk w C t 3)
 unfold base
 omega
theorem top_in (L:Land w h C) {t:Nat} (ht:t < w * h):base w C t ≤ top w C t ∧ top w C t ≤ base w C t + 2 ∧ top w C t ≤ 15 := by
 have h0:=zk_in L ht 0
 have h1:=zk_in L ht 1
 have h2:=zk_in L ht 2
 have h3:=zk_in L ht 3
 obtain ⟨n1,n2,n3,n4⟩:=zk_near L ht
 unfold near at n1 n2 n3 n4
 have:=lo4_le (zk w C t 0) (zk w C t 1) (zk w C t 2) (zk w C t 3)
 have:=hi4_ge (zk w C t 0) (zk w C t 1) (zk w C t 2) (zk w C t 3)
 unfold base top
 omega
theorem slope_in (t:Nat):0 ≤ slope w C t ∧ slope w C t ≤ 31 := by
 unfold slope
 rw [slp_eq]
 have:=bit_le (decide (zk w C t 0 > base w C t)) 1 (by decide)
 have:=bit_le (decide (zk w C t 1 > base w C t)) 2 (by decide)
 have:=bit_le (decide (zk w C t 2 > base w C t)) 4 (by decide)
 have:=bit_le (decide (zk w C t 3 > base w C t)) 8 (by decide)
 have:=bit_le (decide (zk w C t 0 > base w C t + 1) || decide (zk w C t 1 > base w C t + 1) || decide (zk w C t 2 > base w C t + 1) || decide (zk w C t 3 > base w C t + 1)) 16 (by decide)
 omega
def gS (w h : Nat) (C : List Int) : List Int := (List.range (w * h)).map (slope w C)
def gB (w h : Nat) (C : List Int) : List Int := (List.range (w * h)).map (base w C)
def gE (w h : Nat) (C : List Int) : List Bool := (List.range (w * h)).map (sea w C)
theorem g_len:(gS w h C).length = w * h ∧ (gB w h C).length = w * h ∧ (gE w h C).length = w * h := by simp [gS,gB,gE]
theorem gS_at {t:Nat} (ht:t < w * h):(gS w h C).getD t 0 = slope w C t := by simp [gS,ht]
theorem gB_at {t:Nat} (ht:t < w * h):(gB w h C).getD t 0 = base w C t := by simp [gB,ht]
theorem gE_at {t:Nat} (ht:t < w * h):(gE w h C).getD t false = sea w C t := by simp [gE,ht]
theorem idx_t (L:Land w h C) {t:Nat} (ht:t < w * h):wrap64 (wrap64 (wrap64 (Int.tdiv (t:Int) (w:Int)) * wrap64 ((w:Int) + 1)) + Int.tmod (t:Int) (w:Int)) = ((co w t:Nat):Int) := by
 obtain ⟨h1,h2,_⟩:=tile ht
 have:=L.w1
 have:=L.h1
 have e1:Int.tdiv (t:Int) (w:Int) = ((t / w:Nat):Int):=rfl
 have e2:Int.tmod (t:Int) (w:Int) = ((t % w:Nat):Int):=rfl
 rw [e1,e2]
 unfold co
 clear e1 e2
 generalize t / w = y at h1 ⊢
 generalize t % w = x at h2 ⊢
 rw [wrap_in (x:=((y:Nat):Int)) (by omega) (by omega),idxw _ _ _ (by omega) (by omega) (by omega)]
theorem idx_2 (n w:Nat) (hn:n ≤ 2000) (hw:w ≤ 40):wrap64 (wrap64 ((n:Int) + (w:Int)) + 2) = ((n + w + 2:Nat):Int) ∧ wrap64 (wrap64 ((n:Int) + (w:Int)) + 1) = ((n + w + 1:Nat):Int) := by
 rw [wrap_in (x:=(n:Int) + (w:Int)) (by omega) (by omega),wrap_in (by omega) (by omega),wrap_in (by omega) (by omega)]
 omega
theorem fold1 {a s n t:Int} {q:S71} {W H:Int} {Cc:List Int} {gw gh:Int} {g2 g3:List Int} {g4:List Bool} {p0 p1 p2 p3:Int} {r:Int × Int × List Int × List Int × List Bool × Int} (ha:0 ≤ a ∧ a ≤ 15) (i:Int) (hi:0 ≤ i ∧ i < 4)
  (k:Ev (fun k=>water_groundOf.l1 k a (stp s a (ix71 q i) i) n t q (i + 1) W H Cc gw gh g2 g3 g4 p0 p1 p2 p3) r):Ev (fun k=>water_groundOf.l1 k a s n t q i W H Cc gw gh g2 g3 g4 p0 p1 p2 p3) r:=by
 refine Ev.step (fun k=>by simp only [water_groundOf.l1];rfl) (Ev.pos hi.2 (Ev.pos hi.1 ?_))
 rw [wrap_in (x:=a + 1) (by omega) (by omega),wrap_in (x:=i + 1) (by omega) (by omega)]
 unfold stp at k
 by_cases h1:ix71 q i > a
 ·rw [if_pos h1] at k
  by_cases h2:ix71 q i > a + 1
  ·rw [if_pos h2] at k;exact Ev.pos h1 (Ev.pos h2 k)
  ·rw [if_neg h2] at k;exact Ev.pos h1 (Ev.neg h2 k)
 ·rw [if_neg h1] at k
  by_cases h2:ix71 q i > a + 1
  ·rw [if_pos h2] at k;exact Ev.neg h1 (Ev.pos h2 k)
  ·rw [if_neg h2] at k;exact Ev.neg h1 (Ev.neg h2 k)
theorem ground_scan (L:Land w h C):∀ d t,t + d = w * h → Ev (fun k => water_groundOf.l0 k ((w * h:Nat):Int) (t:Int) (w:Int) (h:Int) C (w:Int) (h:Int) ((List.range t).map (slope w C)) ((List.range t).map (base w C)) ((List.range t).map (sea w C))) ((w:Int),(h:Int),gS w h C,gB w h C,gE w h C,0)
 | 0,t,e=>by
  obtain rfl:t = w * h:=by omega
  exact Ev.step (fun k=>by simp only [water_groundOf.l0];rfl) (Ev.neg (by omega) (Ev.now _))
 | d + 1,t,e=>by
  have ih:=ground_scan L d (t + 1) (by omega)
  have ht:t < w * h:=by omega
  have hc:=co_lt L ht
  have:=L.w0
  have hb:=base_in L ht
  have hwh:w * h ≤ 32 * 32:=mulle L.w1 L.h1
  refine Ev.step (fun k=>by simp only [water_groundOf.l0];rfl) (Ev.pos (by omega) (Ev.neg (by omega) ?_))
  simp only [idx_t L ht,(idx_2 (co w t) w (by omega) (by have:=L.w1;omega)).1,(idx_2 (co w t) w (by omega) (by have:=L.w1;omega)).2,sucw (co w t) (by omega),sucw t (by omega),rdN]
  refine Ev.pos (by omega) (Ev.pos (by omega) (Ev.pos (by omega) (Ev.pos (by omega) (Ev.pos (by omega) (Ev.pos (by omega) (Ev.pos (by omega) (Ev.pos (by omega) ?_)))))))
  change Ev (fun k=>water_groundOf.l1 k (base w C t) 0 ((w * h:Nat):Int) (t:Int) (⟨zk w C t 0,zk w C t 1,zk w C t 2,zk w C t 3⟩:S71) 0 (w:Int) (h:Int) C (w:Int) (h:Int) ((List.range t).map (slope w C)) ((List.range t).map (base w C)) ((List.range t).map (sea w C)) (zk w C t 0) (zk w C t 1) (zk w C t 2) (zk w C t 3)) _
  refine fold1 hb 0 (by decide) (fold1 hb 1 (by decide) (fold1 hb 2 (by decide) (fold1 hb 3 (by decide) ?_)))
  change Ev (fun k=>water_groundOf.l1 k (base w C t) (slope w C t) ((w * h:Nat):Int) (t:Int) (⟨zk w C t 0,zk w C t 1,zk w C t 2,zk w C t 3⟩:S71) 4 (w:Int) (h:Int) C (w:Int) (h:Int) ((List.range t).map (slope w C)) ((List.range t).map (base w C)) ((List.range t).map (sea w C)) (zk w C t 0) (zk w C t 1) (zk w C t 2) (zk w C t 3)) _
  refine Ev.step (fun k=>by simp only [water_groundOf.l1];rfl) (Ev.neg (by decide) (Ev.bindc rfl (Ev.pos ?_ (Ev.bindc rfl (Ev.pos ?_ (Ev.bindc rfl (Ev.pos ?_ ?_)))))))
  ·simp;omega
  ·simp;omega
  ·simp;omega
  rw [sucw t (by omega)]
  have e1:∀ {α:Type} (f:Nat → α),(List.range (t + 1)).map f = (List.range t).map f ++ [f t]:=fun f=>by rw [List.range_succ,List.map_append];rfl
  rw [e1,e1,e1] at ih
  exact ih
end
open Classical in
theorem ground_ev {W H:Int} {C:List Int} (hl:C.length ≤ 4000):Ev (fun k => water_groundOf.f k W H C) (if lcode W H C = 0 then (W,H,gS W.toNat H.toNat C,gB W.toNat H.toNat C,gE W.toNat H.toNat C,0) else (0,0,[],[],[],lcode W H C)) := by
 unfold water_groundOf.f
 refine Ev.bind (land_ev hl) ?_
 by_cases e:lcode W H C = 0
 ·rw [if_pos e]
  refine Ev.pos e ?_
  obtain ⟨w,h,rfl,rfl,L⟩:=land_of e
  have hwh:w * h ≤ 32 * 32:=mulle L.w1 L.h1
  rw [← Int.natCast_mul,wrap_in (by omega) (by omega)]
  exact ground_scan L (w * h) 0 (by omega)
 ·rw [if_neg e]
  exact Ev.neg e (Ev.now _)
def inc (s : Int) : Prop := s = 3 ∨ s = 6 ∨ s = 9 ∨ s = 12
instance (s : Int) : Decidable (inc s) := inferInstanceAs (Decidable (_ ∨ _))
def lie (e : Bool) (s k : Int) : Int := if k = 1 then (if e then 9 else if s = 0 then 0 else 5) else if k = 2 then (if e then 9 else if inc s then 0 else 5) else if k = 3 then (if e then 0 else if s = 0 then 0 else 9) else 0
theorem incline_eq (s:Int):water_incline.f s = some (decide (inc s)) := by
 unfold water_incline.f inc
 by_cases h1:s = 3
 ·simp [h1]
 by_cases h2:s = 6
 ·simp [h2]
 by_cases h3:s = 9
 ·simp [h3]
 by_cases h4:s = 12
 ·simp [h4]
 simp [h1,h2,h3,h4]
section
variable {w h : Nat} {C : List Int}
theorem may_ev {t:Nat} (ht:t < w * h) (k0:Int):Ev (fun k => water_ground_may.f k (w:Int) (h:Int) (gS w h C) (gB w h C) (gE w h C) (t:Int) k0) (lie (sea w C t) (slope w C t) k0) := by
 obtain ⟨l1,l2,l3⟩:=g_len (w:=w) (h:=h) (C:=C)
 have b1:(0:Int) ≤ (t:Int):=by omega
 have b2:(t:Int) < ((gS w h C).length:Int):=by omega
 have b3:(t:Int) < ((gE w h C).length:Int):=by omega
 have j2:∀ b:Bool,Ev (fun k=>water_ground_may.j2 k (t:Int) k0 b (w:Int) (h:Int) (gS w h C) (gB w h C) (gE w h C)) (if b = true then 5 else if k0 = 2 then (if inc (slope w C t) then 0 else 5) else 0):=by
  intro b
  refine Ev.step (fun k=>by simp only [water_ground_may.j2];rfl) (Ev.both (fun _=>Ev.now _) fun _=>?_)
  by_cases h2:k0 = 2
  ·refine Ev.eq (Ev.pos h2 (Ev.pos b1 (Ev.pos b2 ?_))) (if_pos h2).symm
   rw [rdN,gS_at ht]
   refine Ev.bindc (incline_eq _) ?_
   by_cases hi:inc (slope w C t)
   ·exact Ev.eq (Ev.pos (by simp [hi]) (Ev.now _)) (if_pos hi).symm
   ·exact Ev.eq (Ev.neg (by simp [hi]) (Ev.now _)) (if_neg hi).symm
  ·exact Ev.eq (Ev.neg h2 (Ev.now _)) (if_neg h2).symm
 have j1:∀ b:Bool,Ev (fun k=>water_ground_may.j1 k (t:Int) k0 b (w:Int) (h:Int) (gS w h C) (gB w h C) (gE w h C)) (if b = true then 9 else if k0 = 1 then (if slope w C t = 0 then 0 else 5) else if k0 = 2 then (if inc (slope w C t) then 0 else 5) else 0):=by
  intro b
  refine Ev.step (fun k=>by simp only [water_ground_may.j1];rfl) (Ev.both (fun _=>Ev.now _) fun _=>?_)
  by_cases h1:k0 = 1
  ·refine Ev.pos h1 (Ev.pos b1 (Ev.pos b2 (Ev.eq (j2 _) ?_)))
   rw [rdN,gS_at ht]
   by_cases hs:slope w C t = 0
   ·simp [hs,h1]
   ·simp [hs,h1]
  ·exact Ev.neg h1 (Ev.eq (j2 false) (by simp [h1]))
 unfold water_ground_may.f
 by_cases h1:k0 = 1
 ·refine Ev.pos h1 (Ev.pos b1 (Ev.pos b3 ?_))
  rw [rdB,gE_at ht]
  refine Ev.step (fun k=>by simp only [water_ground_may.j0];rfl) ?_
  cases he:sea w C t with
  | true=>exact Ev.pos rfl (Ev.eq (j1 true) (by simp [lie,h1]))
  | false =>
   refine Ev.neg (by simp) (Ev.neg (by omega) (Ev.neg (by omega) (Ev.eq (j1 false) ?_)))
   simp [lie,h1]
 ·refine Ev.neg h1 (Ev.step (fun k=>by simp only [water_ground_may.j0];rfl) (Ev.neg (by simp) ?_))
  by_cases h2:k0 = 2
  ·refine Ev.pos h2 (Ev.pos b1 (Ev.pos b3 ?_))
   rw [rdB,gE_at ht]
   cases he:sea w C t with
   | true=>exact Ev.pos rfl (Ev.eq (j1 true) (by simp [lie,h2]))
   | false=>exact Ev.neg (by simp) (Ev.neg (by omega) (Ev.eq (j1 false) (by simp [lie,h2])))
  ·refine Ev.neg h2 ?_
   by_cases h3:k0 = 3
   ·refine Ev.pos h3 (Ev.pos b1 (Ev.pos b3 ?_))
    rw [rdB,gE_at ht]
    cases he:sea w C t with
    | true=>exact Ev.pos rfl (Ev.eq (j1 false) (by simp [lie,h3]))
    | false =>
     refine Ev.neg (by simp) (Ev.pos b2 (Ev.eq (j1 _) ?_))
     rw [rdN,gS_at ht]
     by_cases hs:slope w C t = 0
     ·simp [lie,h3,hs]
     ·simp [lie,h3,hs]
   ·refine Ev.neg h3 (Ev.eq (j1 false) ?_)
    simp [lie,h1,h2,h3]
end
def KAt (K : List Int) (j : Nat) : Prop := 0 ≤ K.getD j 0 ∧ K.getD j 0 ≤ 3
def KOK (K : List Int) : Prop := ∀ j, 0 ≤ j → j < K.length → KAt K j
def IncAt (B : List Int) (j : Nat) : Prop := B.getD (j - 1) 0 < B.getD j 0
def Inc (B : List Int) : Prop := ∀ j, 1 ≤ j → j < max 1 B.length → IncAt B j
def InAt (B : List Int) (n j : Nat) : Prop := 0 ≤ B.getD j 0 ∧ B.getD j 0 < (n : Int)
def InB (B : List Int) (n : Nat) : Prop := ∀ j, 0 ≤ j → j < B.length → InAt B n j
def MayAt (w : Nat) (C K : List Int) (j : Nat) : Prop := lie (sea w C j) (slope w C j) (K.getD j 0) = 0
def May (w : Nat) (C K : List Int) : Prop := ∀ j, 0 ≤ j → j < K.length → MayAt w C K j
def wet (w : Nat) (C K : List Int) (t : Nat) : Bool := sea w C t || (K.getD t 0 != 0)
def WetAt (w : Nat) (C K B : List Int) (j : Nat) : Prop := wet w C K (B.getD j 0).toNat = true
def WetB (w : Nat) (C K B : List Int) : Prop := ∀ j, 0 ≤ j → j < B.length → WetAt w C K B j
structure Waters (w h : Nat) (C K B : List Int) : Prop where
 land:Land w h C
 len:K.length = w * h
 kinds:KOK K
 inc:Inc B
 inB:InB B (w * h)
 may:May w C K
 wetB:WetB w C K B
open Classical in
noncomputable def ucode (w h : Nat) (C K B : List Int) : Int := if K.length = w * h then (if KOK K then (if Inc B then (if InB B (w * h) then (if May w C K then (if WetB w C K B then 0 else 9) else 9) else 2) else 1) else 1) else 1
open Classical in
noncomputable def wcode (W H : Int) (C K B : List Int) : Int := if lcode W H C = 0 then ucode W.toNat H.toNat C K B else lcode W H C
theorem ucode_zero {w h:Nat} {C K B:List Int} (L:Land w h C):ucode w h C K B = 0 ↔ Waters w h C K B := by
 unfold ucode
 by_cases h1:K.length = w * h
 ·by_cases h2:KOK K
  ·by_cases h3:Inc B
   ·by_cases h4:InB B (w * h)
    ·by_cases h5:May w C K
     ·by_cases h6:WetB w C K B
      ·simp only [h1,h2,h3,h4,h5,h6,if_true,true_iff];exact ⟨L,h1,h2,h3,h4,h5,h6⟩
      ·simp only [h1,h2,h3,h4,h5,h6,if_true,if_false];exact ⟨fun h=>absurd h (by decide),fun U=>absurd U.wetB h6⟩
     ·simp only [h1,h2,h3,h4,h5,if_true,if_false];exact ⟨fun h=>absurd h (by decide),fun U=>absurd U.may h5⟩
    ·simp only [h1,h2,h3,h4,if_true,if_false];exact ⟨fun h=>absurd h (by decide),fun U=>absurd U.inB h4⟩
   ·simp only [h1,h2,h3,if_true,if_false];exact ⟨fun h=>absurd h (by decide),fun U=>absurd U.inc h3⟩
  ·simp only [h1,h2,if_true,if_false];exact ⟨fun h=>absurd h (by decide),fun U=>absurd U.kinds h2⟩
 ·simp only [h1,if_false];exact ⟨fun h=>absurd h (by decide),fun U=>absurd U.len h1⟩
theorem waters_of {W H:Int} {C K B:List Int} (e:wcode W H C K B = 0):∃ w h:Nat,W = (w:Int) ∧ H = (h:Int) ∧ Waters w h C K B := by
 unfold wcode at e
 by_cases hl:lcode W H C = 0
 ·rw [if_pos hl] at e
  obtain ⟨w,h,rfl,rfl,L⟩:=land_of hl
  exact ⟨w,h,rfl,rfl,(ucode_zero L).1 (by simpa using e)⟩
 ·rw [if_neg hl] at e;exact absurd e hl
theorem of_waters {w h:Nat} {C K B:List Int} (U:Waters w h C K B):wcode (w:Int) (h:Int) C K B = 0 := by
 unfold wcode
 rw [if_pos (of_land U.land)]
 exact (ucode_zero U.land).2 U
theorem wet_lt {w h:Nat} {C K B:List Int} {t:Nat} (hK:K.length = w * h) (ht:t < w * h):water_ground_wet.f (w:Int) (h:Int) (gS w h C) (gB w h C) (gE w h C) K B (t:Int) = some (wet w C K t) := by
 obtain ⟨l1,l2,l3⟩:=g_len (w:=w) (h:=h) (C:=C)
 unfold water_ground_wet.f wet
 rw [if_pos (by omega),if_pos (by omega),rdB,gE_at ht,rdN]
 cases he:sea w C t with
 | true=>simp
 | false=>rw [if_neg (by simp),if_pos (by omega)];simp
noncomputable def gr (w h : Nat) (C : List Int) (c : Int) : Int × Int × List Int × List Int × List Bool × Int := ((w : Int), (h : Int), gS w h C, gB w h C, gE w h C, c)
section
variable {w h : Nat} {C K B : List Int}
theorem check4 (L:Land w h C) (hK:K.length = w * h) (hB:B.length ≤ 4000) (hin:InB B (w * h)):Ev (fun k => water_check.l4 k B (B.length:Int) 0 K B (w:Int) (h:Int) (gS w h C) (gB w h C) (gE w h C)) (gr w h C (open Classical in if WetB w C K B then 0 else 9)) := by
 have hend:Ev (fun k=>water_check.l4 k B (B.length:Int) (B.length:Int) K B (w:Int) (h:Int) (gS w h C) (gB w h C) (gE w h C)) (gr w h C 0):=Ev.step (fun k=>by simp only [water_check.l4];rfl) (Ev.neg (by omega) (Ev.now _))
 have val:∀ i,i < B.length → water_ground_wet.f (w:Int) (h:Int) (gS w h C) (gB w h C) (gE w h C) K B (B.getD i 0) = some (wet w C K (B.getD i 0).toNat):=by
  intro i hi
  obtain ⟨h1,h2⟩:=hin i (Nat.zero_le _) hi
  have:=wet_lt (B:=B) (C:=C) hK (t:=(B.getD i 0).toNat) (by omega)
  rw [Int.toNat_of_nonneg h1] at this
  exact this
 have good:∀ i,i < B.length → WetAt w C K B i → ∀ r,Ev (fun k=>water_check.l4 k B (B.length:Int) ((i:Int) + 1) K B (w:Int) (h:Int) (gS w h C) (gB w h C) (gE w h C)) r → Ev (fun k=>water_check.l4 k B (B.length:Int) (i:Int) K B (w:Int) (h:Int) (gS w h C) (gB w h C) (gE w h C)) r:=by
  intro i hi p r hr
  refine Ev.step (fun k=>by simp only [water_check.l4];rfl) ?_
  rw [rdN,wrap_in (x:=(i:Int) + 1) (by omega) (by omega)]
  exact Ev.pos (by omega) (Ev.pos (by omega) (Ev.pos (by omega) (Ev.bindc (val i hi) (Ev.pos p hr))))
 have bad:∀ i,i < B.length → ¬ WetAt w C K B i → Ev (fun k=>water_check.l4 k B (B.length:Int) (i:Int) K B (w:Int) (h:Int) (gS w h C) (gB w h C) (gE w h C)) (gr w h C 9):=by
  intro i hi p
  refine Ev.step (fun k=>by simp only [water_check.l4];rfl) ?_
  rw [rdN]
  exact Ev.pos (by omega) (Ev.pos (by omega) (Ev.pos (by omega) (Ev.bindc (val i hi) (Ev.neg p (Ev.now _)))))
 by_cases g:WetB w C K B
 ·rw [if_pos g]
  exact Ev.scan_all (g:=fun k i=>water_check.l4 k B (B.length:Int) i K B (w:Int) (h:Int) (gS w h C) (gB w h C) (gE w h C)) hend good B.length 0 (by omega) g
 ·rw [if_neg g]
  exact Ev.scan_some (g:=fun k i=>water_check.l4 k B (B.length:Int) i K B (w:Int) (h:Int) (gS w h C) (gB w h C) (gE w h C)) good bad B.length 0 (by omega) (not_all g)
open Classical in
theorem check3 (L:Land w h C) (hK:K.length = w * h) (hB:B.length ≤ 4000) (hin:InB B (w * h)):Ev (fun k => water_check.l3 k K (K.length:Int) 0 K B (w:Int) (h:Int) (gS w h C) (gB w h C) (gE w h C)) (gr w h C (if May w C K then (if WetB w C K B then 0 else 9) else 9)) := by
 have hwh:w * h ≤ 32 * 32:=mulle L.w1 L.h1
 have hend:∀ r,Ev (fun k=>water_check.l4 k B (B.length:Int) 0 K B (w:Int) (h:Int) (gS w h C) (gB w h C) (gE w h C)) r → Ev (fun k=>water_check.l3 k K (K.length:Int) (K.length:Int) K B (w:Int) (h:Int) (gS w h C) (gB w h C) (gE w h C)) r:=fun r hr=>Ev.step (fun k=>by simp only [water_check.l3];rfl) (Ev.neg (by omega) hr)
 have good:∀ i,i < K.length → MayAt w C K i → ∀ r,Ev (fun k=>water_check.l3 k K (K.length:Int) ((i:Int) + 1) K B (w:Int) (h:Int) (gS w h C) (gB w h C) (gE w h C)) r → Ev (fun k=>water_check.l3 k K (K.length:Int) (i:Int) K B (w:Int) (h:Int) (gS w h C) (gB w h C) (gE w h C)) r:=by
  intro i hi p r hr
  refine Ev.step (fun k=>by simp only [water_check.l3];rfl) ?_
  rw [rdN,wrap_in (x:=(i:Int) + 1) (by omega) (by omega)]
  exact Ev.pos (by omega) (Ev.pos (by omega) (Ev.pos (by omega) (Ev.bind (may_ev (by omega) _) (Ev.pos p hr))))
 have bad:∀ i,i < K.length → ¬ MayAt w C K i → Ev (fun k=>water_check.l3 k K (K.length:Int) (i:Int) K B (w:Int) (h:Int) (gS w h C) (gB w h C) (gE w h C)) (gr w h C 9):=by
  intro i hi p
  refine Ev.step (fun k=>by simp only [water_check.l3];rfl) ?_
  rw [rdN]
  exact Ev.pos (by omega) (Ev.pos (by omega) (Ev.pos (by omega) (Ev.bind (may_ev (by omega) _) (Ev.neg p (Ev.now _)))))
 by_cases g:May w C K
 ·rw [if_pos g]
  exact Ev.scan_all (g:=fun k i=>water_check.l3 k K (K.length:Int) i K B (w:Int) (h:Int) (gS w h C) (gB w h C) (gE w h C)) (hend _ (check4 L hK hB hin)) good K.length 0 (by omega) g
 ·rw [if_neg g]
  exact Ev.scan_some (g:=fun k i=>water_check.l3 k K (K.length:Int) i K B (w:Int) (h:Int) (gS w h C) (gB w h C) (gE w h C)) good bad K.length 0 (by omega) (not_all g)
open Classical in
theorem check2 (L:Land w h C) (hK:K.length = w * h) (hB:B.length ≤ 4000):Ev (fun k => water_check.l2 k B (B.length:Int) 0 (w:Int) (h:Int) C K B (w:Int) (h:Int) (gS w h C) (gB w h C) (gE w h C)) (gr w h C (if InB B (w * h) then (if May w C K then (if WetB w C K B then 0 else 9) else 9) else 2)) := by
 have hwh:w * h ≤ 32 * 32:=mulle L.w1 L.h1
 have e:wrap64 ((w:Int) * (h:Int)) = ((w * h:Nat):Int):=by rw [← Int.natCast_mul,wrap_in (by omega) (by omega)]
 have hend:∀ r,Ev (fun k=>water_check.l3 k K (K.length:Int) 0 K B (w:Int) (h:Int) (gS w h C) (gB w h C) (gE w h C)) r → Ev (fun k=>water_check.l2 k B (B.length:Int) (B.length:Int) (w:Int) (h:Int) C K B (w:Int) (h:Int) (gS w h C) (gB w h C) (gE w h C)) r:=fun r hr=>Ev.step (fun k=>by simp only [water_check.l2];rfl) (Ev.neg (by omega) hr)
 have good:∀ i,i < B.length → InAt B (w * h) i → ∀ r,Ev (fun k=>water_check.l2 k B (B.length:Int) ((i:Int) + 1) (w:Int) (h:Int) C K B (w:Int) (h:Int) (gS w h C) (gB w h C) (gE w h C)) r → Ev (fun k=>water_check.l2 k B (B.length:Int) (i:Int) (w:Int) (h:Int) C K B (w:Int) (h:Int) (gS w h C) (gB w h C) (gE w h C)) r:=by
  intro i hi p r hr
  unfold InAt at p
  refine Ev.step (fun k=>by simp only [water_check.l2];rfl) ?_
  rw [rdN,e,wrap_in (x:=(i:Int) + 1) (by omega) (by omega)]
  exact Ev.pos (by omega) (Ev.pos (by omega) (Ev.pos (by omega) (Ev.neg (by omega) (Ev.neg (by omega) hr))))
 have bad:∀ i,i < B.length → ¬ InAt B (w * h) i → Ev (fun k=>water_check.l2 k B (B.length:Int) (i:Int) (w:Int) (h:Int) C K B (w:Int) (h:Int) (gS w h C) (gB w h C) (gE w h C)) (gr w h C 2):=by
  intro i hi p
  unfold InAt at p
  refine Ev.step (fun k=>by simp only [water_check.l2];rfl) ?_
  rw [rdN,e]
  refine Ev.pos (by omega) (Ev.pos (by omega) (Ev.pos (by omega) ?_))
  by_cases q:B.getD i 0 < 0
  ·exact Ev.pos q (Ev.now _)
  ·exact Ev.neg q (Ev.pos (by omega) (Ev.now _))
 by_cases g:InB B (w * h)
 ·rw [if_pos g]
  exact Ev.scan_all (g:=fun k i=>water_check.l2 k B (B.length:Int) i (w:Int) (h:Int) C K B (w:Int) (h:Int) (gS w h C) (gB w h C) (gE w h C)) (hend _ (check3 L hK hB g)) good B.length 0 (by omega) g
 ·rw [if_neg g]
  exact Ev.scan_some (g:=fun k i=>water_check.l2 k B (B.length:Int) i (w:Int) (h:Int) C K B (w:Int) (h:Int) (gS w h C) (gB w h C) (gE w h C)) good bad B.length 0 (by omega) (not_all g)
theorem not_all1 {p:Nat → Prop} {n:Nat} (h:¬ ∀ j,1 ≤ j → j < n → p j):∃ j,1 ≤ j ∧ j < n ∧ ¬ p j := by
 apply Classical.byContradiction
 intro hc
 exact h fun j h1 h2=>Classical.byContradiction fun h3=>hc ⟨j,h1,h2,h3⟩
open Classical in
theorem check1 (L:Land w h C) (hK:K.length = w * h) (hB:B.length ≤ 4000):Ev (fun k => water_check.l1 k 1 (w:Int) (h:Int) C K B (w:Int) (h:Int) (gS w h C) (gB w h C) (gE w h C)) (gr w h C (if Inc B then (if InB B (w * h) then (if May w C K then (if WetB w C K B then 0 else 9) else 9) else 2) else 1)) := by
 have hend:∀ r,Ev (fun k=>water_check.l2 k B (B.length:Int) 0 (w:Int) (h:Int) C K B (w:Int) (h:Int) (gS w h C) (gB w h C) (gE w h C)) r → Ev (fun k=>water_check.l1 k ((max 1 B.length:Nat):Int) (w:Int) (h:Int) C K B (w:Int) (h:Int) (gS w h C) (gB w h C) (gE w h C)) r:=fun r hr=>Ev.step (fun k=>by simp only [water_check.l1];rfl) (Ev.neg (by omega) hr)
 have pre:∀ i:Nat,1 ≤ i → i ≤ 4000 → wrap64 ((i:Int) - 1) = ((i - 1:Nat):Int):=by intro i h1 h2;rw [wrap_in (by omega) (by omega)];omega
 have good:∀ i,i < max 1 B.length → (1 ≤ i → IncAt B i) ∧ 1 ≤ i → ∀ r,Ev (fun k=>water_check.l1 k ((i:Int) + 1) (w:Int) (h:Int) C K B (w:Int) (h:Int) (gS w h C) (gB w h C) (gE w h C)) r → Ev (fun k=>water_check.l1 k (i:Int) (w:Int) (h:Int) C K B (w:Int) (h:Int) (gS w h C) (gB w h C) (gE w h C)) r:=by
  intro i hi ⟨p0,p1⟩ r hr
  have p:=p0 p1
  unfold IncAt at p
  refine Ev.step (fun k=>by simp only [water_check.l1];rfl) ?_
  rw [pre i p1 (by omega),rdN,rdN,wrap_in (x:=(i:Int) + 1) (by omega) (by omega)]
  exact Ev.pos (by omega) (Ev.pos (by omega) (Ev.pos (by omega) (Ev.pos (by omega) (Ev.neg (by omega) hr))))
 have bad:∀ i,i < max 1 B.length → ¬ ((1 ≤ i → IncAt B i) ∧ 1 ≤ i) → 1 ≤ i → Ev (fun k=>water_check.l1 k (i:Int) (w:Int) (h:Int) C K B (w:Int) (h:Int) (gS w h C) (gB w h C) (gE w h C)) (gr w h C 1):=by
  intro i hi p p1
  have p:¬ IncAt B i:=fun hc=>p ⟨fun _=>hc,p1⟩
  unfold IncAt at p
  refine Ev.step (fun k=>by simp only [water_check.l1];rfl) ?_
  rw [pre i p1 (by omega),rdN,rdN]
  exact Ev.pos (by omega) (Ev.pos (by omega) (Ev.pos (by omega) (Ev.pos (by omega) (Ev.pos (by omega) (Ev.now _)))))
 have go:∀ d i,1 ≤ i → i + d = max 1 B.length → Ev (fun k=>water_check.l1 k (i:Int) (w:Int) (h:Int) C K B (w:Int) (h:Int) (gS w h C) (gB w h C) (gE w h C)) (gr w h C (if (∀ j,i ≤ j → j < max 1 B.length → IncAt B j) then (if InB B (w * h) then (if May w C K then (if WetB w C K B then 0 else 9) else 9) else 2) else 1)):=by
  intro d
  induction d with
  | zero =>
   intro i h1 e
   rw [if_pos (fun j a b=>by omega)]
   rw [show i = max 1 B.length by omega]
   exact hend _ (check2 L hK hB)
  | succ d ih =>
   intro i h1 e
   by_cases hp:IncAt B i
   ·refine good i (by omega) ⟨fun _=>hp,h1⟩ _ (Ev.eq (by simpa using ih (i + 1) (by omega) (by omega)) ?_)
    have:(∀ j,i + 1 ≤ j → j < max 1 B.length → IncAt B j) ↔ (∀ j,i ≤ j → j < max 1 B.length → IncAt B j):=by
     constructor
     ·intro f j a b
      by_cases he:j = i
      ·rw [he];exact hp
      ·exact f j (by omega) b
     ·intro f j a b;exact f j (by omega) b
    simp only [this]
   ·rw [if_neg (fun f=>hp (f i (Nat.le_refl _) (by omega)))]
    exact bad i (by omega) (fun hc=>hp (hc.1 h1)) h1
 have:=go (max 1 B.length - 1) 1 (Nat.le_refl _) (by omega)
 exact this
open Classical in
theorem check0 (L:Land w h C) (hK:K.length = w * h) (hB:B.length ≤ 4000):Ev (fun k => water_check.l0 k K (K.length:Int) 0 (w:Int) (h:Int) C K B (w:Int) (h:Int) (gS w h C) (gB w h C) (gE w h C)) (gr w h C (ucode w h C K B)) := by
 have hwh:w * h ≤ 32 * 32:=mulle L.w1 L.h1
 unfold ucode
 rw [if_pos hK]
 have hend:∀ r,Ev (fun k=>water_check.l1 k 1 (w:Int) (h:Int) C K B (w:Int) (h:Int) (gS w h C) (gB w h C) (gE w h C)) r → Ev (fun k=>water_check.l0 k K (K.length:Int) (K.length:Int) (w:Int) (h:Int) C K B (w:Int) (h:Int) (gS w h C) (gB w h C) (gE w h C)) r:=fun r hr=>Ev.step (fun k=>by simp only [water_check.l0];rfl) (Ev.neg (by omega) hr)
 have good:∀ i,i < K.length → KAt K i → ∀ r,Ev (fun k=>water_check.l0 k K (K.length:Int) ((i:Int) + 1) (w:Int) (h:Int) C K B (w:Int) (h:Int) (gS w h C) (gB w h C) (gE w h C)) r → Ev (fun k=>water_check.l0 k K (K.length:Int) (i:Int) (w:Int) (h:Int) C K B (w:Int) (h:Int) (gS w h C) (gB w h C) (gE w h C)) r:=by
  intro i hi p r hr
  unfold KAt at p
  refine Ev.step (fun k=>by simp only [water_check.l0];rfl) ?_
  rw [rdN,wrap_in (x:=(i:Int) + 1) (by omega) (by omega)]
  exact Ev.pos (by omega) (Ev.pos (by omega) (Ev.pos (by omega) (Ev.neg (by omega) (Ev.neg (by omega) hr))))
 have bad:∀ i,i < K.length → ¬ KAt K i → Ev (fun k=>water_check.l0 k K (K.length:Int) (i:Int) (w:Int) (h:Int) C K B (w:Int) (h:Int) (gS w h C) (gB w h C) (gE w h C)) (gr w h C 1):=by
  intro i hi p
  unfold KAt at p
  refine Ev.step (fun k=>by simp only [water_check.l0];rfl) ?_
  rw [rdN]
  refine Ev.pos (by omega) (Ev.pos (by omega) (Ev.pos (by omega) ?_))
  by_cases q:K.getD i 0 < 0
  ·exact Ev.pos q (Ev.now _)
  ·exact Ev.neg q (Ev.pos (by omega) (Ev.now _))
 by_cases g:KOK K
 ·rw [if_pos g]
  exact Ev.scan_all (g:=fun k i=>water_check.l0 k K (K.length:Int) i (w:Int) (h:Int) C K B (w:Int) (h:Int) (gS w h C) (gB w h C) (gE w h C)) (hend _ (check1 L hK hB)) good K.length 0 (by omega) g
 ·rw [if_neg g]
  exact Ev.scan_some (g:=fun k i=>water_check.l0 k K (K.length:Int) i (w:Int) (h:Int) C K B (w:Int) (h:Int) (gS w h C) (gB w h C) (gE w h C)) good bad K.length 0 (by omega) (not_all g)
end
open Classical in
theorem check_ev {W H:Int} {C K B:List Int} (hC:C.length ≤ 4000) (hB:B.length ≤ 4000):Ev (fun k => water_check.f k W H C K B) (if lcode W H C = 0 then gr W.toNat H.toNat C (wcode W H C K B) else (0,0,[],[],[],wcode W H C K B)) := by
 unfold water_check.f
 refine Ev.bind (ground_ev hC) ?_
 by_cases e:lcode W H C = 0
 ·simp only [if_pos e]
  obtain ⟨w,h,rfl,rfl,L⟩:=land_of e
  have hwh:w * h ≤ 32 * 32:=mulle L.w1 L.h1
  simp only [Int.toNat_natCast]
  have ew:wcode (w:Int) (h:Int) C K B = ucode w h C K B:=by unfold wcode;rw [if_pos e];simp
  rw [ew]
  refine Ev.pos (by first | rfl | trivial) ?_
  have ee:wrap64 ((w:Int) * (h:Int)) = ((w * h:Nat):Int):=by rw [← Int.natCast_mul,wrap_in (by omega) (by omega)]
  rw [ee]
  by_cases hK:K.length = w * h
  ·exact Ev.pos (by omega) (check0 L hK hB)
  ·refine Ev.neg (by omega) (Ev.eq (Ev.now _) ?_)
   unfold ucode
   rw [if_neg hK]
   rfl
 ·simp only [if_neg e]
  have ew:wcode W H C K B = lcode W H C:=by unfold wcode;rw [if_neg e]
  rw [ew]
  exact Ev.now _
section
variable {w h : Nat} {C K B : List Int}
theorem is_eq (L:Land w h C) (b:Int):hinterlandref02_Is.f (w:Int) (h:Int) C b = some (decide (0 ≤ b ∧ b < ((w * h:Nat):Int))) := by
 have hwh:w * h ≤ 32 * 32:=mulle L.w1 L.h1
 unfold hinterlandref02_Is.f
 rw [← Int.natCast_mul,wrap_in (by omega) (by omega)]
 by_cases hb:b ≥ 0
 ·rw [if_pos hb];congr 1;apply decide_eq_decide.2;omega
 ·rw [if_neg hb,decide_eq_false (by omega)]
end
theorem known_ev:Ev (fun k => hinterlandlaw06_known.f k) true := by
 refine Ev.of (fun k=>hinterlandlaw06_known.mono k) (k:=600) ?_
 decide +kernel
theorem known_then:Ev (fun k => (hinterlandlaw06_known.f k).bind fun t => some t) true := Ev.bind known_ev (Ev.now _)
section
variable {w h : Nat} {C K B : List Int}
end
open Classical in
noncomputable def acode (W H : Int) (C K B : List Int) (t : Int) : Int := if wcode W H C K B = 0 then (if 0 ≤ t ∧ t < W * H then 0 else 2) else wcode W H C K B
theorem acode_zero {W H:Int} {C K B:List Int} {t:Int} (e:acode W H C K B t = 0):∃ w h n:Nat,W = (w:Int) ∧ H = (h:Int) ∧ t = (n:Int) ∧ n < w * h ∧ Waters w h C K B := by
 unfold acode at e
 by_cases hw:wcode W H C K B = 0
 ·rw [if_pos hw] at e
  by_cases ht:0 ≤ t ∧ t < W * H
  ·obtain ⟨w,h,rfl,rfl,U⟩:=waters_of hw
   obtain ⟨n,rfl⟩:=Int.eq_ofNat_of_zero_le ht.1
   exact ⟨w,h,n,rfl,rfl,rfl,by have:=ht.2;rw [← Int.natCast_mul] at this;omega,U⟩
  ·rw [if_neg ht] at e;exact absurd e (by decide)
 ·rw [if_neg hw] at e;exact absurd e hw
theorem of_acode {w h n:Nat} {C K B:List Int} (U:Waters w h C K B) (hn:n < w * h):acode (w:Int) (h:Int) C K B (n:Int) = 0 := by
 unfold acode
 rw [if_pos (of_waters U),if_pos (by rw [← Int.natCast_mul];omega)]
open Classical in
theorem at_ev {W H:Int} {C K B:List Int} {t:Int} (hC:C.length ≤ 4000) (hB:B.length ≤ 4000):Ev (fun k => water_at.f k W H C K B t) (if lcode W H C = 0 then gr W.toNat H.toNat C (acode W H C K B t) else (0,0,[],[],[],acode W H C K B t)) := by
 unfold water_at.f
 refine Ev.bind (check_ev hC hB) ?_
 have j:∀ (e:Int) (q:Bool) a b c d f,Ev (fun k=>water_at.j0 k e q a b c d f) (a,b,c,d,f,if q = true then 2 else e):=by
  intro e q a b c d f
  refine Ev.step (fun k=>by simp only [water_at.j0];rfl) ?_
  by_cases hq:q = true
  ·simp only [if_pos hq];exact Ev.now _
  ·simp only [if_neg hq];exact Ev.now _
 by_cases e:lcode W H C = 0
 ·simp only [if_pos e]
  by_cases hw:wcode W H C K B = 0
  ·have hw':=hw
   obtain ⟨w,h,rfl,rfl,U⟩:=waters_of hw
   have hwh:w * h ≤ 32 * 32:=mulle U.land.w1 U.land.h1
   refine Ev.pos hw' ?_
   have ee:wrap64 ((w:Int) * (h:Int)) = ((w * h:Nat):Int):=by rw [← Int.natCast_mul,wrap_in (by omega) (by omega)]
   have ac:acode (w:Int) (h:Int) C K B t = if 0 ≤ t ∧ t < ((w * h:Nat):Int) then 0 else 2:=by unfold acode;rw [if_pos hw',← Int.natCast_mul]
   rw [ac,ee]
   by_cases t0:t < 0
   ·refine Ev.pos t0 (Ev.eq (j _ _ _ _ _ _ _) ?_)
    rw [if_pos rfl,if_neg (by omega)];rfl
   ·refine Ev.neg t0 (Ev.eq (j _ _ _ _ _ _ _) ?_)
    by_cases t1:t ≥ ((w * h:Nat):Int)
    ·rw [if_pos (decide_eq_true t1),if_neg (by omega)];rfl
    ·rw [if_neg (by simp only [decide_eq_true_eq];omega),if_pos (by omega)]
     unfold gr
     rw [hw']
  ·have ac:acode W H C K B t = wcode W H C K B:=by unfold acode;rw [if_neg hw]
   rw [ac]
   exact Ev.neg hw (Ev.eq (j _ _ _ _ _ _ _) rfl)
 ·simp only [if_neg e]
  have hw:wcode W H C K B ≠ 0:=by unfold wcode;rw [if_neg e];exact e
  have ac:acode W H C K B t = wcode W H C K B:=by unfold acode;rw [if_neg hw]
  rw [ac]
  exact Ev.neg hw (Ev.eq (j _ _ _ _ _ _ _) rfl)
theorem set_at (l:List Int) (i j:Nat) (v:Int):(l.set i v).getD j 0 = if i = j ∧ j < l.length then v else l.getD j 0 := by
 by_cases hj:j < l.length
 ·by_cases hij:i = j
  ·subst hij;simp [hj]
  ·rw [if_neg (fun h=>hij h.1)]
   simp [List.getElem?_set,hij]
 ·rw [if_neg (fun h=>hj h.2)]
  simp [List.getElem?_set,hj]
  try (intro h1 h2;omega)
theorem at_mem {l:List Int} {j:Nat} (h:j < l.length):l.getD j 0 ∈ l := by
 rw [List.getD_eq_getElem?_getD,List.getElem?_eq_getElem h]
 exact List.getElem_mem h
theorem mem_at {l:List Int} {x:Int} (h:x ∈ l):∃ j,j < l.length ∧ l.getD j 0 = x := by
 obtain ⟨j,hj,e⟩:=List.mem_iff_getElem.1 h
 exact ⟨j,hj,by rw [List.getD_eq_getElem?_getD,List.getElem?_eq_getElem hj];exact e⟩
theorem drop_at {B:List Int} {i:Nat} (h:i < B.length):B.drop i = B.getD i 0 :: B.drop (i + 1) := by
 rw [List.drop_eq_getElem_cons h,List.getD_eq_getElem?_getD,List.getElem?_eq_getElem h]
 rfl
abbrev has (B : List Int) (n : Int) : Prop := n ∈ B
theorem rep_at (n j:Nat) (v:Int) (h:j < n):(List.replicate n v).getD j 0 = v := by simp [h]
theorem list_ext {L R:List Int} (hl:L.length = R.length) (h:∀ j,j < L.length → L.getD j 0 = R.getD j 0):L = R := by
 apply List.ext_getElem hl
 intro j h1 h2
 have:=h j h1
 rw [List.getD_eq_getElem?_getD,List.getD_eq_getElem?_getD,List.getElem?_eq_getElem h1,List.getElem?_eq_getElem h2] at this
 simpa using this
section
variable (w h : Nat) (C K : List Int)
end
section
variable {w h : Nat} {C K B : List Int} {to_ : Nat}
end
section
variable {w h : Nat} {C K B : List Int}
end
theorem same_ev (l:List Int) (hl:l.length ≤ 8000):Ev (fun k => hinterlandsame_List_int.f k l l) true := by
 unfold hinterlandsame_List_int.f
 refine Ev.pos rfl ?_
 refine Ev.scan_all (g:=fun k i=>hinterlandsame_List_int.l0 k l l i) (p:=fun _=>True) (n:=l.length) (Ev.step (fun k=>by simp only [hinterlandsame_List_int.l0];rfl) (Ev.neg (by omega) (Ev.now _))) ?_ l.length 0 (by omega) (fun _ _ _=>trivial)
 intro i hi _ r hr
 refine Ev.step (fun k=>by simp only [hinterlandsame_List_int.l0];rfl) ?_
 rw [wrap_in (x:=(i:Int) + 1) (by omega) (by omega)]
 exact Ev.pos (by omega) (Ev.pos (by omega) (Ev.pos (by omega) (Ev.pos (by first | trivial | rfl) hr)))
theorem same_waters_ev (K B:List Int) (hK:K.length ≤ 8000) (hB:B.length ≤ 8000):Ev (fun k => hinterlandsame_Waters.f k K B K B) true := by
 unfold hinterlandsame_Waters.f
 exact Ev.bind (same_ev K hK) (Ev.pos rfl (Ev.bind (same_ev B hB) (Ev.now _)))
section
variable {w h : Nat} {C K B : List Int}
end
theorem clone_eq (K B:List Int) (hK:K.length ≤ 8000) (hB:B.length ≤ 8000):water_clone.f K B = some (K,B) := by
 unfold water_clone.f
 rw [if_pos (by simp;omega),if_pos (by simp;omega)]
 rfl
theorem side_eq (n:Int):hinterlandref02_side.f n = some (decide (4 ≤ n ∧ n ≤ 32)) := by
 unfold hinterlandref02_side.f
 by_cases h:n ≥ 4
 ·rw [if_pos h];congr 1;apply decide_eq_decide.2;omega
 ·rw [if_neg h,decide_eq_false (by omega)]
theorem rapart_eq {a b:Int} (ha:0 ≤ a ∧ a ≤ 15) (hb:0 ≤ b ∧ b ≤ 15):∃ t,hinterlandref02_Apart.f a b = some t ∧ (t > 1 ↔ ¬ near a b) := by
 unfold hinterlandref02_Apart.f near
 rw [wrap_in (x:=a - b) (by omega) (by omega),wrap_in (x:=b - a) (by omega) (by omega)]
 by_cases h:a < b
 ·rw [if_pos h];exact ⟨_,rfl,by omega⟩
 ·rw [if_neg h];exact ⟨_,rfl,by omega⟩
def QAt (C : List Int) (w i : Nat) : Prop := (0 < i % (w + 1) → near (z C i) (z C (i - 1))) ∧ (w < i → near (z C i) (z C (i - (w + 1))))
theorem flat_q {w h:Nat} {C:List Int} (hl:C.length = (w + 1) * (h + 1)):Flat C w h ↔ ∀ i,0 ≤ i → i < C.length → QAt C w i := by
 have sm:∀ y:Nat,(y + 1) * (w + 1) = y * (w + 1) + (w + 1):=fun y=>Nat.succ_mul _ _
 have hl':C.length = h * (w + 1) + (w + 1):=by rw [hl,Nat.mul_comm,sm]
 constructor
 ·intro f i _ hi
  have hd:=Nat.div_add_mod i (w + 1)
  have hm:=Nat.mod_lt i (Nat.succ_pos w)
  obtain ⟨y,hy⟩:∃ y,y = i / (w + 1):=⟨_,rfl⟩
  obtain ⟨x,hx⟩:∃ x,x = i % (w + 1):=⟨_,rfl⟩
  rw [← hy,← hx,Nat.mul_comm] at hd
  rw [← hx] at hm
  have hyh:y ≤ h:=by
   apply Classical.byContradiction
   intro hn
   have:=Nat.mul_le_mul_right (w + 1) (show h + 1 ≤ y by omega)
   rw [sm] at this
   omega
  refine ⟨fun h0=>?_,fun h0=>?_⟩
  ·rw [← hx] at h0
   have:=(f y hyh (x - 1) (by omega)).1 (by omega)
   rw [show y * (w + 1) + (x - 1) + 1 = i by omega,show y * (w + 1) + (x - 1) = i - 1 by omega] at this
   exact near_symm this
  ·cases y with
   | zero=>omega
   | succ y =>
    have:=(f y (by omega) x (by omega)).2 (by omega)
    rw [hd,show y * (w + 1) + x = i - (w + 1) by rw [sm] at hd;omega] at this
    exact near_symm this
 ·intro q y hy x hx
  have hle:=Nat.mul_le_mul_right (w + 1) hy
  refine ⟨fun h0=>?_,fun h0=>?_⟩
  ·have:=(q (y * (w + 1) + x + 1) (Nat.zero_le _) (by omega)).1 (by
    rw [Nat.add_assoc,Nat.mul_comm,Nat.mul_add_mod,Nat.mod_eq_of_lt (by omega)];omega)
   rw [Nat.add_sub_cancel] at this
   exact near_symm this
  ·have h1:=Nat.mul_le_mul_right (w + 1) (show y + 1 ≤ h by omega)
   rw [sm] at h1
   have:=(q ((y + 1) * (w + 1) + x) (Nat.zero_le _) (by rw [sm];omega)).2 (by rw [sm];omega)
   rw [show (y + 1) * (w + 1) + x - (w + 1) = y * (w + 1) + x by rw [sm];omega] at this
   exact near_symm this
theorem ref_land_ev {W H:Int} {C:List Int} (hl:C.length ≤ 4000):Ev (fun k => hinterlandref02_Validate.f k W H C) (lcode W H C) := by
 unfold hinterlandref02_Validate.f
 have bad:¬ LShape W H C → ∀ q,q = true → Ev (fun k=>hinterlandref02_Validate.j0 k q W H C) (lcode W H C):=by
  intro h q hq
  refine Ev.eq (Ev.step (fun k=>by simp only [hinterlandref02_Validate.j0];rfl) (Ev.pos hq (Ev.now _))) (if_neg h).symm
 refine Ev.bindc (side_eq W) ?_
 by_cases hW:4 ≤ W ∧ W ≤ 32
 rotate_left
 ·exact Ev.neg (by simp [hW]) (bad (fun h=>hW h.1) _ rfl)
 refine Ev.pos (by simp [hW]) (Ev.bindc (side_eq H) ?_)
 by_cases hH:4 ≤ H ∧ H ≤ 32
 rotate_left
 ·exact Ev.neg (by simp [hH]) (bad (fun h=>hH h.2.1) _ rfl)
 refine Ev.pos (by simp [hH]) ?_
 obtain ⟨w,rfl⟩:=Int.eq_ofNat_of_zero_le (show 0 ≤ W by omega)
 obtain ⟨h,rfl⟩:=Int.eq_ofNat_of_zero_le (show 0 ≤ H by omega)
 have hm:(w + 1) * (h + 1) ≤ 40 * 40:=mulle (by omega) (by omega)
 have e:wrap64 (wrap64 ((w:Int) + 1) * wrap64 ((h:Int) + 1)) = (((w + 1) * (h + 1):Nat):Int):=by
  rw [sucw w (by omega),sucw h (by omega),← Int.natCast_mul,wrap_in (by omega) (by omega)]
 rw [e]
 by_cases l1:C.length = (w + 1) * (h + 1)
 rotate_left
 ·exact bad (fun hs=>l1 (area_nat hs.2.2)) _ (bne_iff_ne.2 (by omega))
 have hs:LShape (w:Int) (h:Int) C:=⟨⟨by omega,by omega⟩,⟨by omega,by omega⟩,by rw [l1];push_cast;rfl⟩
 rw [show ((C.length:Int) != (((w + 1) * (h + 1):Nat):Int)) = false from bne_eq_false_iff_eq.2 (by omega)]
 refine Ev.eq ?_ (if_pos hs).symm
 refine Ev.step (fun k=>by simp only [hinterlandref02_Validate.j0];rfl) (Ev.neg (by simp) ?_)
 have good1:∀ i,i < C.length → ZAt C i → ∀ r,Ev (fun k=>hinterlandref02_Validate.l0 k C (C.length:Int) ((i:Int) + 1) (w:Int) (h:Int) C) r → Ev (fun k=>hinterlandref02_Validate.l0 k C (C.length:Int) (i:Int) (w:Int) (h:Int) C) r:=by
  intro i hi p r hr
  unfold ZAt z at p
  refine Ev.step (fun k=>by simp only [hinterlandref02_Validate.l0];rfl) ?_
  rw [rdN,wrap_in (x:=(i:Int) + 1) (by omega) (by omega)]
  exact Ev.pos (by omega) (Ev.pos (by omega) (Ev.pos (by omega) (Ev.neg (by omega) (Ev.neg (by omega) hr))))
 have bad1:∀ i,i < C.length → ¬ ZAt C i → Ev (fun k=>hinterlandref02_Validate.l0 k C (C.length:Int) (i:Int) (w:Int) (h:Int) C) 1:=by
  intro i hi p
  unfold ZAt z at p
  refine Ev.step (fun k=>by simp only [hinterlandref02_Validate.l0];rfl) ?_
  rw [rdN]
  refine Ev.pos (by omega) (Ev.pos (by omega) (Ev.pos (by omega) ?_))
  by_cases q1:C.getD i 0 < 0
  ·exact Ev.pos q1 (Ev.now _)
  exact Ev.neg q1 (Ev.pos (by omega) (Ev.now _))
 by_cases g1:Zs C
 rotate_left
 ·exact Ev.eq (Ev.scan_some (g:=fun k i=>hinterlandref02_Validate.l0 k C (C.length:Int) i (w:Int) (h:Int) C) good1 bad1 C.length 0 (by omega) (not_all g1)) (if_neg g1).symm
 refine Ev.eq ?_ (if_pos g1).symm
 refine Ev.scan_all (g:=fun k i=>hinterlandref02_Validate.l0 k C (C.length:Int) i (w:Int) (h:Int) C) (Ev.step (fun k=>by simp only [hinterlandref02_Validate.l0];rfl) (Ev.neg (by omega) ?_)) good1 C.length 0 (by omega) g1
 simp only [Int.toNat_natCast]
 have zr:∀ j,j < C.length → 0 ≤ C.getD j 0 ∧ C.getD j 0 ≤ 15:=fun j hj=>g1 j (Nat.zero_le _) hj
 have tm:∀ i:Nat,Int.tmod (i:Int) (wrap64 ((w:Int) + 1)) = ((i % (w + 1):Nat):Int):=by
  intro i;rw [sucw w (by omega)];rfl
 have left:∀ i:Nat,0 < i % (w + 1) → wrap64 ((i:Int) - 1) = ((i - 1:Nat):Int) ∨ 100000 < i:=by
  intro i hi
  by_cases hb:i ≤ 100000
  ·left
   have:0 < i:=by cases i with | zero=>simp at hi | succ i=>omega
   rw [wrap_in (by omega) (by omega)];omega
  ·right;omega
 have up:∀ i:Nat,w < i → i ≤ 100000 → wrap64 (wrap64 ((i:Int) - (w:Int)) - 1) = ((i - (w + 1):Nat):Int):=by
  intro i hi hb
  rw [wrap_in (x:=(i:Int) - (w:Int)) (by omega) (by omega),wrap_in (by omega) (by omega)];omega
 have good2:∀ i,i < C.length → QAt C w i → ∀ r,Ev (fun k=>hinterlandref02_Validate.l1 k C (C.length:Int) ((i:Int) + 1) (w:Int) (h:Int) C) r → Ev (fun k=>hinterlandref02_Validate.l1 k C (C.length:Int) (i:Int) (w:Int) (h:Int) C) r:=by
  intro i hi ⟨p1,p2⟩ r hr
  refine Ev.step (fun k=>by simp only [hinterlandref02_Validate.l1];rfl) ?_
  rw [tm,wrap_in (x:=(i:Int) + 1) (by omega) (by omega)]
  refine Ev.pos (by omega) (Ev.pos (by omega) (Ev.pos (by omega) (Ev.neg (by rw [sucw w (by omega)];omega) ?_)))
  have more:Ev (fun k=>if (i:Int) > (w:Int) then (if 0 ≤ wrap64 (wrap64 ((i:Int) - (w:Int)) - 1) then (if wrap64 (wrap64 ((i:Int) - (w:Int)) - 1) < (C.length:Int) then ((hinterlandref02_Apart.f (rd C (i:Int)) (rd C (wrap64 (wrap64 ((i:Int) - (w:Int)) - 1)))).bind fun t=>if t > 1 then some 5 else hinterlandref02_Validate.l1 k C (C.length:Int) ((i:Int) + 1) (w:Int) (h:Int) C) else none) else none) else hinterlandref02_Validate.l1 k C (C.length:Int) ((i:Int) + 1) (w:Int) (h:Int) C) r:=by
   by_cases hw:w < i
   ·rw [up i hw (by omega),rdN,rdN]
    obtain ⟨t,ht,hiff⟩:=rapart_eq (zr i hi) (zr (i - (w + 1)) (by omega))
    exact Ev.pos (by omega) (Ev.pos (by omega) (Ev.pos (by omega) (Ev.bindc ht (Ev.neg (fun hc=>hiff.1 hc (p2 hw)) hr))))
   ·exact Ev.neg (by omega) hr
  by_cases hx:0 < i % (w + 1)
  ·rcases left i hx with e1 | e1
   ·rw [e1,rdN,rdN]
    rw [rdN] at more
    obtain ⟨t,ht,hiff⟩:=rapart_eq (zr i hi) (zr (i - 1) (by omega))
    exact Ev.pos (by omega) (Ev.pos (by omega) (Ev.pos (by omega) (Ev.bindc ht (Ev.neg (fun hc=>hiff.1 hc (p1 hx)) more))))
   ·omega
  ·exact Ev.neg (by omega) more
 have bad2:∀ i,i < C.length → ¬ QAt C w i → Ev (fun k=>hinterlandref02_Validate.l1 k C (C.length:Int) (i:Int) (w:Int) (h:Int) C) 5:=by
  intro i hi p
  refine Ev.step (fun k=>by simp only [hinterlandref02_Validate.l1];rfl) ?_
  rw [tm,wrap_in (x:=(i:Int) + 1) (by omega) (by omega)]
  refine Ev.pos (by omega) (Ev.pos (by omega) (Ev.pos (by omega) (Ev.neg (by rw [sucw w (by omega)];omega) ?_)))
  have more:¬ (w < i → near (z C i) (z C (i - (w + 1)))) → Ev (fun k=>if (i:Int) > (w:Int) then (if 0 ≤ wrap64 (wrap64 ((i:Int) - (w:Int)) - 1) then (if wrap64 (wrap64 ((i:Int) - (w:Int)) - 1) < (C.length:Int) then ((hinterlandref02_Apart.f (rd C (i:Int)) (rd C (wrap64 (wrap64 ((i:Int) - (w:Int)) - 1)))).bind fun t=>if t > 1 then some 5 else hinterlandref02_Validate.l1 k C (C.length:Int) ((i:Int) + 1) (w:Int) (h:Int) C) else none) else none) else hinterlandref02_Validate.l1 k C (C.length:Int) ((i:Int) + 1) (w:Int) (h:Int) C) 5:=by
   intro hc
   have hw:w < i:=Classical.byContradiction fun hn=>hc fun h1=>absurd h1 hn
   rw [up i hw (by omega),rdN,rdN]
   obtain ⟨t,ht,hiff⟩:=rapart_eq (zr i hi) (zr (i - (w + 1)) (by omega))
   exact Ev.pos (by omega) (Ev.pos (by omega) (Ev.pos (by omega) (Ev.bindc ht (Ev.pos (hiff.2 fun hn=>hc fun _=>hn) (Ev.now _)))))
  by_cases hx:0 < i % (w + 1)
  ·rcases left i hx with e1 | e1
   ·rw [e1,rdN,rdN]
    rw [rdN] at more
    obtain ⟨t,ht,hiff⟩:=rapart_eq (zr i hi) (zr (i - 1) (by omega))
    refine Ev.pos (by omega) (Ev.pos (by omega) (Ev.pos (by omega) (Ev.bindc ht ?_)))
    by_cases hn:near (z C i) (z C (i - 1))
    ·exact Ev.neg (fun hc=>hiff.1 hc hn) (more fun h2=>p ⟨fun _=>hn,h2⟩)
    ·exact Ev.pos (hiff.2 hn) (Ev.now _)
   ·omega
  ·exact Ev.neg (by omega) (more fun h2=>p ⟨fun h1=>absurd h1 hx,h2⟩)
 have fin2:Ev (fun k=>hinterlandref02_Validate.l1 k C (C.length:Int) ((C.length:Nat):Int) (w:Int) (h:Int) C) 0 :=
  Ev.step (fun k=>by simp only [hinterlandref02_Validate.l1];rfl) (Ev.neg (by omega) (Ev.now _))
 by_cases g2:Flat C w h
 ·rw [if_pos g2]
  exact Ev.scan_all (g:=fun k i=>hinterlandref02_Validate.l1 k C (C.length:Int) i (w:Int) (h:Int) C) fin2 good2 C.length 0 (by omega) ((flat_q l1).1 g2)
 ·rw [if_neg g2]
  exact Ev.scan_some (g:=fun k i=>hinterlandref02_Validate.l1 k C (C.length:Int) i (w:Int) (h:Int) C) good2 bad2 C.length 0 (by omega) (not_all fun hc=>g2 ((flat_q l1).2 hc))
theorem upper_eq (s:Int):hinterlandref06_upper.f s = some (if s = 6 then 0 else if s = 12 then 1 else if s = 9 then 2 else if s = 3 then 3 else -1) := by
 unfold hinterlandref06_upper.f
 by_cases h1:s = 6
 ·simp [h1]
 by_cases h2:s = 12
 ·simp [h2]
 by_cases h3:s = 9
 ·simp [h3]
 by_cases h4:s = 3
 ·simp [h4]
 simp [h1,h2,h3,h4]
section
variable {w h : Nat} {C : List Int}
theorem places_eq (L:Land w h C) {t:Nat} (ht:t < w * h):hinterlandref02_Places.f (w:Int) (h:Int) C (t:Int) = some (⟨((co w t:Nat):Int),((co w t + 1:Nat):Int),((co w t + w + 2:Nat):Int),((co w t + w + 1:Nat):Int)⟩:S71) := by
 have:=L.w0
 have:=L.w1
 have hc:=co_lt L ht
 unfold hinterlandref02_Places.f
 rw [if_neg (by omega),idx_t L ht,(idx_2 (co w t) w (by omega) (by omega)).1,(idx_2 (co w t) w (by omega) (by omega)).2,sucw (co w t) (by omega)]
theorem sea_ev (L:Land w h C) {t:Nat} (ht:t < w * h):Ev (fun k => hinterlandref02_Sea.f k (w:Int) (h:Int) C (t:Int)) (sea w C t) := by
 have hc:=co_lt L ht
 unfold hinterlandref02_Sea.f
 refine Ev.bindc (places_eq L ht) ?_
 have one:∀ (i:Int) (n:Nat) (r:Bool),0 ≤ i ∧ i < 4 → ix71 (⟨((co w t:Nat):Int),((co w t + 1:Nat):Int),((co w t + w + 2:Nat):Int),((co w t + w + 1:Nat):Int)⟩:S71) i = (n:Int) → n < C.length → (¬ z C n ≤ 2 → r = false) →
   (z C n ≤ 2 → Ev (fun k=>hinterlandref02_Sea.l0 k (⟨((co w t:Nat):Int),((co w t + 1:Nat):Int),((co w t + w + 2:Nat):Int),((co w t + w + 1:Nat):Int)⟩:S71) (i + 1) (w:Int) (h:Int) C) r) → Ev (fun k=>hinterlandref02_Sea.l0 k (⟨((co w t:Nat):Int),((co w t + 1:Nat):Int),((co w t + w + 2:Nat):Int),((co w t + w + 1:Nat):Int)⟩:S71) i (w:Int) (h:Int) C) r:=by
  intro i n r hi hn hl hb hk
  refine Ev.step (fun k=>by simp only [hinterlandref02_Sea.l0];rfl) ?_
  rw [hn,rdN,wrap_in (x:=i + 1) (by omega) (by omega)]
  refine Ev.pos hi.2 (Ev.pos hi.1 (Ev.pos (by omega) (Ev.pos (by omega) ?_)))
  by_cases h2:z C n ≤ 2
  ·exact Ev.neg (by unfold z at h2;omega) (hk h2)
  ·exact Ev.pos (by unfold z at h2;omega) (Ev.eq (Ev.now _) (hb h2).symm)
 have hg:=hi4_ge (zk w C t 0) (zk w C t 1) (zk w C t 2) (zk w C t 3)
 have big:∀ k,¬ zk w C t k ≤ 2 → (k = 0 ∨ k = 1 ∨ k = 2 ∨ k = 3) → sea w C t = false:=by
  intro k h1 h2
  unfold sea top
  rw [decide_eq_false]
  rcases h2 with rfl | rfl | rfl | rfl <;> omega
 refine one 0 (co w t) _ (by decide) rfl (by omega) (fun hb=>big 0 hb (by simp)) fun h0=>?_
 refine one 1 (co w t + 1) _ (by decide) rfl (by omega) (fun hb=>big 1 hb (by simp)) fun h1=>?_
 refine one 2 (co w t + w + 2) _ (by decide) rfl (by omega) (fun hb=>big 2 hb (by simp)) fun h2=>?_
 refine one 3 (co w t + w + 1) _ (by decide) rfl (by omega) (fun hb=>big 3 hb (by simp)) fun h3=>?_
 refine Ev.step (fun k=>by simp only [hinterlandref02_Sea.l0];rfl) (Ev.neg (by decide) (Ev.eq (Ev.now _) ?_))
 have h0':zk w C t 0 ≤ 2:=h0
 have h1':zk w C t 1 ≤ 2:=h1
 have h2':zk w C t 2 ≤ 2:=h2
 have h3':zk w C t 3 ≤ 2:=h3
 unfold sea top
 rw [decide_eq_true]
 omega
theorem face_ev (L:Land w h C) {t:Nat} (ht:t < w * h):Ev (fun k => hinterlandref02_Face.f k (w:Int) (h:Int) C (t:Int)) (slope w C t,base w C t) := by
 have hc:=co_lt L ht
 unfold hinterlandref02_Face.f
 refine Ev.bindc (places_eq L ht) (Ev.pos (by show (0:Int) ≤ ((co w t:Nat):Int);omega) (Ev.pos (by show ((co w t:Nat):Int) < (C.length:Int);omega) ?_))
 obtain ⟨q,hq⟩:∃ q,q = (⟨((co w t:Nat):Int),((co w t + 1:Nat):Int),((co w t + w + 2:Nat):Int),((co w t + w + 1:Nat):Int)⟩:S71):=⟨_,rfl⟩
 have one:∀ (i:Int) (n:Nat) (a b:Int) (r:Int × Int),0 ≤ i ∧ i < 4 → ix71 q i = (n:Int) → n < C.length →
   Ev (fun k=>hinterlandref02_Face.l0 k (mn a (z C n)) (mx b (z C n)) q (i + 1) (w:Int) (h:Int) C ((co w t:Nat):Int) ((co w t + 1:Nat):Int) ((co w t + w + 2:Nat):Int) ((co w t + w + 1:Nat):Int)) r → Ev (fun k=>hinterlandref02_Face.l0 k a b q i (w:Int) (h:Int) C ((co w t:Nat):Int) ((co w t + 1:Nat):Int) ((co w t + w + 2:Nat):Int) ((co w t + w + 1:Nat):Int)) r:=by
  intro i n a b r hi hn hl hk
  refine Ev.step (fun k=>by simp only [hinterlandref02_Face.l0];rfl) ?_
  rw [hn,rdN,wrap_in (x:=i + 1) (by omega) (by omega)]
  exact Ev.pos hi.2 (Ev.pos hi.1 (Ev.pos (by omega) (Ev.pos (by omega) hk)))
 have two:∀ (i:Int) (n:Nat) (a b s v:Int) (r:Int × Int),0 ≤ i ∧ i < 4 → ix71 q i = (n:Int) → n < C.length → 0 ≤ s ∧ s ≤ 100 → 0 ≤ v ∧ v ≤ 100 →
   Ev (fun k=>hinterlandref02_Face.l1 k a b (s + bit (decide (z C n > a)) v) (v * 2) q (i + 1) (w:Int) (h:Int) C) r → Ev (fun k=>hinterlandref02_Face.l1 k a b s v q i (w:Int) (h:Int) C) r:=by
  intro i n a b s v r hi hn hl hs hv hk
  refine Ev.step (fun k=>by simp only [hinterlandref02_Face.l1];rfl) ?_
  rw [hn,rdN,wrap_in (x:=i + 1) (by omega) (by omega),wrap_in (x:=s + v) (by omega) (by omega),wrap_in (x:=v * 2) (by omega) (by omega)]
  refine Ev.pos hi.2 (Ev.pos hi.1 (Ev.pos (by omega) (Ev.pos (by omega) ?_)))
  by_cases hz:C.getD n 0 > a
  ·refine Ev.pos hz ?_
   rw [show bit (decide (z C n > a)) v = v by unfold z;rw [decide_eq_true hz];rfl] at hk
   exact hk
  ·refine Ev.neg hz ?_
   rw [show bit (decide (z C n > a)) v = 0 by unfold z;rw [decide_eq_false hz];rfl,Int.add_zero] at hk
   exact hk
 rw [rdN]
 change Ev (fun k=>hinterlandref02_Face.l0 k (zk w C t 0) (zk w C t 0) (⟨((co w t:Nat):Int),((co w t + 1:Nat):Int),((co w t + w + 2:Nat):Int),((co w t + w + 1:Nat):Int)⟩:S71) 0 (w:Int) (h:Int) C ((co w t:Nat):Int) ((co w t + 1:Nat):Int) ((co w t + w + 2:Nat):Int) ((co w t + w + 1:Nat):Int)) _
 rw [← hq]
 refine one 0 (co w t) _ _ _ (by decide) (by rw [hq];rfl) (by omega) ?_
 refine one 1 (co w t + 1) _ _ _ (by decide) (by rw [hq];rfl) (by omega) ?_
 refine one 2 (co w t + w + 2) _ _ _ (by decide) (by rw [hq];rfl) (by omega) ?_
 refine one 3 (co w t + w + 1) _ _ _ (by decide) (by rw [hq];rfl) (by omega) ?_
 have m0:∀ a:Int,mn a a = a:=fun a=>by unfold mn;split <;> rfl
 have m1:∀ a:Int,mx a a = a:=fun a=>by unfold mx;split <;> rfl
 change Ev (fun k=>hinterlandref02_Face.l0 k (mn (mn (mn (mn (zk w C t 0) (zk w C t 0)) (zk w C t 1)) (zk w C t 2)) (zk w C t 3)) (mx (mx (mx (mx (zk w C t 0) (zk w C t 0)) (zk w C t 1)) (zk w C t 2)) (zk w C t 3)) q 4 (w:Int) (h:Int) C ((co w t:Nat):Int) ((co w t + 1:Nat):Int) ((co w t + w + 2:Nat):Int) ((co w t + w + 1:Nat):Int)) _
 rw [m0,m1]
 change Ev (fun k=>hinterlandref02_Face.l0 k (base w C t) (top w C t) q 4 (w:Int) (h:Int) C ((co w t:Nat):Int) ((co w t + 1:Nat):Int) ((co w t + w + 2:Nat):Int) ((co w t + w + 1:Nat):Int)) _
 refine Ev.step (fun k=>by simp only [hinterlandref02_Face.l0];rfl) (Ev.neg (by decide) ?_)
 rw [← hq]
 have B1:=bit_le (decide (z C (co w t) > base w C t)) 1 (by decide)
 have B2:=bit_le (decide (z C (co w t + 1) > base w C t)) (1 * 2) (by decide)
 have B3:=bit_le (decide (z C (co w t + w + 2) > base w C t)) (1 * 2 * 2) (by decide)
 have B4:=bit_le (decide (z C (co w t + w + 1) > base w C t)) (1 * 2 * 2 * 2) (by decide)
 refine two 0 (co w t) _ _ _ _ _ (by decide) (by rw [hq];rfl) (by omega) (by decide) (by decide) ?_
 refine two 1 (co w t + 1) _ _ _ _ _ (by decide) (by rw [hq];rfl) (by omega) (by omega) (by decide) ?_
 refine two 2 (co w t + w + 2) _ _ _ _ _ (by decide) (by rw [hq];rfl) (by omega) (by omega) (by decide) ?_
 refine two 3 (co w t + w + 1) _ _ _ _ _ (by decide) (by rw [hq];rfl) (by omega) (by omega) (by decide) ?_
 obtain ⟨t1,t2,t3⟩:=top_in L ht
 have b:=base_in L ht
 have zz:∀ k,0 ≤ zk w C t k ∧ zk w C t k ≤ 15:=zk_in L ht
 have hz:=fun k=>zz k
 have lo:=lo4_le (zk w C t 0) (zk w C t 1) (zk w C t 2) (zk w C t 3)
 have hi:=hi4_ge (zk w C t 0) (zk w C t 1) (zk w C t 2) (zk w C t 3)
 have e:(decide (zk w C t 0 > base w C t + 1) || decide (zk w C t 1 > base w C t + 1) || decide (zk w C t 2 > base w C t + 1) || decide (zk w C t 3 > base w C t + 1)) = decide (top w C t - base w C t = 2):=by
  have:(decide (zk w C t 0 > base w C t + 1) || decide (zk w C t 1 > base w C t + 1) || decide (zk w C t 2 > base w C t + 1) || decide (zk w C t 3 > base w C t + 1)) = decide (zk w C t 0 > base w C t + 1 ∨ zk w C t 1 > base w C t + 1 ∨ zk w C t 2 > base w C t + 1 ∨ zk w C t 3 > base w C t + 1):=by
   simp [Bool.or_assoc]
  rw [this]
  apply decide_eq_decide.2
  unfold top base at *
  omega
 refine Ev.step (fun k=>by simp only [hinterlandref02_Face.l1];rfl) (Ev.neg (by decide) ?_)
 have sl:slope w C t = 0 + bit (decide (z C (co w t) > base w C t)) 1 + bit (decide (z C (co w t + 1) > base w C t)) (1 * 2) + bit (decide (z C (co w t + w + 2) > base w C t)) (1 * 2 * 2) + bit (decide (z C (co w t + w + 1) > base w C t)) (1 * 2 * 2 * 2) + bit (decide (top w C t - base w C t = 2)) 16:=by
  unfold slope
  rw [slp_eq,e,Int.zero_add]
  rfl
 rw [wrap_in (x:=top w C t - base w C t) (by omega) (by omega)]
 by_cases hd:top w C t - base w C t = 2
 ·refine Ev.pos hd (Ev.eq (Ev.now _) ?_)
  rw [show bit (decide (top w C t - base w C t = 2)) 16 = 16 by simp [bit,hd]] at sl
  rw [sl,wrap_in (by omega) (by omega)]
 ·refine Ev.neg hd (Ev.eq (Ev.now _) ?_)
  rw [show bit (decide (top w C t - base w C t = 2)) 16 = 0 by simp [bit,hd],Int.add_zero] at sl
  rw [sl]
theorem lies_ev (L:Land w h C) {t:Nat} (ht:t < w * h) (k0:Int):Ev (fun k => hinterlandref06_lies.f k (w:Int) (h:Int) C (t:Int) k0) (lie (sea w C t) (slope w C t) k0) := by
 unfold hinterlandref06_lies.f
 refine Ev.bind (face_ev L ht) (Ev.bind (sea_ev L ht) ?_)
 by_cases h1:k0 = 1
 ·refine Ev.pos h1 (Ev.step (fun k=>by simp only [hinterlandref06_lies.j0];rfl) (Ev.pos (by simp [h1]) ?_))
  cases he:sea w C t with
  | true=>exact Ev.pos rfl (Ev.eq (Ev.now _) (by simp [lie,h1]))
  | false =>
   refine Ev.neg (by simp) (Ev.pos h1 ?_)
   by_cases hs:slope w C t = 0
   ·exact Ev.pos hs (Ev.neg (by omega) (Ev.eq (Ev.now _) (by simp [lie,h1,hs])))
   ·exact Ev.neg hs (Ev.eq (Ev.now _) (by simp [lie,h1,hs]))
 ·refine Ev.neg h1 (Ev.step (fun k=>by simp only [hinterlandref06_lies.j0];rfl) ?_)
  by_cases h2:k0 = 2
  ·refine Ev.pos (by simp [h2]) ?_
   cases he:sea w C t with
   | true=>exact Ev.pos rfl (Ev.eq (Ev.now _) (by simp [lie,h2]))
   | false =>
    refine Ev.neg (by simp) (Ev.neg h1 (Ev.pos h2 (Ev.bindc (upper_eq _) ?_)))
    by_cases hi:inc (slope w C t)
    ·refine Ev.neg ?_ (Ev.eq (Ev.now _) (by simp [lie,h2,hi]))
     unfold inc at hi
     rcases hi with e | e | e | e <;> rw [e] <;> decide
    ·refine Ev.pos ?_ (Ev.eq (Ev.now _) (by simp [lie,h2,hi]))
     unfold inc at hi
     rw [if_neg (by omega),if_neg (by omega),if_neg (by omega),if_neg (by omega)];decide
  ·refine Ev.neg (by simp [h2]) ?_
   by_cases h3:k0 = 3
   ·refine Ev.pos h3 ?_
    cases he:sea w C t with
    | true=>exact Ev.pos rfl (Ev.eq (Ev.now _) (by simp [lie,h3]))
    | false =>
     refine Ev.neg (by simp) ?_
     by_cases hs:slope w C t = 0
     ·exact Ev.pos hs (Ev.eq (Ev.now _) (by simp [lie,h3,hs]))
     ·exact Ev.neg hs (Ev.eq (Ev.now _) (by simp [lie,h3,hs]))
   ·exact Ev.neg h3 (Ev.eq (Ev.now _) (by simp [lie,h1,h2,h3]))
end
section
variable {w h : Nat} {C K B : List Int}
theorem ref_wet_ev (L:Land w h C) {t:Nat} (ht:t < w * h) (hK:K.length = w * h) (hk:KAt K t) (hm:MayAt w C K t):Ev (fun k => hinterlandref06_Wet.f k (w:Int) (h:Int) C K (t:Int)) (wet w C K t) := by
 unfold hinterlandref06_Wet.f
 refine Ev.pos (by omega) (Ev.pos (by omega) ?_)
 rw [rdN]
 unfold wet
 unfold MayAt at hm
 unfold KAt at hk
 by_cases h0:K.getD t 0 = 0
 ·refine Ev.pos h0 (Ev.bind (sea_ev L ht) (Ev.eq (Ev.now _) ?_))
  rw [h0]
  simp
 refine Ev.neg h0 ?_
 have e1:(sea w C t || (K.getD t 0 != 0)) = true:=by rw [show (K.getD t 0 != 0) = true from bne_iff_ne.2 h0];simp
 rw [e1]
 by_cases h1:K.getD t 0 = 1
 ·refine Ev.pos h1 (Ev.bind (sea_ev L ht) ?_)
  have:sea w C t = false:=by
   cases he:sea w C t with
   | false=>rfl
   | true=>rw [h1,he] at hm;simp [lie] at hm
  exact Ev.neg (by simp [this]) (Ev.now _)
 refine Ev.neg h1 ?_
 by_cases h2:K.getD t 0 = 2
 ·refine Ev.pos h2 (Ev.bind (sea_ev L ht) ?_)
  have:sea w C t = false:=by
   cases he:sea w C t with
   | false=>rfl
   | true=>rw [h2,he] at hm;simp [lie] at hm
  exact Ev.neg (by simp [this]) (Ev.now _)
 exact Ev.neg h2 (Ev.now _)
open Classical in
theorem rcheck4 (L:Land w h C) (hK:K.length = w * h) (hB:B.length ≤ 4000) (hin:InB B (w * h)) (hk:KOK K) (hm:May w C K):Ev (fun k => hinterlandref06_Validate.l4 k B (B.length:Int) 0 (w:Int) (h:Int) C K B) (if WetB w C K B then 0 else 9) := by
 have hend:Ev (fun k=>hinterlandref06_Validate.l4 k B (B.length:Int) (B.length:Int) (w:Int) (h:Int) C K B) 0:=Ev.step (fun k=>by simp only [hinterlandref06_Validate.l4];rfl) (Ev.neg (by omega) (Ev.now _))
 have val:∀ i,i < B.length → Ev (fun k=>hinterlandref06_Wet.f k (w:Int) (h:Int) C K (B.getD i 0)) (wet w C K (B.getD i 0).toNat):=by
  intro i hi
  obtain ⟨h1,h2⟩:=hin i (Nat.zero_le _) hi
  have hl:(B.getD i 0).toNat < w * h:=by omega
  have:=ref_wet_ev L hl hK (hk _ (Nat.zero_le _) (by omega)) (hm _ (Nat.zero_le _) (by omega))
  rw [Int.toNat_of_nonneg h1] at this
  exact this
 have good:∀ i,i < B.length → WetAt w C K B i → ∀ r,Ev (fun k=>hinterlandref06_Validate.l4 k B (B.length:Int) ((i:Int) + 1) (w:Int) (h:Int) C K B) r → Ev (fun k=>hinterlandref06_Validate.l4 k B (B.length:Int) (i:Int) (w:Int) (h:Int) C K B) r:=by
  intro i hi p r hr
  refine Ev.step (fun k=>by simp only [hinterlandref06_Validate.l4];rfl) ?_
  rw [rdN,wrap_in (x:=(i:Int) + 1) (by omega) (by omega)]
  exact Ev.pos (by omega) (Ev.pos (by omega) (Ev.pos (by omega) (Ev.bind (val i hi) (Ev.pos p hr))))
 have bad:∀ i,i < B.length → ¬ WetAt w C K B i → Ev (fun k=>hinterlandref06_Validate.l4 k B (B.length:Int) (i:Int) (w:Int) (h:Int) C K B) 9:=by
  intro i hi p
  refine Ev.step (fun k=>by simp only [hinterlandref06_Validate.l4];rfl) ?_
  rw [rdN]
  exact Ev.pos (by omega) (Ev.pos (by omega) (Ev.pos (by omega) (Ev.bind (val i hi) (Ev.neg p (Ev.now _)))))
 by_cases g:WetB w C K B
 ·rw [if_pos g]
  exact Ev.scan_all (g:=fun k i=>hinterlandref06_Validate.l4 k B (B.length:Int) i (w:Int) (h:Int) C K B) hend good B.length 0 (by omega) g
 ·rw [if_neg g]
  exact Ev.scan_some (g:=fun k i=>hinterlandref06_Validate.l4 k B (B.length:Int) i (w:Int) (h:Int) C K B) good bad B.length 0 (by omega) (not_all g)
open Classical in
theorem rcheck3 (L:Land w h C) (hK:K.length = w * h) (hB:B.length ≤ 4000) (hin:InB B (w * h)) (hk:KOK K):Ev (fun k => hinterlandref06_Validate.l3 k K (K.length:Int) 0 (w:Int) (h:Int) C K B) (if May w C K then (if WetB w C K B then 0 else 9) else 9) := by
 have hwh:w * h ≤ 32 * 32:=mulle L.w1 L.h1
 have hend:∀ r,Ev (fun k=>hinterlandref06_Validate.l4 k B (B.length:Int) 0 (w:Int) (h:Int) C K B) r → Ev (fun k=>hinterlandref06_Validate.l3 k K (K.length:Int) (K.length:Int) (w:Int) (h:Int) C K B) r:=fun r hr=>Ev.step (fun k=>by simp only [hinterlandref06_Validate.l3];rfl) (Ev.neg (by omega) hr)
 have good:∀ i,i < K.length → MayAt w C K i → ∀ r,Ev (fun k=>hinterlandref06_Validate.l3 k K (K.length:Int) ((i:Int) + 1) (w:Int) (h:Int) C K B) r → Ev (fun k=>hinterlandref06_Validate.l3 k K (K.length:Int) (i:Int) (w:Int) (h:Int) C K B) r:=by
  intro i hi p r hr
  refine Ev.step (fun k=>by simp only [hinterlandref06_Validate.l3];rfl) ?_
  rw [rdN,wrap_in (x:=(i:Int) + 1) (by omega) (by omega)]
  exact Ev.pos (by omega) (Ev.pos (by omega) (Ev.pos (by omega) (Ev.bind (lies_ev L (by omega) _) (Ev.pos p hr))))
 have bad:∀ i,i < K.length → ¬ MayAt w C K i → Ev (fun k=>hinterlandref06_Validate.l3 k K (K.length:Int) (i:Int) (w:Int) (h:Int) C K B) 9:=by
  intro i hi p
  refine Ev.step (fun k=>by simp only [hinterlandref06_Validate.l3];rfl) ?_
  rw [rdN]
  exact Ev.pos (by omega) (Ev.pos (by omega) (Ev.pos (by omega) (Ev.bind (lies_ev L (by omega) _) (Ev.neg p (Ev.now _)))))
 by_cases g:May w C K
 ·rw [if_pos g]
  exact Ev.scan_all (g:=fun k i=>hinterlandref06_Validate.l3 k K (K.length:Int) i (w:Int) (h:Int) C K B) (hend _ (rcheck4 L hK hB hin hk g)) good K.length 0 (by omega) g
 ·rw [if_neg g]
  exact Ev.scan_some (g:=fun k i=>hinterlandref06_Validate.l3 k K (K.length:Int) i (w:Int) (h:Int) C K B) good bad K.length 0 (by omega) (not_all g)
open Classical in
theorem rcheck2 (L:Land w h C) (hK:K.length = w * h) (hB:B.length ≤ 4000) (hk:KOK K):Ev (fun k => hinterlandref06_Validate.l2 k B (B.length:Int) 0 (w:Int) (h:Int) C K B) (if InB B (w * h) then (if May w C K then (if WetB w C K B then 0 else 9) else 9) else 2) := by
 have hwh:w * h ≤ 32 * 32:=mulle L.w1 L.h1
 have hend:∀ r,Ev (fun k=>hinterlandref06_Validate.l3 k K (K.length:Int) 0 (w:Int) (h:Int) C K B) r → Ev (fun k=>hinterlandref06_Validate.l2 k B (B.length:Int) (B.length:Int) (w:Int) (h:Int) C K B) r:=fun r hr=>Ev.step (fun k=>by simp only [hinterlandref06_Validate.l2];rfl) (Ev.neg (by omega) hr)
 have good:∀ i,i < B.length → InAt B (w * h) i → ∀ r,Ev (fun k=>hinterlandref06_Validate.l2 k B (B.length:Int) ((i:Int) + 1) (w:Int) (h:Int) C K B) r → Ev (fun k=>hinterlandref06_Validate.l2 k B (B.length:Int) (i:Int) (w:Int) (h:Int) C K B) r:=by
  intro i hi p r hr
  unfold InAt at p
  refine Ev.step (fun k=>by simp only [hinterlandref06_Validate.l2];rfl) ?_
  rw [rdN,wrap_in (x:=(i:Int) + 1) (by omega) (by omega)]
  exact Ev.pos (by omega) (Ev.pos (by omega) (Ev.pos (by omega) (Ev.bindc (is_eq L _) (Ev.pos (by rw [decide_eq_true_eq];exact p) hr))))
 have bad:∀ i,i < B.length → ¬ InAt B (w * h) i → Ev (fun k=>hinterlandref06_Validate.l2 k B (B.length:Int) (i:Int) (w:Int) (h:Int) C K B) 2:=by
  intro i hi p
  refine Ev.step (fun k=>by simp only [hinterlandref06_Validate.l2];rfl) ?_
  rw [rdN]
  exact Ev.pos (by omega) (Ev.pos (by omega) (Ev.pos (by omega) (Ev.bindc (is_eq L _) (Ev.neg (fun hc=>p (by rw [decide_eq_true_eq] at hc;exact hc)) (Ev.now _)))))
 by_cases g:InB B (w * h)
 ·rw [if_pos g]
  exact Ev.scan_all (g:=fun k i=>hinterlandref06_Validate.l2 k B (B.length:Int) i (w:Int) (h:Int) C K B) (hend _ (rcheck3 L hK hB g hk)) good B.length 0 (by omega) g
 ·rw [if_neg g]
  exact Ev.scan_some (g:=fun k i=>hinterlandref06_Validate.l2 k B (B.length:Int) i (w:Int) (h:Int) C K B) good bad B.length 0 (by omega) (not_all g)
open Classical in
theorem rcheck1 (L:Land w h C) (hK:K.length = w * h) (hB:B.length ≤ 4000) (hk:KOK K):Ev (fun k => hinterlandref06_Validate.l1 k 1 (w:Int) (h:Int) C K B) (if Inc B then (if InB B (w * h) then (if May w C K then (if WetB w C K B then 0 else 9) else 9) else 2) else 1) := by
 have hend:∀ r,Ev (fun k=>hinterlandref06_Validate.l2 k B (B.length:Int) 0 (w:Int) (h:Int) C K B) r → Ev (fun k=>hinterlandref06_Validate.l1 k ((max 1 B.length:Nat):Int) (w:Int) (h:Int) C K B) r:=fun r hr=>Ev.step (fun k=>by simp only [hinterlandref06_Validate.l1];rfl) (Ev.neg (by omega) hr)
 have pre:∀ i:Nat,1 ≤ i → i ≤ 4000 → wrap64 ((i:Int) - 1) = ((i - 1:Nat):Int):=by intro i h1 h2;rw [wrap_in (by omega) (by omega)];omega
 have good:∀ i,i < max 1 B.length → IncAt B i → 1 ≤ i → ∀ r,Ev (fun k=>hinterlandref06_Validate.l1 k ((i:Int) + 1) (w:Int) (h:Int) C K B) r → Ev (fun k=>hinterlandref06_Validate.l1 k (i:Int) (w:Int) (h:Int) C K B) r:=by
  intro i hi p p1 r hr
  unfold IncAt at p
  refine Ev.step (fun k=>by simp only [hinterlandref06_Validate.l1];rfl) ?_
  rw [pre i p1 (by omega),rdN,rdN,wrap_in (x:=(i:Int) + 1) (by omega) (by omega)]
  exact Ev.pos (by omega) (Ev.pos (by omega) (Ev.pos (by omega) (Ev.pos (by omega) (Ev.neg (by omega) hr))))
 have bad:∀ i,i < max 1 B.length → ¬ IncAt B i → 1 ≤ i → Ev (fun k=>hinterlandref06_Validate.l1 k (i:Int) (w:Int) (h:Int) C K B) 1:=by
  intro i hi p p1
  unfold IncAt at p
  refine Ev.step (fun k=>by simp only [hinterlandref06_Validate.l1];rfl) ?_
  rw [pre i p1 (by omega),rdN,rdN]
  exact Ev.pos (by omega) (Ev.pos (by omega) (Ev.pos (by omega) (Ev.pos (by omega) (Ev.pos (by omega) (Ev.now _)))))
 have go:∀ d i,1 ≤ i → i + d = max 1 B.length → Ev (fun k=>hinterlandref06_Validate.l1 k (i:Int) (w:Int) (h:Int) C K B) (if (∀ j,i ≤ j → j < max 1 B.length → IncAt B j) then (if InB B (w * h) then (if May w C K then (if WetB w C K B then 0 else 9) else 9) else 2) else 1):=by
  intro d
  induction d with
  | zero =>
   intro i h1 e
   rw [if_pos (fun j a b=>by omega)]
   rw [show i = max 1 B.length by omega]
   exact hend _ (rcheck2 L hK hB hk)
  | succ d ih =>
   intro i h1 e
   by_cases hp:IncAt B i
   ·refine good i (by omega) hp h1 _ (Ev.eq (by simpa using ih (i + 1) (by omega) (by omega)) ?_)
    have:(∀ j,i + 1 ≤ j → j < max 1 B.length → IncAt B j) ↔ (∀ j,i ≤ j → j < max 1 B.length → IncAt B j):=by
     constructor
     ·intro f j a b
      by_cases he:j = i
      ·rw [he];exact hp
      ·exact f j (by omega) b
     ·intro f j a b;exact f j (by omega) b
    simp only [this]
   ·rw [if_neg (fun f=>hp (f i (Nat.le_refl _) (by omega)))]
    exact bad i (by omega) hp h1
 exact go (max 1 B.length - 1) 1 (Nat.le_refl _) (by omega)
open Classical in
theorem rcheck0 (L:Land w h C) (hK:K.length = w * h) (hB:B.length ≤ 4000):Ev (fun k => hinterlandref06_Validate.l0 k K (K.length:Int) 0 (w:Int) (h:Int) C K B) (ucode w h C K B) := by
 have hwh:w * h ≤ 32 * 32:=mulle L.w1 L.h1
 unfold ucode
 rw [if_pos hK]
 have hend:∀ r,Ev (fun k=>hinterlandref06_Validate.l1 k 1 (w:Int) (h:Int) C K B) r → Ev (fun k=>hinterlandref06_Validate.l0 k K (K.length:Int) (K.length:Int) (w:Int) (h:Int) C K B) r:=fun r hr=>Ev.step (fun k=>by simp only [hinterlandref06_Validate.l0];rfl) (Ev.neg (by omega) hr)
 have good:∀ i,i < K.length → KAt K i → ∀ r,Ev (fun k=>hinterlandref06_Validate.l0 k K (K.length:Int) ((i:Int) + 1) (w:Int) (h:Int) C K B) r → Ev (fun k=>hinterlandref06_Validate.l0 k K (K.length:Int) (i:Int) (w:Int) (h:Int) C K B) r:=by
  intro i hi p r hr
  unfold KAt at p
  refine Ev.step (fun k=>by simp only [hinterlandref06_Validate.l0];rfl) ?_
  rw [rdN,wrap_in (x:=(i:Int) + 1) (by omega) (by omega)]
  exact Ev.pos (by omega) (Ev.pos (by omega) (Ev.pos (by omega) (Ev.neg (by omega) (Ev.neg (by omega) hr))))
 have bad:∀ i,i < K.length → ¬ KAt K i → Ev (fun k=>hinterlandref06_Validate.l0 k K (K.length:Int) (i:Int) (w:Int) (h:Int) C K B) 1:=by
  intro i hi p
  unfold KAt at p
  refine Ev.step (fun k=>by simp only [hinterlandref06_Validate.l0];rfl) ?_
  rw [rdN]
  refine Ev.pos (by omega) (Ev.pos (by omega) (Ev.pos (by omega) ?_))
  by_cases q:K.getD i 0 < 0
  ·exact Ev.pos q (Ev.now _)
  ·exact Ev.neg q (Ev.pos (by omega) (Ev.now _))
 by_cases g:KOK K
 ·rw [if_pos g]
  exact Ev.scan_all (g:=fun k i=>hinterlandref06_Validate.l0 k K (K.length:Int) i (w:Int) (h:Int) C K B) (hend _ (rcheck1 L hK hB g)) good K.length 0 (by omega) g
 ·rw [if_neg g]
  exact Ev.scan_some (g:=fun k i=>hinterlandref06_Validate.l0 k K (K.length:Int) i (w:Int) (h:Int) C K B) good bad K.length 0 (by omega) (not_all g)
end
theorem ref_validate_ev {W H:Int} {C K B:List Int} (hC:C.length ≤ 4000) (hB:B.length ≤ 4000):Ev (fun k => hinterlandref06_Validate.f k W H C K B) (wcode W H C K B) := by
 unfold hinterlandref06_Validate.f
 refine Ev.bind (ref_land_ev hC) ?_
 by_cases e:lcode W H C = 0
 ·refine Ev.pos e ?_
  obtain ⟨w,h,rfl,rfl,L⟩:=land_of e
  have hwh:w * h ≤ 32 * 32:=mulle L.w1 L.h1
  have ew:wcode (w:Int) (h:Int) C K B = ucode w h C K B:=by unfold wcode;rw [if_pos e];simp
  rw [ew]
  have ee:wrap64 ((w:Int) * (h:Int)) = ((w * h:Nat):Int):=by rw [← Int.natCast_mul,wrap_in (by omega) (by omega)]
  rw [ee]
  by_cases hK:K.length = w * h
  ·exact Ev.pos (by omega) (rcheck0 L hK hB)
  ·refine Ev.neg (by omega) (Ev.eq (Ev.now _) ?_)
   unfold ucode
   rw [if_neg hK]
 ·have ew:wcode W H C K B = lcode W H C:=by unfold wcode;rw [if_neg e]
  rw [ew]
  exact Ev.neg e (Ev.now _)
theorem place_ev {W H:Int} {C K B:List Int} {t:Int} (hC:C.length ≤ 4000) (hB:B.length ≤ 4000):Ev (fun k => hinterlandref06_place.f k W H C K B t) (acode W H C K B t) := by
 unfold hinterlandref06_place.f
 refine Ev.bind (ref_validate_ev hC hB) ?_
 by_cases hw:wcode W H C K B = 0
 ·refine Ev.pos hw ?_
  have hw':=hw
  obtain ⟨w,h,rfl,rfl,U⟩:=waters_of hw
  have ac:acode (w:Int) (h:Int) C K B t = if 0 ≤ t ∧ t < ((w * h:Nat):Int) then 0 else 2:=by unfold acode;rw [if_pos hw',← Int.natCast_mul]
  rw [ac]
  refine Ev.bindc (is_eq U.land t) ?_
  by_cases q:0 ≤ t ∧ t < ((w * h:Nat):Int)
  ·rw [if_pos q];exact Ev.pos (decide_eq_true q) (Ev.now _)
  ·rw [if_neg q];exact Ev.neg (fun hc=>q (of_decide_eq_true hc)) (Ev.now _)
 ·have ac:acode W H C K B t = wcode W H C K B:=by unfold acode;rw [if_neg hw]
  rw [ac]
  exact Ev.neg hw (Ev.now _)

end Go.Proofs.Ytiencnnkphipoaa.Pure
