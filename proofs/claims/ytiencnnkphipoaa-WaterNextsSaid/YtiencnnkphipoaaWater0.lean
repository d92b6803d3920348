/- What the functions of layer 6 (waters) come to, in plain words: lands. No conditions. -/
import Derived.Test.YtiencnnkphipoaaPx0
import Derived.Test.YtiencnnkphipoaaPx1
import Derived.Test.YtiencnnkphipoaaPx2
import Derived.Test.YtiencnnkphipoaaPx3
import Derived.Test.YtiencnnkphipoaaEvKit
namespace Go.Proofs.Ytiencnnkphipoaa.Pure
set_option linter.unusedVariables false
set_option linter.unusedSimpArgs false
open Go.RowKit Go.Proofs.YtiencnnkphipoaaW.PrintWords Go.Proofs.YtiencnnkphipoaaW.PrintMore Go.Proofs.Ytiencnnkphipoaa.P Go.Proofs.Ytiencnnkphipoaa

theorem Ev.rounds {α : Type} {g : Nat → Option α} {r : α} (h : Ev g r) : ∃ k, g k = some r := by
 obtain ⟨K,h⟩:=h
 exact ⟨K,h K (Nat.le_refl _)⟩
theorem rdN (l : List Int) (i : Nat) : rd l (i : Int) = l.getD i 0 := by unfold rd; simp
theorem rdB (l : List Bool) (i : Nat) : rdOf false l (i : Int) = l.getD i false := by unfold rdOf; simp
theorem not_all {p : Nat → Prop} {n : Nat} (h : ¬ ∀ j, 0 ≤ j → j < n → p j) : ∃ j, 0 ≤ j ∧ j < n ∧ ¬ p j := by
 apply Classical.byContradiction
 intro hc
 exact h fun j h1 h2 => Classical.byContradiction fun h3 => hc ⟨j,h1,h2,h3⟩
theorem large_eq (W H : Int) (C K B : List Int) : hinterlandlaw06_large.f W H C K B = some (decide ((C.length : Int) > 4000 ∨ (K.length : Int) > 4000 ∨ (B.length : Int) > 4000)) := by
 unfold hinterlandlaw06_large.f
 by_cases h1 : (C.length : Int) > 4000
 ·rw [if_pos h1,decide_eq_true (.inl h1)]
 ·rw [if_neg h1]
  by_cases h2 : (K.length : Int) > 4000
  ·rw [if_pos h2,decide_eq_true (.inr (.inl h2))]
  ·rw [if_neg h2];congr 1;apply decide_eq_decide.2;omega

def near (a b : Int) : Prop := a - b ≤ 1 ∧ b - a ≤ 1
instance (a b : Int) : Decidable (near a b) := inferInstanceAs (Decidable (_ ∧ _))
theorem near_symm {a b : Int} (h : near a b) : near b a := ⟨h.2, h.1⟩
def z (C : List Int) (j : Nat) : Int := C.getD j 0
def ZAt (C : List Int) (j : Nat) : Prop := 0 ≤ z C j ∧ z C j ≤ 15
def Zs (C : List Int) : Prop := ∀ j, 0 ≤ j → j < C.length → ZAt C j
def LShape (W H : Int) (C : List Int) : Prop := (4 ≤ W ∧ W ≤ 32) ∧ (4 ≤ H ∧ H ≤ 32) ∧ (C.length : Int) = (W + 1) * (H + 1)
def PQ (C : List Int) (w h y x : Nat) : Prop := (x < w → near (z C (y * (w + 1) + x)) (z C (y * (w + 1) + x + 1))) ∧ (y < h → near (z C (y * (w + 1) + x)) (z C ((y + 1) * (w + 1) + x)))
def Flat (C : List Int) (w h : Nat) : Prop := ∀ y, y ≤ h → ∀ x, x ≤ w → PQ C w h y x
open Classical in
noncomputable def lcode (W H : Int) (C : List Int) : Int := if LShape W H C then (if Zs C then (if Flat C W.toNat H.toNat then 0 else 5) else 1) else 1
theorem lcode_zero {W H : Int} {C : List Int} : lcode W H C = 0 ↔ LShape W H C ∧ Zs C ∧ Flat C W.toNat H.toNat := by
 unfold lcode
 by_cases h1 : LShape W H C
 ·by_cases h2 : Zs C
  ·by_cases h3 : Flat C W.toNat H.toNat
   ·simp [h1,h2,h3]
   ·simp [h1,h2,h3]
  ·simp [h1,h2]
 ·simp [h1]
theorem apart_eq {a b : Int} (ha : 0 ≤ a ∧ a ≤ 15) (hb : 0 ≤ b ∧ b ≤ 15) : land_apart.f a b = some (decide (¬ near a b)) := by
 unfold land_apart.f near
 rw [wrap_in (x:=a - b) (by omega) (by omega),wrap_in (x:=b - a) (by omega) (by omega)]
 by_cases h : a - b > 1
 ·rw [if_pos h,decide_eq_true (by omega)]
 ·rw [if_neg h];congr 1;apply decide_eq_decide.2;omega
theorem mulle {a b m n : Nat} (h1 : a ≤ m) (h2 : b ≤ n) : a * b ≤ m * n := Nat.mul_le_mul h1 h2
theorem mulw (y w : Nat) (hy : y ≤ 40) (hw : w ≤ 40) : wrap64 ((y : Int) * wrap64 ((w : Int) + 1)) = ((y * (w + 1) : Nat) : Int) := by
 have h : y * (w + 1) ≤ 40 * 41:=mulle hy (by omega)
 have e : (y : Int) * ((w : Int) + 1) = ((y * (w + 1) : Nat) : Int):=by push_cast;rfl
 rw [wrap_in (x:=(w : Int) + 1) (by omega) (by omega),e,wrap_in (by omega) (by omega)]
theorem idxw (y w x : Nat) (hy : y ≤ 40) (hw : w ≤ 40) (hx : x ≤ 40) : wrap64 (wrap64 ((y : Int) * wrap64 ((w : Int) + 1)) + (x : Int)) = ((y * (w + 1) + x : Nat) : Int) := by
 have h : y * (w + 1) ≤ 40 * 41:=mulle hy (by omega)
 rw [mulw y w hy hw,wrap_in (by omega) (by omega)];omega
theorem sucw (n : Nat) (h : n ≤ 100000) : wrap64 ((n : Int) + 1) = ((n + 1 : Nat) : Int) := by rw [wrap_in (by omega) (by omega)]; omega

section
variable {w h : Nat} {C : List Int}
open Classical in
theorem land_scan (hw : w ≤ 32) (hh : h ≤ 32) (hl : C.length = (w + 1) * (h + 1)) (hz : Zs C) : Ev (fun k => land_Validate.l1 k 0 (w : Int) (h : Int) C) (if (∀ y, 0 ≤ y → y < h + 1 → ∀ x, 0 ≤ x → x < w + 1 → PQ C w h y x) then 0 else 5) := by
 have zr : ∀ j,j < C.length → 0 ≤ C.getD j 0 ∧ C.getD j 0 ≤ 15:=fun j hj => hz j (Nat.zero_le _) hj
 have len : ∀ y x,y ≤ h → x ≤ w → y * (w + 1) + x < C.length:=by
  intro y x hy hx
  have:=mulle hy (Nat.le_refl (w + 1))
  have e : (w + 1) * (h + 1) = h * (w + 1) + (w + 1):=by rw [Nat.mul_comm,Nat.succ_mul]
  omega
 have good : ∀ y,y ≤ h → ∀ x,x < w + 1 → PQ C w h y x → ∀ r,Ev (fun k => land_Validate.l2 k (y : Int) ((x : Int) + 1) (w : Int) (h : Int) C) r → Ev (fun k => land_Validate.l2 k (y : Int) (x : Int) (w : Int) (h : Int) C) r:=by
  intro y hy x hx ⟨p1,p2⟩ r hr
  have hlen:=len y x hy (by omega)
  refine Ev.step (fun k => by simp only [land_Validate.l2];rfl) ?_
  simp only [idxw y w x (by omega) (by omega) (by omega),sucw y (by omega),idxw (y + 1) w x (by omega) (by omega) (by omega),sucw x (by omega)]
  have hb : y * (w + 1) + x ≤ 100000:=by have:=mulle (show y ≤ 40 by omega) (show w + 1 ≤ 40 by omega);omega
  simp only [sucw (y * (w + 1) + x) hb,rdN]
  have hr' : Ev (fun k => land_Validate.l2 k (y : Int) ((x + 1 : Nat) : Int) (w : Int) (h : Int) C) r:=by simpa using hr
  refine Ev.pos (by omega) (Ev.pos (by omega) (Ev.pos (by omega) ?_))
  by_cases hxw : x < w
  ·have hl2:=len y (x + 1) hy (by omega)
   refine Ev.pos (by omega) (Ev.pos (by omega) (Ev.pos (by omega) ?_))
   refine Ev.bindc (apart_eq (zr _ hlen) (zr _ (by omega))) (Ev.neg (by rw [decide_eq_true_eq];exact fun hc => hc (p1 hxw)) ?_)
   by_cases hyh : y < h
   ·have hl3:=len (y + 1) x (by omega) (by omega)
    exact Ev.pos (by omega) (Ev.pos (by omega) (Ev.pos (by omega) (Ev.bindc (apart_eq (zr _ hlen) (zr _ hl3)) (Ev.neg (by rw [decide_eq_true_eq];exact fun hc => hc (p2 hyh)) hr'))))
   ·exact Ev.neg (by omega) hr'
  ·refine Ev.neg (by omega) ?_
   by_cases hyh : y < h
   ·have hl3:=len (y + 1) x (by omega) (by omega)
    exact Ev.pos (by omega) (Ev.pos (by omega) (Ev.pos (by omega) (Ev.bindc (apart_eq (zr _ hlen) (zr _ hl3)) (Ev.neg (by rw [decide_eq_true_eq];exact fun hc => hc (p2 hyh)) hr'))))
   ·exact Ev.neg (by omega) hr'
 have bad : ∀ y,y ≤ h → ∀ x,x < w + 1 → ¬ PQ C w h y x → Ev (fun k => land_Validate.l2 k (y : Int) (x : Int) (w : Int) (h : Int) C) 5:=by
  intro y hy x hx hp
  have hlen:=len y x hy (by omega)
  refine Ev.step (fun k => by simp only [land_Validate.l2];rfl) ?_
  simp only [idxw y w x (by omega) (by omega) (by omega),sucw y (by omega),idxw (y + 1) w x (by omega) (by omega) (by omega),sucw x (by omega)]
  have hb : y * (w + 1) + x ≤ 100000:=by have:=mulle (show y ≤ 40 by omega) (show w + 1 ≤ 40 by omega);omega
  simp only [sucw (y * (w + 1) + x) hb,rdN]
  refine Ev.pos (by omega) (Ev.pos (by omega) (Ev.pos (by omega) ?_))
  have dn : ¬ (y < h → near (z C (y * (w + 1) + x)) (z C ((y + 1) * (w + 1) + x))) → ∀ {r : Nat → Option Int},Ev (fun k => if (y : Int) < (h : Int) then (if 0 ≤ (((y + 1) * (w + 1) + x : Nat) : Int) then (if (((y + 1) * (w + 1) + x : Nat) : Int) < (C.length : Int) then ((land_apart.f (C.getD (y * (w + 1) + x) 0) (C.getD ((y + 1) * (w + 1) + x) 0)).bind fun t => if t = true then some 5 else r k) else none) else none) else r k) 5:=by
   intro hc r
   have hyh : y < h:=Classical.byContradiction fun hn => hc fun h1 => absurd h1 hn
   have hl3:=len (y + 1) x (by omega) (by omega)
   exact Ev.pos (by omega) (Ev.pos (by omega) (Ev.pos (by omega) (Ev.bindc (apart_eq (zr _ hlen) (zr _ hl3)) (Ev.pos (by rw [decide_eq_true_eq];exact fun hn => hc fun _ => hn) (Ev.now _)))))
  by_cases hxw : x < w
  ·have hl2:=len y (x + 1) hy (by omega)
   refine Ev.pos (by omega) (Ev.pos (by omega) (Ev.pos (by omega) ?_))
   refine Ev.bindc (apart_eq (zr _ hlen) (zr _ (by omega))) ?_
   by_cases hn : near (C.getD (y * (w + 1) + x) 0) (C.getD (y * (w + 1) + x + 1) 0)
   ·refine Ev.neg (by rw [decide_eq_true_eq];exact fun hc => hc hn) (dn fun hc => hp ⟨fun _ => hn,hc⟩)
   ·exact Ev.pos (by rw [decide_eq_true_eq];exact hn) (Ev.now _)
  ·exact Ev.neg (by omega) (dn fun hc => hp ⟨fun h1 => absurd h1 hxw,hc⟩)
 have rowend : ∀ y,y ≤ h → ∀ r,Ev (fun k => land_Validate.l1 k ((y : Int) + 1) (w : Int) (h : Int) C) r → Ev (fun k => land_Validate.l2 k (y : Int) ((w + 1 : Nat) : Int) (w : Int) (h : Int) C) r:=by
  intro y hy r hr
  refine Ev.step (fun k => by simp only [land_Validate.l2];rfl) ?_
  rw [sucw y (by omega)]
  exact Ev.neg (by omega) (by simpa using hr)
 have rowgood : ∀ y,y < h + 1 → (∀ x,0 ≤ x → x < w + 1 → PQ C w h y x) → ∀ r,Ev (fun k => land_Validate.l1 k ((y : Int) + 1) (w : Int) (h : Int) C) r → Ev (fun k => land_Validate.l1 k (y : Int) (w : Int) (h : Int) C) r:=by
  intro y hy hp r hr
  refine Ev.step (fun k => by simp only [land_Validate.l1];rfl) (Ev.pos (by omega) ?_)
  exact Ev.scan_all (g:=fun k i => land_Validate.l2 k (y : Int) i (w : Int) (h : Int) C) (rowend y (by omega) r hr) (good y (by omega)) (w + 1) 0 (by omega) hp
 have rowbad : ∀ y,y < h + 1 → ¬ (∀ x,0 ≤ x → x < w + 1 → PQ C w h y x) → Ev (fun k => land_Validate.l1 k (y : Int) (w : Int) (h : Int) C) 5:=by
  intro y hy hp
  refine Ev.step (fun k => by simp only [land_Validate.l1];rfl) (Ev.pos (by omega) ?_)
  exact Ev.scan_some (g:=fun k i => land_Validate.l2 k (y : Int) i (w : Int) (h : Int) C) (good y (by omega)) (bad y (by omega)) (w + 1) 0 (by omega) (not_all hp)
 have fin : Ev (fun k => land_Validate.l1 k ((h + 1 : Nat) : Int) (w : Int) (h : Int) C) 0:=Ev.step (fun k => by simp only [land_Validate.l1];rfl) (Ev.neg (by omega) (Ev.now _))
 by_cases g : ∀ y,0 ≤ y → y < h + 1 → ∀ x,0 ≤ x → x < w + 1 → PQ C w h y x
 ·rw [if_pos g]
  exact Ev.scan_all (g:=fun k i => land_Validate.l1 k i (w : Int) (h : Int) C) (p:=fun y => ∀ x,0 ≤ x → x < w + 1 → PQ C w h y x) fin rowgood (h + 1) 0 (by omega) g
 ·rw [if_neg g]
  exact Ev.scan_some (g:=fun k i => land_Validate.l1 k i (w : Int) (h : Int) C) (p:=fun y => ∀ x,0 ≤ x → x < w + 1 → PQ C w h y x) rowgood rowbad (h + 1) 0 (by omega) (not_all g)
end
theorem area_nat {n w h : Nat} (e : (n : Int) = ((w : Int) + 1) * ((h : Int) + 1)) : n = (w + 1) * (h + 1) := by
 have h2 : (w : Int) + 1 = ((w + 1 : Nat) : Int):=by omega
 have h3 : (h : Int) + 1 = ((h + 1 : Nat) : Int):=by omega
 rw [h2,h3,← Int.natCast_mul] at e
 omega
theorem flat_iff {w h : Nat} {C : List Int} : Flat C w h ↔ ∀ y, 0 ≤ y → y < h + 1 → ∀ x, 0 ≤ x → x < w + 1 → PQ C w h y x :=
 ⟨fun f y _ hy x _ hx => f y (by omega) x (by omega),fun f y hy x hx => f y (Nat.zero_le _) (by omega) x (Nat.zero_le _) (by omega)⟩
theorem land_ev {W H : Int} {C : List Int} (hl : C.length ≤ 4000) : Ev (fun k => land_Validate.f k W H C) (lcode W H C) := by
 unfold land_Validate.f
 have bad : ¬ LShape W H C → ∀ q,q = true → Ev (fun k => land_Validate.j0 k q W H C) (lcode W H C):=by
  intro h q hq
  refine Ev.eq (Ev.step (fun k => by simp only [land_Validate.j0];rfl) (Ev.pos hq (Ev.now _))) (if_neg h).symm
 by_cases w0 : W < 4
 ·exact Ev.pos w0 (bad (fun h => by have:=h.1;omega) _ rfl)
 refine Ev.neg w0 ?_
 by_cases w1 : W > 32
 ·exact Ev.pos w1 (bad (fun h => by have:=h.1;omega) _ rfl)
 refine Ev.neg w1 ?_
 by_cases h0 : H < 4
 ·exact Ev.pos h0 (bad (fun h => by have:=h.2.1;omega) _ rfl)
 refine Ev.neg h0 ?_
 by_cases h1 : H > 32
 ·exact Ev.pos h1 (bad (fun h => by have:=h.2.1;omega) _ rfl)
 refine Ev.neg h1 ?_
 obtain ⟨w,rfl⟩:=Int.eq_ofNat_of_zero_le (show 0 ≤ W by omega)
 obtain ⟨h,rfl⟩:=Int.eq_ofNat_of_zero_le (show 0 ≤ H by omega)
 have hm : (w + 1) * (h + 1) ≤ 40 * 40:=mulle (by omega) (by omega)
 have e : wrap64 (wrap64 ((w : Int) + 1) * wrap64 ((h : Int) + 1)) = (((w + 1) * (h + 1) : Nat) : Int):=by
  rw [sucw w (by omega),sucw h (by omega),← Int.natCast_mul,wrap_in (by omega) (by omega)]
 rw [e]
 by_cases l1 : C.length = (w + 1) * (h + 1)
 rotate_left
 ·exact bad (fun hs => l1 (area_nat hs.2.2)) _ (bne_iff_ne.2 (by omega))
 have hs : LShape (w : Int) (h : Int) C:=⟨⟨by omega,by omega⟩,⟨by omega,by omega⟩,by rw [l1];push_cast;rfl⟩
 rw [show ((C.length : Int) != (((w + 1) * (h + 1) : Nat) : Int)) = false from bne_eq_false_iff_eq.2 (by omega)]
 refine Ev.eq ?_ (if_pos hs).symm
 refine Ev.step (fun k => by simp only [land_Validate.j0];rfl) (Ev.neg (by simp) ?_)
 have good1 : ∀ i,i < C.length → ZAt C i → ∀ r,Ev (fun k => land_Validate.l0 k C (C.length : Int) ((i : Int) + 1) (w : Int) (h : Int) C) r → Ev (fun k => land_Validate.l0 k C (C.length : Int) (i : Int) (w : Int) (h : Int) C) r:=by
  intro i hi p r hr
  unfold ZAt z at p
  refine Ev.step (fun k => by simp only [land_Validate.l0];rfl) ?_
  rw [rdN,wrap_in (x:=(i : Int) + 1) (by omega) (by omega)]
  exact Ev.pos (by omega) (Ev.pos (by omega) (Ev.pos (by omega) (Ev.neg (by omega) (Ev.neg (by omega) hr))))
 have bad1 : ∀ i,i < C.length → ¬ ZAt C i → Ev (fun k => land_Validate.l0 k C (C.length : Int) (i : Int) (w : Int) (h : Int) C) 1:=by
  intro i hi p
  unfold ZAt z at p
  refine Ev.step (fun k => by simp only [land_Validate.l0];rfl) ?_
  rw [rdN]
  refine Ev.pos (by omega) (Ev.pos (by omega) (Ev.pos (by omega) ?_))
  by_cases q1 : C.getD i 0 < 0
  ·exact Ev.pos q1 (Ev.now _)
  exact Ev.neg q1 (Ev.pos (by omega) (Ev.now _))
 by_cases g1 : Zs C
 ·refine Ev.eq ?_ (if_pos g1).symm
  have fin:=land_scan (w:=w) (h:=h) (by omega) (by omega) l1 g1
  refine Ev.scan_all (g:=fun k i => land_Validate.l0 k C (C.length : Int) i (w : Int) (h : Int) C) (Ev.step (fun k => by simp only [land_Validate.l0];rfl) (Ev.neg (by omega) ?_)) good1 C.length 0 (by omega) g1
  simp only [Int.toNat_natCast]
  by_cases g2 : Flat C w h
  ·rw [if_pos (flat_iff.1 g2)] at fin;rw [if_pos g2];exact fin
  ·rw [if_neg (fun hc => g2 (flat_iff.2 hc))] at fin;rw [if_neg g2];exact fin
 ·exact Ev.eq (Ev.scan_some (g:=fun k i => land_Validate.l0 k C (C.length : Int) i (w : Int) (h : Int) C) good1 bad1 C.length 0 (by omega) (not_all g1)) (if_neg g1).symm
def co (w t : Nat) : Nat := t / w * (w + 1) + t % w
def lo4 (a b c d : Int) : Int := mn (mn (mn a b) c) d
def hi4 (a b c d : Int) : Int := mx (mx (mx a b) c) d
def stp (s a x i : Int) : Int := if x > a then (if x > a + 1 then Go.bits .or .i64 (Go.bits .or .i64 s (shl .i64 1 i)) 16 else Go.bits .or .i64 s (shl .i64 1 i)) else (if x > a + 1 then Go.bits .or .i64 s 16 else s)
def slp (a z0 z1 z2 z3 : Int) : Int := stp (stp (stp (stp 0 a z0 0) a z1 1) a z2 2) a z3 3
def bit (b : Bool) (v : Int) : Int := if b then v else 0
def stB (s : Int) (b d : Bool) (i : Int) : Int := if b then (if d then Go.bits .or .i64 (Go.bits .or .i64 s (shl .i64 1 i)) 16 else Go.bits .or .i64 s (shl .i64 1 i)) else (if d then Go.bits .or .i64 s 16 else s)
theorem stp_B (s a x i : Int) : stp s a x i = stB s (decide (x > a)) (decide (x > a + 1)) i := by
 unfold stp stB
 by_cases h1 : x > a <;> by_cases h2 : x > a + 1 <;> simp [h1,h2]
theorem slB : ∀ b0 d0 b1 d1 b2 d2 b3 d3 : Bool, stB (stB (stB (stB 0 b0 d0 0) b1 d1 1) b2 d2 2) b3 d3 3 = bit b0 1 + bit b1 2 + bit b2 4 + bit b3 8 + bit (d0 || d1 || d2 || d3) 16 := by decide +kernel
theorem slp_eq (a z0 z1 z2 z3 : Int) : slp a z0 z1 z2 z3 = bit (decide (z0 > a)) 1 + bit (decide (z1 > a)) 2 + bit (decide (z2 > a)) 4 + bit (decide (z3 > a)) 8 + bit (decide (z0 > a + 1) || decide (z1 > a + 1) || decide (z2 > a + 1) || decide (z3 > a + 1)) 16 := by
 unfold slp
 rw [stp_B,stp_B,stp_B,stp_B,slB]
theorem bit_le (b : Bool) (v : Int) (h : 0 ≤ v) : 0 ≤ bit b v ∧ bit b v ≤ v := by cases b <;> simp [bit] <;> omega
theorem lo4_le (a b c d : Int) : lo4 a b c d ≤ a ∧ lo4 a b c d ≤ b ∧ lo4 a b c d ≤ c ∧ lo4 a b c d ≤ d ∧ (lo4 a b c d = a ∨ lo4 a b c d = b ∨ lo4 a b c d = c ∨ lo4 a b c d = d) := by
 unfold lo4 mn;repeat' split
 all_goals omega
theorem hi4_ge (a b c d : Int) : a ≤ hi4 a b c d ∧ b ≤ hi4 a b c d ∧ c ≤ hi4 a b c d ∧ d ≤ hi4 a b c d ∧ (hi4 a b c d = a ∨ hi4 a b c d = b ∨ hi4 a b c d = c ∨ hi4 a b c d = d) := by
 unfold hi4 mx;repeat' split
 all_goals omega

section
variable (w : Nat) (C : List Int) (t : Nat)
def zk (k : Nat) : Int := match k with | 0 => z C (co w t) | 1 => z C (co w t + 1) | 2 => z C (co w t + w + 2) | _ => z C (co w t + w + 1)
def base (w : Nat) (C : List Int) (t : Nat) : Int := lo4 (zk w C t 0) (zk w C t 1) (zk w C t 2) (zk w C t 3)
def top (w : Nat) (C : List Int) (t : Nat) : Int := hi4 (zk w C t 0) (zk w C t 1) (zk w C t 2) (zk w C t 3)
def slope (w : Nat) (C : List Int) (t : Nat) : Int := slp (base w C t) (zk w C t 0) (zk w C t 1) (zk w C t 2) (zk w C t 3)
def sea (w : Nat) (C : List Int) (t : Nat) : Bool := decide (top w C t ≤ 2)
end

structure Land (w h : Nat) (C : List Int) : Prop where
 w0 : 4 ≤ w
 w1 : w ≤ 32
 h0 : 4 ≤ h
 h1 : h ≤ 32
 len : C.length = (w + 1) * (h + 1)
 zs : Zs C
 flat : Flat C w h
theorem land_of {W H : Int} {C : List Int} (e : lcode W H C = 0) : ∃ w h : Nat, W = (w : Int) ∧ H = (h : Int) ∧ Land w h C := by
 obtain ⟨⟨hW,hH,hl⟩,hz,hf⟩:=lcode_zero.1 e
 obtain ⟨w,rfl⟩:=Int.eq_ofNat_of_zero_le (show 0 ≤ W by omega)
 obtain ⟨h,rfl⟩:=Int.eq_ofNat_of_zero_le (show 0 ≤ H by omega)
 exact ⟨w,h,rfl,rfl,by omega,by omega,by omega,by omega,area_nat hl,hz,by simpa using hf⟩
theorem of_land {w h : Nat} {C : List Int} (L : Land w h C) : lcode (w : Int) (h : Int) C = 0 := by
 have:=L.w0
 have:=L.w1
 have:=L.h0
 have:=L.h1
 exact lcode_zero.2 ⟨⟨⟨by omega,by omega⟩,⟨by omega,by omega⟩,by rw [L.len];push_cast;rfl⟩,L.zs,by simpa using L.flat⟩

section
variable {w h : Nat} {C : List Int}
theorem tile {t : Nat} (ht : t < w * h) : t / w < h ∧ t % w < w ∧ t / w * w + t % w = t := by
 have hw : 0 < w:=by
  rcases Nat.eq_zero_or_pos w with rfl | hp
  ·simp at ht
  ·exact hp
 exact ⟨by rw [Nat.div_lt_iff_lt_mul hw,Nat.mul_comm];exact ht,Nat.mod_lt _ hw,by rw [Nat.mul_comm];exact Nat.div_add_mod t w⟩
theorem co_lt (L : Land w h C) {t : Nat} (ht : t < w * h) : co w t + w + 2 < C.length ∧ co w t + w + 2 ≤ 2000 := by
 obtain ⟨h1,h2,_⟩:=tile ht
 have:=L.w1
 have:=L.h1
 have e : (w + 1) * (h + 1) = h * (w + 1) + (w + 1):=by rw [Nat.mul_comm,Nat.succ_mul]
 have h3:=Nat.mul_le_mul_right (w + 1) (show t / w + 1 ≤ h by omega)
 rw [Nat.succ_mul] at h3
 have h4 : h * (w + 1) ≤ 32 * 33:=mulle L.h1 (by omega)
 rw [L.len,e]
 unfold co
 omega
theorem zk_in (L : Land w h C) {t : Nat} (ht : t < w * h) (k : Nat) : 0 ≤ zk w C t k ∧ zk w C t k ≤ 15 := by
 have hc:=co_lt L ht
 match k with
 | 0 => exact L.zs _ (Nat.zero_le _) (by omega)
 | 1 => exact L.zs _ (Nat.zero_le _) (by omega)
 | 2 => exact L.zs _ (Nat.zero_le _) (by omega)
 | k + 3 => exact L.zs _ (Nat.zero_le _) (by omega)
theorem zk_near (L : Land w h C) {t : Nat} (ht : t < w * h) : near (zk w C t 0) (zk w C t 1) ∧ near (zk w C t 0) (zk w C t 3) ∧ near (zk w C t 1) (zk w C t 2) ∧ near (zk w C t 3) (zk w C t 2) := by
 obtain ⟨h1,h2,_⟩:=tile ht
 have e : (t / w + 1) * (w + 1) = t / w * (w + 1) + (w + 1):=Nat.succ_mul _ _
 have p:=L.flat (t / w) (by omega) (t % w) (by omega)
 have q:=L.flat (t / w) (by omega) (t % w + 1) (by omega)
 have s:=L.flat (t / w + 1) (by omega) (t % w) (by omega)
 refine ⟨p.1 h2,?_,?_,?_⟩
 ·have:=p.2 h1
  rw [e,show t / w * (w + 1) + (w + 1) + t % w = t / w * (w + 1) + t % w + w + 1 by omega] at this
  exact this
 ·have:=q.2 h1
  rw [e,show t / w * (w + 1) + (w + 1) + (t % w + 1) = t / w * (w + 1) + t % w + w + 2 by omega,← Nat.add_assoc] at this
  exact this
 ·have:=s.1 h2
  rw [e,show t / w * (w + 1) + (w + 1) + t % w = t / w * (w + 1) + t % w + w + 1 by omega] at this
  exact this
theorem base_in (L : Land w h C) {t : Nat} (ht : t < w * h) : 0 ≤ base w C t ∧ base w C t ≤ 15 := by
 have h0:=zk_in L ht 0
 have h1:=zk_in L ht 1
 have h2:=zk_in L ht 2
 have h3:=zk_in L ht 3
 have:=lo4_le (zk w C t 0) (zk w C t 1) (zk w C t 2) (zk w C t 3)
 unfold base
 omega
theorem top_in (L : Land w h C) {t : Nat} (ht : t < w * h) : base w C t ≤ top w C t ∧ top w C t ≤ base w C t + 2 ∧ top w C t ≤ 15 := by
 have h0:=zk_in L ht 0
 have h1:=zk_in L ht 1
 have h2:=zk_in L ht 2
 have h3:=zk_in L ht 3
 obtain ⟨n1,n2,n3,n4⟩:=zk_near L ht
 unfold near at n1 n2 n3 n4
 have:=lo4_le (zk w C t 0) (zk w C t 1) (zk w C t 2) (zk w C t 3)
 have:=hi4_ge (zk w C t 0) (zk w C t 1) (zk w C t 2) (zk w C t 3)
 unfold base top
 omega
theorem slope_in (t : Nat) : 0 ≤ slope w C t ∧ slope w C t ≤ 31 := by
 unfold slope
 rw [slp_eq]
 have:=bit_le (decide (zk w C t 0 > base w C t)) 1 (by decide)
 have:=bit_le (decide (zk w C t 1 > base w C t)) 2 (by decide)
 have:=bit_le (decide (zk w C t 2 > base w C t)) 4 (by decide)
 have:=bit_le (decide (zk w C t 3 > base w C t)) 8 (by decide)
 have:=bit_le (decide (zk w C t 0 > base w C t + 1) || decide (zk w C t 1 > base w C t + 1) || decide (zk w C t 2 > base w C t + 1) || decide (zk w C t 3 > base w C t + 1)) 16 (by decide)
 omega
def gS (w h : Nat) (C : List Int) : List Int := (List.range (w * h)).map (slope w C)
def gB (w h : Nat) (C : List Int) : List Int := (List.range (w * h)).map (base w C)
def gE (w h : Nat) (C : List Int) : List Bool := (List.range (w * h)).map (sea w C)
theorem g_len : (gS w h C).length = w * h ∧ (gB w h C).length = w * h ∧ (gE w h C).length = w * h := by simp [gS, gB, gE]
theorem gS_at {t : Nat} (ht : t < w * h) : (gS w h C).getD t 0 = slope w C t := by simp [gS, ht]
theorem gB_at {t : Nat} (ht : t < w * h) : (gB w h C).getD t 0 = base w C t := by simp [gB, ht]
theorem gE_at {t : Nat} (ht : t < w * h) : (gE w h C).getD t false = sea w C t := by simp [gE, ht]

theorem idx_t (L : Land w h C) {t : Nat} (ht : t < w * h) : wrap64 (wrap64 (wrap64 (Int.tdiv (t : Int) (w : Int)) * wrap64 ((w : Int) + 1)) + Int.tmod (t : Int) (w : Int)) = ((co w t : Nat) : Int) := by
 obtain ⟨h1,h2,_⟩:=tile ht
 have:=L.w1
 have:=L.h1
 have e1 : Int.tdiv (t : Int) (w : Int) = ((t / w : Nat) : Int):=rfl
 have e2 : Int.tmod (t : Int) (w : Int) = ((t % w : Nat) : Int):=rfl
 rw [e1,e2]
 unfold co
 clear e1 e2
 generalize t / w = y at h1 ⊢
 generalize t % w = x at h2 ⊢
 rw [wrap_in (x:=((y : Nat) : Int)) (by omega) (by omega),idxw _ _ _ (by omega) (by omega) (by omega)]
theorem idx_2 (n w : Nat) (hn : n ≤ 2000) (hw : w ≤ 40) : wrap64 (wrap64 ((n : Int) + (w : Int)) + 2) = ((n + w + 2 : Nat) : Int) ∧ wrap64 (wrap64 ((n : Int) + (w : Int)) + 1) = ((n + w + 1 : Nat) : Int) := by
 rw [wrap_in (x:=(n : Int) + (w : Int)) (by omega) (by omega),wrap_in (by omega) (by omega),wrap_in (by omega) (by omega)]
 omega

theorem fold1 {a s n t : Int} {q : S71} {W H : Int} {Cc : List Int} {gw gh : Int} {g2 g3 : List Int} {g4 : List Bool} {p0 p1 p2 p3 : Int} {r : Int × Int × List Int × List Int × List Bool × Int} (ha : 0 ≤ a ∧ a ≤ 15) (i : Int) (hi : 0 ≤ i ∧ i < 4)
  (k : Ev (fun k => water_groundOf.l1 k a (stp s a (ix71 q i) i) n t q (i + 1) W H Cc gw gh g2 g3 g4 p0 p1 p2 p3) r) : Ev (fun k => water_groundOf.l1 k a s n t q i W H Cc gw gh g2 g3 g4 p0 p1 p2 p3) r:=by
 refine Ev.step (fun k => by simp only [water_groundOf.l1];rfl) (Ev.pos hi.2 (Ev.pos hi.1 ?_))
 rw [wrap_in (x:=a + 1) (by omega) (by omega),wrap_in (x:=i + 1) (by omega) (by omega)]
 unfold stp at k
 by_cases h1 : ix71 q i > a
 ·rw [if_pos h1] at k
  by_cases h2 : ix71 q i > a + 1
  ·rw [if_pos h2] at k;exact Ev.pos h1 (Ev.pos h2 k)
  ·rw [if_neg h2] at k;exact Ev.pos h1 (Ev.neg h2 k)
 ·rw [if_neg h1] at k
  by_cases h2 : ix71 q i > a + 1
  ·rw [if_pos h2] at k;exact Ev.neg h1 (Ev.pos h2 k)
  ·rw [if_neg h2] at k;exact Ev.neg h1 (Ev.neg h2 k)
theorem ground_scan (L : Land w h C) : ∀ d t, t + d = w * h → Ev (fun k => water_groundOf.l0 k ((w * h : Nat) : Int) (t : Int) (w : Int) (h : Int) C (w : Int) (h : Int) ((List.range t).map (slope w C)) ((List.range t).map (base w C)) ((List.range t).map (sea w C))) ((w : Int), (h : Int), gS w h C, gB w h C, gE w h C, 0)
 | 0,t,e => by
  obtain rfl : t = w * h:=by omega
  exact Ev.step (fun k => by simp only [water_groundOf.l0];rfl) (Ev.neg (by omega) (Ev.now _))
 | d + 1,t,e => by
  have ih:=ground_scan L d (t + 1) (by omega)
  have ht : t < w * h:=by omega
  have hc:=co_lt L ht
  have:=L.w0
  have hb:=base_in L ht
  have hwh : w * h ≤ 32 * 32:=mulle L.w1 L.h1
  refine Ev.step (fun k => by simp only [water_groundOf.l0];rfl) (Ev.pos (by omega) (Ev.neg (by omega) ?_))
  simp only [idx_t L ht,(idx_2 (co w t) w (by omega) (by have:=L.w1;omega)).1,(idx_2 (co w t) w (by omega) (by have:=L.w1;omega)).2,sucw (co w t) (by omega),sucw t (by omega),rdN]
  refine Ev.pos (by omega) (Ev.pos (by omega) (Ev.pos (by omega) (Ev.pos (by omega) (Ev.pos (by omega) (Ev.pos (by omega) (Ev.pos (by omega) (Ev.pos (by omega) ?_)))))))
  change Ev (fun k => water_groundOf.l1 k (base w C t) 0 ((w * h : Nat) : Int) (t : Int) (⟨zk w C t 0,zk w C t 1,zk w C t 2,zk w C t 3⟩ : S71) 0 (w : Int) (h : Int) C (w : Int) (h : Int) ((List.range t).map (slope w C)) ((List.range t).map (base w C)) ((List.range t).map (sea w C)) (zk w C t 0) (zk w C t 1) (zk w C t 2) (zk w C t 3)) _
  refine fold1 hb 0 (by decide) (fold1 hb 1 (by decide) (fold1 hb 2 (by decide) (fold1 hb 3 (by decide) ?_)))
  change Ev (fun k => water_groundOf.l1 k (base w C t) (slope w C t) ((w * h : Nat) : Int) (t : Int) (⟨zk w C t 0,zk w C t 1,zk w C t 2,zk w C t 3⟩ : S71) 4 (w : Int) (h : Int) C (w : Int) (h : Int) ((List.range t).map (slope w C)) ((List.range t).map (base w C)) ((List.range t).map (sea w C)) (zk w C t 0) (zk w C t 1) (zk w C t 2) (zk w C t 3)) _
  refine Ev.step (fun k => by simp only [water_groundOf.l1];rfl) (Ev.neg (by decide) (Ev.bindc rfl (Ev.pos ?_ (Ev.bindc rfl (Ev.pos ?_ (Ev.bindc rfl (Ev.pos ?_ ?_)))))))
  ·simp;omega
  ·simp;omega
  ·simp;omega
  rw [sucw t (by omega)]
  have e1 : ∀ {α : Type} (f : Nat → α),(List.range (t + 1)).map f = (List.range t).map f ++ [f t]:=fun f => by rw [List.range_succ,List.map_append];rfl
  rw [e1,e1,e1] at ih
  exact ih
end
open Classical in
theorem ground_ev {W H : Int} {C : List Int} (hl : C.length ≤ 4000) : Ev (fun k => water_groundOf.f k W H C) (if lcode W H C = 0 then (W, H, gS W.toNat H.toNat C, gB W.toNat H.toNat C, gE W.toNat H.toNat C, 0) else (0, 0, [], [], [], lcode W H C)) := by
 unfold water_groundOf.f
 refine Ev.bind (land_ev hl) ?_
 by_cases e : lcode W H C = 0
 ·rw [if_pos e]
  refine Ev.pos e ?_
  obtain ⟨w,h,rfl,rfl,L⟩:=land_of e
  have hwh : w * h ≤ 32 * 32:=mulle L.w1 L.h1
  rw [← Int.natCast_mul,wrap_in (by omega) (by omega)]
  exact ground_scan L (w * h) 0 (by omega)
 ·rw [if_neg e]
  exact Ev.neg e (Ev.now _)
def inc (s : Int) : Prop := s = 3 ∨ s = 6 ∨ s = 9 ∨ s = 12
instance (s : Int) : Decidable (inc s) := inferInstanceAs (Decidable (_ ∨ _))
def lie (e : Bool) (s k : Int) : Int := if k = 1 then (if e then 9 else if s = 0 then 0 else 5) else if k = 2 then (if e then 9 else if inc s then 0 else 5) else if k = 3 then (if e then 0 else if s = 0 then 0 else 9) else 0
theorem incline_eq (s : Int) : water_incline.f s = some (decide (inc s)) := by
 unfold water_incline.f inc
 by_cases h1 : s = 3
 ·simp [h1]
 by_cases h2 : s = 6
 ·simp [h2]
 by_cases h3 : s = 9
 ·simp [h3]
 by_cases h4 : s = 12
 ·simp [h4]
 simp [h1,h2,h3,h4]
section
variable {w h : Nat} {C : List Int}
theorem may_ev {t : Nat} (ht : t < w * h) (k0 : Int) : Ev (fun k => water_ground_may.f k (w : Int) (h : Int) (gS w h C) (gB w h C) (gE w h C) (t : Int) k0) (lie (sea w C t) (slope w C t) k0) := by
 obtain ⟨l1,l2,l3⟩:=g_len (w:=w) (h:=h) (C:=C)
 have b1 : (0 : Int) ≤ (t : Int):=by omega
 have b2 : (t : Int) < ((gS w h C).length : Int):=by omega
 have b3 : (t : Int) < ((gE w h C).length : Int):=by omega
 have j2 : ∀ b : Bool,Ev (fun k => water_ground_may.j2 k (t : Int) k0 b (w : Int) (h : Int) (gS w h C) (gB w h C) (gE w h C)) (if b = true then 5 else if k0 = 2 then (if inc (slope w C t) then 0 else 5) else 0):=by
  intro b
  refine Ev.step (fun k => by simp only [water_ground_may.j2];rfl) (Ev.both (fun _ => Ev.now _) fun _ => ?_)
  by_cases h2 : k0 = 2
  ·refine Ev.eq (Ev.pos h2 (Ev.pos b1 (Ev.pos b2 ?_))) (if_pos h2).symm
   rw [rdN,gS_at ht]
   refine Ev.bindc (incline_eq _) ?_
   by_cases hi : inc (slope w C t)
   ·exact Ev.eq (Ev.pos (by simp [hi]) (Ev.now _)) (if_pos hi).symm
   ·exact Ev.eq (Ev.neg (by simp [hi]) (Ev.now _)) (if_neg hi).symm
  ·exact Ev.eq (Ev.neg h2 (Ev.now _)) (if_neg h2).symm
 have j1 : ∀ b : Bool,Ev (fun k => water_ground_may.j1 k (t : Int) k0 b (w : Int) (h : Int) (gS w h C) (gB w h C) (gE w h C)) (if b = true then 9 else if k0 = 1 then (if slope w C t = 0 then 0 else 5) else if k0 = 2 then (if inc (slope w C t) then 0 else 5) else 0):=by
  intro b
  refine Ev.step (fun k => by simp only [water_ground_may.j1];rfl) (Ev.both (fun _ => Ev.now _) fun _ => ?_)
  by_cases h1 : k0 = 1
  ·refine Ev.pos h1 (Ev.pos b1 (Ev.pos b2 (Ev.eq (j2 _) ?_)))
   rw [rdN,gS_at ht]
   by_cases hs : slope w C t = 0
   ·simp [hs,h1]
   ·simp [hs,h1]
  ·exact Ev.neg h1 (Ev.eq (j2 false) (by simp [h1]))
 unfold water_ground_may.f
 by_cases h1 : k0 = 1
 ·refine Ev.pos h1 (Ev.pos b1 (Ev.pos b3 ?_))
  rw [rdB,gE_at ht]
  refine Ev.step (fun k => by simp only [water_ground_may.j0];rfl) ?_
  cases he : sea w C t with
  | true => exact Ev.pos rfl (Ev.eq (j1 true) (by simp [lie,h1]))
  | false =>
   refine Ev.neg (by simp) (Ev.neg (by omega) (Ev.neg (by omega) (Ev.eq (j1 false) ?_)))
   simp [lie,h1]
 ·refine Ev.neg h1 (Ev.step (fun k => by simp only [water_ground_may.j0];rfl) (Ev.neg (by simp) ?_))
  by_cases h2 : k0 = 2
  ·refine Ev.pos h2 (Ev.pos b1 (Ev.pos b3 ?_))
   rw [rdB,gE_at ht]
   cases he : sea w C t with
   | true => exact Ev.pos rfl (Ev.eq (j1 true) (by simp [lie,h2]))
   | false => exact Ev.neg (by simp) (Ev.neg (by omega) (Ev.eq (j1 false) (by simp [lie,h2])))
  ·refine Ev.neg h2 ?_
   by_cases h3 : k0 = 3
   ·refine Ev.pos h3 (Ev.pos b1 (Ev.pos b3 ?_))
    rw [rdB,gE_at ht]
    cases he : sea w C t with
    | true => exact Ev.pos rfl (Ev.eq (j1 false) (by simp [lie,h3]))
    | false =>
     refine Ev.neg (by simp) (Ev.pos b2 (Ev.eq (j1 _) ?_))
     rw [rdN,gS_at ht]
     by_cases hs : slope w C t = 0
     ·simp [lie,h3,hs]
     ·simp [lie,h3,hs]
   ·refine Ev.neg h3 (Ev.eq (j1 false) ?_)
    simp [lie,h1,h2,h3]

end
end Go.Proofs.Ytiencnnkphipoaa.Pure
