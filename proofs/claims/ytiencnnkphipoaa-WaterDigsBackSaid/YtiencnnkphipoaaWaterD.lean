/- What the functions of layer 6 (waters) come to, in plain words: digging. No conditions. -/
import Derived.Test.YtiencnnkphipoaaPx0
import Derived.Test.YtiencnnkphipoaaPx14
import Derived.Test.YtiencnnkphipoaaWater6
namespace Go.Proofs.Ytiencnnkphipoaa.Pure
set_option linter.unusedVariables false
set_option linter.unusedSimpArgs false
open Go.RowKit Go.Proofs.YtiencnnkphipoaaW.PrintWords Go.Proofs.YtiencnnkphipoaaW.PrintMore Go.Proofs.Ytiencnnkphipoaa.P Go.Proofs.Ytiencnnkphipoaa

def costOf (k : Int) : Int := if k = 2 then 2000 else if k = 3 then 1000 else 500
noncomputable def digR (W H : Int) (C K B : List Int) (t k : Int) : List Int × List Int × Int × Int :=
 if acode W H C K B t = 0 then (if 1 ≤ k ∧ k ≤ 3 then (if K.getD t.toNat 0 = 0 then (if lie (sea W.toNat C t.toNat) (slope W.toNat C t.toNat) k = 0 then (K.set t.toNat k,B,costOf k,0) else ([],[],0,lie (sea W.toNat C t.toNat) (slope W.toNat C t.toNat) k)) else ([],[],0,7)) else ([],[],0,1)) else ([],[],0,acode W H C K B t)
theorem lie_code (e : Bool) (s k : Int) : lie e s k = 0 ∨ lie e s k = 5 ∨ lie e s k = 9 := by
 unfold lie
 repeat' split
 all_goals simp
theorem dig_ev {W H : Int} {C K B : List Int} {t k0 : Int} (hC : C.length ≤ 4000) (hK : K.length ≤ 4000) (hB : B.length ≤ 4000) : Ev (fun k => water_Dig.f k W H C K B t k0) (digR W H C K B t k0) := by
 unfold water_Dig.f digR
 refine Ev.bind (at_ev hC hB) ?_
 by_cases e : acode W H C K B t = 0
 rotate_left
 ·rw [if_neg e]
  by_cases l : lcode W H C = 0
  ·simp only [if_pos l];exact Ev.neg e (Ev.now _)
  ·simp only [if_neg l];exact Ev.neg e (Ev.now _)
 have e':=e
 obtain ⟨w,h,n,rfl,rfl,rfl,hn,U⟩:=acode_zero e
 rw [if_pos e']
 simp only [if_pos (of_land U.land),Int.toNat_natCast]
 refine Ev.pos e' ?_
 have bad : ∀ q,q = true → Ev (fun k => water_Dig.j0 k (n : Int) k0 q K B (w : Int) (h : Int) (gS w h C) (gB w h C) (gE w h C)) ([],[],0,1):=fun q hq => Ev.step (fun k => by simp only [water_Dig.j0];rfl) (Ev.pos hq (Ev.now _))
 by_cases k1 : k0 < 1
 ·rw [if_neg (by omega)];exact Ev.pos k1 (bad _ rfl)
 refine Ev.neg k1 ?_
 by_cases k3 : k0 > 3
 ·rw [if_neg (by omega)];exact bad _ (decide_eq_true k3)
 rw [if_pos (by omega)]
 have hKl:=U.len
 refine Ev.step (fun k => by simp only [water_Dig.j0];rfl) (Ev.neg (by simp only [decide_eq_true_eq];exact k3) (Ev.pos (by omega) (Ev.pos (by omega) ?_)))
 rw [rdN]
 by_cases z0 : K.getD n 0 = 0
 rotate_left
 ·exact Ev.eq (Ev.neg z0 (Ev.now _)) (if_neg z0).symm
 refine Ev.eq (Ev.pos z0 ?_) (if_pos z0).symm
 refine Ev.bind (may_ev hn k0) ?_
 by_cases l0 : lie (sea w C n) (slope w C n) k0 = 0
 rotate_left
 ·exact Ev.eq (Ev.neg l0 (Ev.now _)) (if_neg l0).symm
 refine Ev.eq (Ev.pos l0 ?_) (if_pos l0).symm
 refine Ev.bindc (clone_eq K B (by omega) (by omega)) (Ev.pos (by show (n : Int) < (K.length : Int);omega) (Ev.pos (by omega) (Ev.pos (by omega) (Ev.eq (Ev.now _) ?_))))
 simp only [Int.toNat_natCast]
 rcases (by omega : k0 = 1 ∨ k0 = 2 ∨ k0 = 3) with rfl | rfl | rfl
 ·exact congrArg (fun z => (K.set n 1,B,z,(0 : Int))) (by decide +kernel)
 ·exact congrArg (fun z => (K.set n 2,B,z,(0 : Int))) (by decide +kernel)
 ·exact congrArg (fun z => (K.set n 3,B,z,(0 : Int))) (by decide +kernel)
theorem dig_ok {W H : Int} {C K B : List Int} {t k0 : Int} (e : (digR W H C K B t k0).2.2.2 = 0) : ∃ w h n : Nat, W = (w : Int) ∧ H = (h : Int) ∧ t = (n : Int) ∧ n < w * h ∧ Waters w h C K B ∧ (1 ≤ k0 ∧ k0 ≤ 3) ∧ K.getD n 0 = 0 ∧ lie (sea w C n) (slope w C n) k0 = 0 ∧ digR W H C K B t k0 = (K.set n k0, B, costOf k0, 0) := by
 unfold digR at e ⊢
 by_cases ea : acode W H C K B t = 0
 rotate_left
 ·rw [if_neg ea] at e;exact absurd e ea
 rw [if_pos ea] at e ⊢
 obtain ⟨w,h,n,rfl,rfl,rfl,hn,U⟩:=acode_zero ea
 simp only [Int.toNat_natCast] at e ⊢
 by_cases k1 : 1 ≤ k0 ∧ k0 ≤ 3
 rotate_left
 ·rw [if_neg k1] at e;exact absurd e (by decide)
 rw [if_pos k1] at e ⊢
 by_cases z0 : K.getD n 0 = 0
 rotate_left
 ·rw [if_neg z0] at e;exact absurd e (by decide)
 rw [if_pos z0] at e ⊢
 by_cases l0 : lie (sea w C n) (slope w C n) k0 = 0
 rotate_left
 ·rw [if_neg l0] at e;exact absurd e l0
 exact ⟨w,h,n,rfl,rfl,rfl,hn,U,k1,z0,l0,by rw [if_pos l0]⟩
theorem dig_valid {W H : Int} {C K B : List Int} {t k0 : Int} (e : (digR W H C K B t k0).2.2.2 = 0) : wcode W H C (digR W H C K B t k0).1 (digR W H C K B t k0).2.1 = 0 := by
 obtain ⟨w,h,n,rfl,rfl,rfl,hn,U,k1,z0,l0,r⟩:=dig_ok e
 rw [r]
 exact of_waters (set_waters U hn (by omega) l0 (fun k => by omega))
theorem dig_len {W H : Int} {C K B : List Int} {t k0 : Int} (hK : K.length ≤ 4000) (hB : B.length ≤ 4000) : (digR W H C K B t k0).1.length ≤ 4000 ∧ (digR W H C K B t k0).2.1.length ≤ 4000 := by
 unfold digR
 repeat' split
 all_goals simp <;> omega
end Go.Proofs.Ytiencnnkphipoaa.Pure
