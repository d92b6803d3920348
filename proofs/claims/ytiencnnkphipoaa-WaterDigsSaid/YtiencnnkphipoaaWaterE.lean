/- What the functions of layer 6 (waters) come to, in plain words: digging, in the document. No conditions. -/
import Derived.Test.YtiencnnkphipoaaPx0
import Derived.Test.YtiencnnkphipoaaPx16
import Derived.Test.YtiencnnkphipoaaWaterD
import Derived.Test.YtiencnnkphipoaaWaterW
namespace Go.Proofs.Ytiencnnkphipoaa.Pure
set_option linter.unusedVariables false
set_option linter.unusedSimpArgs false
open Go.RowKit Go.Proofs.YtiencnnkphipoaaW.PrintWords Go.Proofs.YtiencnnkphipoaaW.PrintMore Go.Proofs.Ytiencnnkphipoaa.P Go.Proofs.Ytiencnnkphipoaa

theorem ref_dig_ev {W H : Int} {C K B : List Int} {t k0 : Int} (hC : C.length ≤ 4000) (hK : K.length ≤ 4000) (hB : B.length ≤ 4000) : Ev (fun k => hinterlandref06_Dig.f k W H C K B t k0) (digR W H C K B t k0) := by
 unfold hinterlandref06_Dig.f digR
 refine Ev.bind (ref_validate_ev hC hB) ?_
 by_cases hw : wcode W H C K B = 0
 rotate_left
 ·have ac : acode W H C K B t = wcode W H C K B:=by unfold acode;rw [if_neg hw]
  rw [ac,if_neg hw]
  exact Ev.neg hw (Ev.now _)
 refine Ev.pos hw ?_
 have hw':=hw
 obtain ⟨w,h,rfl,rfl,U⟩:=waters_of hw
 refine Ev.bindc (is_eq U.land t) ?_
 have ac : acode (w : Int) (h : Int) C K B t = if 0 ≤ t ∧ t < ((w * h : Nat) : Int) then 0 else 2:=by unfold acode;rw [if_pos hw',← Int.natCast_mul]
 by_cases q : 0 ≤ t ∧ t < ((w * h : Nat) : Int)
 rotate_left
 ·rw [ac,if_neg q,if_neg (by decide)]
  exact Ev.neg (fun hc => q (of_decide_eq_true hc)) (Ev.now _)
 rw [ac,if_pos q,if_pos rfl]
 refine Ev.pos (decide_eq_true q) ?_
 obtain ⟨n,rfl⟩:=Int.eq_ofNat_of_zero_le q.1
 have hn : n < w * h:=by omega
 simp only [Int.toNat_natCast,Int.ofNat_eq_natCast]
 have bad : ∀ q,q = true → Ev (fun k => hinterlandref06_Dig.j0 k (n : Int) k0 q (w : Int) (h : Int) C K B) ([],[],0,1):=fun q hq => Ev.step (fun k => by simp only [hinterlandref06_Dig.j0];rfl) (Ev.pos hq (Ev.now _))
 by_cases k1 : k0 < 1
 ·rw [if_neg (by omega)];exact Ev.pos k1 (bad _ rfl)
 refine Ev.neg k1 ?_
 by_cases k3 : k0 > 3
 ·rw [if_neg (by omega)];exact bad _ (decide_eq_true k3)
 rw [if_pos (by omega)]
 have hKl:=U.len
 refine Ev.step (fun k => by simp only [hinterlandref06_Dig.j0];rfl) (Ev.neg (by simp only [decide_eq_true_eq];exact k3) (Ev.pos (by omega) (Ev.pos (by omega) ?_)))
 rw [rdN]
 by_cases z0 : K.getD n 0 = 0
 rotate_left
 ·exact Ev.eq (Ev.neg z0 (Ev.now _)) (if_neg z0).symm
 refine Ev.eq (Ev.pos z0 ?_) (if_pos z0).symm
 refine Ev.bind (lies_ev U.land hn k0) ?_
 by_cases l0 : lie (sea w C n) (slope w C n) k0 = 0
 rotate_left
 ·exact Ev.eq (Ev.neg l0 (Ev.now _)) (if_neg l0).symm
 refine Ev.eq (Ev.pos l0 ?_) (if_pos l0).symm
 have we:=with_eq K B (by omega) (by omega) n (by omega) k0
 rcases (by omega : k0 = 1 ∨ k0 = 2 ∨ k0 = 3) with rfl | rfl | rfl
 ·exact Ev.neg (by decide) (Ev.neg (by decide) (Ev.bindc we (Ev.now _)))
 ·exact Ev.pos rfl (Ev.neg (by decide) (Ev.bindc we (Ev.now _)))
 ·exact Ev.neg (by decide) (Ev.pos rfl (Ev.bindc we (Ev.now _)))
end Go.Proofs.Ytiencnnkphipoaa.Pure
