/- What the functions of layer 6 (waters) come to, in plain words: which tiles are joined, with the errors, in the document. No conditions. -/
import Derived.Test.YtiencnnkphipoaaPx0
import Derived.Test.YtiencnnkphipoaaPx25
import Derived.Test.YtiencnnkphipoaaWaterM
namespace Go.Proofs.Ytiencnnkphipoaa.Pure
set_option linter.unusedVariables false
set_option linter.unusedSimpArgs false
open Go.RowKit Go.Proofs.YtiencnnkphipoaaW.PrintWords Go.Proofs.YtiencnnkphipoaaW.PrintMore Go.Proofs.Ytiencnnkphipoaa.P Go.Proofs.Ytiencnnkphipoaa

theorem place_ev {W H : Int} {C K B : List Int} {t : Int} (hC : C.length ≤ 4000) (hB : B.length ≤ 4000) : Ev (fun k => hinterlandref06_place.f k W H C K B t) (acode W H C K B t) := by
 unfold hinterlandref06_place.f
 refine Ev.bind (ref_validate_ev hC hB) ?_
 by_cases hw : wcode W H C K B = 0
 ·refine Ev.pos hw ?_
  have hw':=hw
  obtain ⟨w,h,rfl,rfl,U⟩:=waters_of hw
  have ac : acode (w : Int) (h : Int) C K B t = if 0 ≤ t ∧ t < ((w * h : Nat) : Int) then 0 else 2:=by unfold acode;rw [if_pos hw',← Int.natCast_mul]
  rw [ac]
  refine Ev.bindc (is_eq U.land t) ?_
  by_cases q : 0 ≤ t ∧ t < ((w * h : Nat) : Int)
  ·rw [if_pos q];exact Ev.pos (decide_eq_true q) (Ev.now _)
  ·rw [if_neg q];exact Ev.neg (fun hc => q (of_decide_eq_true hc)) (Ev.now _)
 ·have ac : acode W H C K B t = wcode W H C K B:=by unfold acode;rw [if_neg hw]
  rw [ac]
  exact Ev.neg hw (Ev.now _)
end Go.Proofs.Ytiencnnkphipoaa.Pure
