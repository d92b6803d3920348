/- Layer 6, WaterValidates (P6.1): the first error of waters. No conditions. -/
import Derived.Test.YtiencnnkphipoaaPSWaterValidates
import Derived.Test.YtiencnnkphipoaaWater4
namespace Go.Proofs.Ytiencnnkphipoaa.Pure
set_option linter.unusedVariables false
set_option linter.unusedSimpArgs false
open Go.RowKit Go.Proofs.YtiencnnkphipoaaW.PrintWords Go.Proofs.Ytiencnnkphipoaa.P Go.Proofs.Ytiencnnkphipoaa

theorem WaterValidates : hinterlandlaw06_WaterValidates.Pure := by
 intro W H C K B _ _ _ _ _
 refine Ev.rounds ?_
 unfold hinterlandlaw06_WaterValidates.f
 refine Ev.bindc (large_eq _ _ _ _ _) ?_
 by_cases hfar : (C.length : Int) > 4000 ∨ (K.length : Int) > 4000 ∨ (B.length : Int) > 4000
 ·exact Ev.pos (decide_eq_true hfar) known_then
 refine Ev.neg (fun h => hfar (of_decide_eq_true h)) ?_
 exact Ev.bind (validate_ev (by omega) (by omega)) (Ev.bind (ref_validate_ev (by omega) (by omega)) (Ev.pos rfl (Ev.bind known_ev (Ev.step (fun k => by simp only [hinterlandlaw06_WaterValidates.j0] <;> rfl) (Ev.now _)))))

end Go.Proofs.Ytiencnnkphipoaa.Pure
