/- Layer 6, WaterDigs (P6.2): what digging does, costs and is refused for. No conditions. -/
import Derived.Test.YtiencnnkphipoaaPSWaterDigs
import Derived.Test.YtiencnnkphipoaaWaterE
namespace Go.Proofs.Ytiencnnkphipoaa.Pure
set_option linter.unusedVariables false
set_option linter.unusedSimpArgs false
open Go.RowKit Go.Proofs.YtiencnnkphipoaaW.PrintWords Go.Proofs.Ytiencnnkphipoaa.P Go.Proofs.Ytiencnnkphipoaa

theorem WaterDigs : hinterlandlaw06_WaterDigs.Pure := by
 intro W H C K B t k0 _ _ _ _ _ _ _
 refine Ev.rounds ?_
 unfold hinterlandlaw06_WaterDigs.f
 refine Ev.bindc (large_eq _ _ _ _ _) ?_
 by_cases hfar : (C.length : Int) > 4000 ∨ (K.length : Int) > 4000 ∨ (B.length : Int) > 4000
 ·exact Ev.pos (decide_eq_true hfar) known_then
 refine Ev.neg (fun h => hfar (of_decide_eq_true h)) ?_
 have hC : C.length ≤ 4000:=by omega
 have hK : K.length ≤ 4000:=by omega
 have hB : B.length ≤ 4000:=by omega
 have hl:=dig_len (W:=W) (H:=H) (C:=C) (t:=t) (k0:=k0) hK hB
 have last : Ev (fun k => (hinterlandlaw06_known.f k).bind fun t => hinterlandlaw06_WaterDigs.j0 k t) true:=Ev.bind known_ev (Ev.step (fun k => by simp only [hinterlandlaw06_WaterDigs.j0] <;> rfl) (Ev.now _))
 refine Ev.bind (dig_ev hC hK hB) (Ev.bind (ref_dig_ev hC hK hB) (Ev.pos rfl (Ev.pos rfl (Ev.bind (same_waters_ev _ _ (by omega) (by omega)) (Ev.pos rfl ?_)))))
 by_cases e : (digR W H C K B t k0).2.2.2 = 0
 ·refine Ev.pos e (Ev.bind (validate_ev hC hl.2) (Ev.pos (dig_valid e) last))
 ·exact Ev.neg e last

end Go.Proofs.Ytiencnnkphipoaa.Pure
