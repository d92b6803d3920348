/- Layer 11, TownValidates (P11.1): which kinds of houses and which towns are right. No conditions. -/
import Derived.Test.YtbdijpjlgokfkaaPSTownValidates
import Derived.Test.YtbdijpjlgokfkaaTown2
namespace Go.Proofs.Ytbdijpjlgokfkaa.Pure
set_option linter.unusedVariables false
set_option linter.unusedSimpArgs false
open Go.RowKit Go.Proofs.YtbdijpjlgokfkaaW.PrintWords Go.Proofs.Ytbdijpjlgokfkaa.P Go.Proofs.Ytbdijpjlgokfkaa

theorem TownValidates : hinterlandlaw11_TownValidates.Pure := by
  intro l tile H M mv du hl _ _ _ _ _
  have hz := sized_of hl
  refine Ev.rounds ?_
  unfold hinterlandlaw11_TownValidates.f
  refine Ev.bindc (far_eq _ _ _ _ _ _) ?_
  by_cases hfar : (l.length : Int) > 300 ∨ (H.length : Int) > 600 ∨ (M.length : Int) > 300
  · exact Ev.pos (decide_eq_true hfar) known_then
  refine Ev.neg (fun h => hfar (of_decide_eq_true h)) ?_
  exact Ev.bind (ref_kinds_ev hz) (Ev.bind (kinds_ev hz) (Ev.pos (by first | rfl | trivial) (Ev.bind (ref_validate_ev hz (by omega) (by omega)) (Ev.bind (validate_ev hz (by omega) (by omega) (by omega)) (Ev.pos (by first | rfl | trivial) known_then)))))

end Go.Proofs.Ytbdijpjlgokfkaa.Pure
