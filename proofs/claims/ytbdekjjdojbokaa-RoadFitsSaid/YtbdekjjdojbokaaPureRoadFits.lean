/- Layer 4, RoadFits (P4.1): which arms and tracks may lie on one tile. No conditions. -/
import Derived.Test.YtbdekjjdojbokaaPSRoadFits
import Derived.Test.YtbdekjjdojbokaaRoad0
namespace Go.Proofs.Ytbdekjjdojbokaa.Pure
set_option linter.unusedVariables false
set_option linter.unusedSimpArgs false
open Go.RowKit Go.Proofs.YtbdekjjdojbokaaW.PrintWords Go.Proofs.Ytbdekjjdojbokaa.P Go.Proofs.Ytbdekjjdojbokaa

theorem fits_some (a s : Int) : ∃ r, road_Fits.f a s = some r := by
  unfold road_Fits.f
  repeat' split
  all_goals exact ⟨_, rfl⟩
theorem RoadFits : hinterlandlaw04_RoadFits.Pure := by
  intro a s _ _
  refine Ev.rounds ?_
  unfold hinterlandlaw04_RoadFits.f
  obtain ⟨r, hr⟩ := fits_some a s
  have hq : hinterlandref04_Fits.f a s = some r := hr
  exact Ev.bindc hr (Ev.bindc hq (Ev.pos (by simp) (Ev.pos (by first | rfl | trivial) known_then)))

end Go.Proofs.Ytbdekjjdojbokaa.Pure
