/- Layer 11, TownFeels (P11.4): what a deed does to a mood. No conditions. -/
import Derived.Test.YtbdijpjlgokfkaaPSTownFeels
import Derived.Test.YtbdijpjlgokfkaaTown1
namespace Go.Proofs.Ytbdijpjlgokfkaa.Pure
set_option linter.unusedVariables false
set_option linter.unusedSimpArgs false
open Go.RowKit Go.Proofs.YtbdijpjlgokfkaaW.PrintWords Go.Proofs.Ytbdijpjlgokfkaa.P Go.Proofs.Ytbdijpjlgokfkaa
theorem TownFeels : hinterlandlaw11_TownFeels.Pure := by
  intro tile H M mv du c d _ _ _ _ _ _ _
  refine Ev.rounds ?_
  unfold hinterlandlaw11_TownFeels.f
  refine Ev.bindc (far_eq _ _ _ _ _ _) ?_
  by_cases hfar : ((([] : List S80).length : Nat) : Int) > 300 ∨ (H.length : Int) > 600 ∨ (M.length : Int) > 300
  · exact Ev.pos (decide_eq_true hfar) known_then
  refine Ev.neg (fun h => hfar (of_decide_eq_true h)) ?_
  by_cases h : dcode tile H M mv du c d = 0
  · exact Ev.bind (ref_feel_ok h) (Ev.bind (feel_ok h) (Ev.pos (by first | rfl | trivial) (Ev.bind (same_town_ev _ _ _ _ _ (by dsimp only; omega) (by dsimp only; rw [felt_length]; omega)) (Ev.pos (by first | rfl | trivial) known_then))))
  · exact Ev.bind (ref_feel_bad h) (Ev.bind (feel_bad (by omega) h) (Ev.pos (by first | rfl | trivial) (Ev.bind (same_town_ev _ _ _ _ _ (by simp) (by simp)) (Ev.pos (by first | rfl | trivial) known_then))))

end Go.Proofs.Ytbdijpjlgokfkaa.Pure
