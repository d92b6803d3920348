/- Layer 4, RoadJoins (P4.3): which tiles are joined, and that it holds both ways. No conditions. -/
import Derived.Test.YtbdekjjdojbokaaPSRoadJoins
import Derived.Test.YtbdekjjdojbokaaRoad1
namespace Go.Proofs.Ytbdekjjdojbokaa.Pure
set_option linter.unusedVariables false
set_option linter.unusedSimpArgs false
open Go.RowKit Go.Proofs.YtbdekjjdojbokaaW.PrintWords Go.Proofs.Ytbdekjjdojbokaa.P Go.Proofs.Ytbdekjjdojbokaa

theorem RoadJoins : hinterlandlaw04_RoadJoins.Pure := by
  intro W H A Y t s _ _ _ _ _ _
  refine Ev.rounds ?_
  unfold hinterlandlaw04_RoadJoins.f
  refine Ev.bindc (large_eq _ _ _ _) ?_
  by_cases hfar : (A.length : Int) > 4000 ∨ (Y.length : Int) > 4000
  · exact Ev.pos (decide_eq_true hfar) known_then
  refine Ev.neg (fun h => hfar (of_decide_eq_true h)) ?_
  refine Ev.bind (Joined_ev (by omega) (by omega)) (Ev.bind (ref_Joined_ev (by omega) (by omega)) ?_)
  refine Ev.neg (by simp) ?_
  rw [show ∀ x : Int, (x != x) = false from fun x => by simp]
  refine Ev.step (fun k => by simp only [hinterlandlaw04_RoadJoins.j0]; rfl) (Ev.neg (by simp) ?_)
  by_cases h : tcode W H A Y t 0 3 s = 0
  rotate_left
  · rw [if_neg h]; exact Ev.neg (by simp) known_then
  rw [if_pos h]
  have hz := tcode_zero.1 h
  have g := good_of hz.1
  by_cases hm : 0 ≤ meets W H A t s
  rotate_left
  · exact Ev.neg (by simpa using hm) known_then
  refine Ev.pos (decide_eq_true hm) (Ev.bindc (ref_beyond_eq (g.on hz.2.1) hz.2.2) ?_)
  have hm' := meets_at g hz.2.1 s
  have hb := meets_back g hz.2.1 hz.2.2 hm
  rw [show bey W H t s = meets W H A t s by omega]
  refine Ev.bind (Joined_ev (s := opp s) (by omega) (by omega)) ?_
  have e : tcode W H A Y (meets W H A t s) 0 3 (opp s) = 0 := tcode_zero.2 ⟨hz.1, ⟨by omega, by omega⟩, (opp_at hz.2.2).1⟩
  rw [if_pos e, hb]
  exact Ev.pos (decide_eq_true hz.2.1.1) (Ev.pos (by first | rfl | trivial) known_then)

end Go.Proofs.Ytbdekjjdojbokaa.Pure
