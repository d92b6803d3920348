/- Layer 4, RoadPavesBack (P4.2): what was paved and is torn again gives the arms that were, for at least half of the cost, and streets stay valid. No conditions. -/
import Derived.Test.YtbdekjjdojbokaaPSRoadPavesBack
import Derived.Test.YtbdekjjdojbokaaRoadB
namespace Go.Proofs.Ytbdekjjdojbokaa.Pure
set_option linter.unusedVariables false
set_option linter.unusedSimpArgs false
open Go.RowKit Go.Proofs.YtbdekjjdojbokaaW.PrintWords Go.Proofs.Ytbdekjjdojbokaa.P Go.Proofs.Ytbdekjjdojbokaa

theorem RoadPavesBack : hinterlandlaw04_RoadPavesBack.Pure := by
  intro W H A Y t x _ _ _ _ _ _
  refine Ev.rounds ?_
  unfold hinterlandlaw04_RoadPavesBack.f
  refine Ev.bindc (large_eq _ _ _ _) ?_
  by_cases hfar : (A.length : Int) > 4000 ∨ (Y.length : Int) > 4000
  · exact Ev.pos (decide_eq_true hfar) known_then
  refine Ev.neg (fun h => hfar (of_decide_eq_true h)) ?_
  refine Ev.bind (Pave_ev (by omega) (by omega)) ?_
  unfold paved
  by_cases h : tcode W H A Y t 0 15 x = 0
  rotate_left
  · rw [if_neg h]; exact Ev.neg h known_then
  rw [if_pos h]
  have hz := tcode_zero.1 h
  have g := good_of hz.1
  have hAl := g.hA
  have ha := g.arm hz.2.1
  have hin := fin_of (p := fun a x => (0 ≤ orr a x ∧ orr a x ≤ 15) ∧ (0 ≤ nab a x ∧ nab a x ≤ 15)) in_all ha hz.2.2
  have hin2 := fin_of (p := fun a x => (0 ≤ orr a x ∧ orr a x ≤ 15) ∧ (0 ≤ nab a x ∧ nab a x ≤ 15)) in_all hz.2.2 ha
  obtain ⟨b1, b2, b3⟩ := fin_of (p := fun a x => nab (orr a x) (nab x a) = a ∧ wrap64 (2 * wrap64 (cnt (nd (nab x a) (orr a x)) * 75)) ≤ wrap64 (cnt (nab x a) * 150) ∧ wrap64 (wrap64 (2 * wrap64 (cnt (nd (nab x a) (orr a x)) * 75)) + 150) ≥ 0) back_all ha hz.2.2
  have v1 := set_good (n := orr (rd A t) x) hz.1 hz.2.1 hin.1
  have hr : rd (A.set t.toNat (orr (rd A t) x)) t = orr (rd A t) x := by unfold rd; rw [rset_at, if_pos ⟨rfl, by omega⟩]
  have hc : tcode W H (A.set t.toNat (orr (rd A t) x)) (waysOf A Y t (orr (rd A t) x)) t 0 15 (nab x (rd A t)) = 0 := tcode_zero.2 ⟨v1, hz.2.1, hin2.2⟩
  have v2 := set_good (n := nab (orr (rd A t) x) (nab x (rd A t))) v1 hz.2.1 (by rw [b1]; exact ha)
  have back : (A.set t.toNat (orr (rd A t) x)).set t.toNat (rd A t) = A := by rw [List.set_set, show rd A t = A.getD t.toNat 0 from rfl, set_same (by omega)]
  rw [b1, back] at v2
  refine Ev.pos (by first | rfl | trivial) (Ev.pos hz.2.1.1 (Ev.pos (by omega) (Ev.bind (Tear_ev (by dsimp only; rw [List.length_set]; omega) (by dsimp only; rw [waysOf_len]; omega)) ?_)))
  dsimp only
  rw [show Go.bits .andNot .i64 x (rd A t) = nab x (rd A t) from rfl, show torn W H (A.set t.toNat (orr (rd A t) x)) (waysOf A Y t (orr (rd A t) x)) t (nab x (rd A t)) = _ from if_pos hc, hr, b1, back]
  dsimp only
  refine Ev.pos (by first | rfl | trivial) (Ev.bind (same_ints_ev _ (by omega)) (Ev.pos (by first | rfl | trivial) (Ev.pos (by rw [List.length_set]; omega) (Ev.pos (by first | rfl | exact hr) (Ev.pos b2 (Ev.pos b3 (Ev.bind (validate_ev (by rw [List.length_set]; omega) (by rw [waysOf_len]; omega)) (Ev.pos v1 (Ev.bind (validate_ev (by omega) (by rw [waysOf_len, waysOf_len]; omega)) (Ev.pos v2 known_then))))))))))

end Go.Proofs.Ytbdekjjdojbokaa.Pure
