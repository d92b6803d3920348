/- Layer 4, RoadTurns (P4.2): how the ways of a tile are set. No conditions. -/
import Derived.Test.YtbdekjjdojbokaaPSRoadTurns
import Derived.Test.YtbdekjjdojbokaaRoad1
namespace Go.Proofs.Ytbdekjjdojbokaa.Pure
set_option linter.unusedVariables false
set_option linter.unusedSimpArgs false
open Go.RowKit Go.Proofs.YtbdekjjdojbokaaW.PrintWords Go.Proofs.Ytbdekjjdojbokaa.P Go.Proofs.Ytbdekjjdojbokaa

theorem clone_eq {W H : Int} {A Y : List Int} (hA : A.length ≤ 4000) (hY : Y.length ≤ 4000) : road_clone.f W H A Y = some (W, H, A, Y) := by
  unfold road_clone.f
  rw [if_pos (by simp; omega), if_pos (by simp; omega)]
  rfl
theorem copied_eq {W H : Int} {A Y : List Int} (hA : A.length ≤ 4000) (hY : Y.length ≤ 4000) : hinterlandref04_copied.f W H A Y = some (W, H, A, Y) := by
  unfold hinterlandref04_copied.f
  rw [if_pos (by simp; omega), if_pos (by simp; omega)]
  rfl
theorem same_streets_ev (W H : Int) (A Y : List Int) (hA : A.length ≤ 4000) (hY : Y.length ≤ 4000) : Ev (fun k => hinterlandsame_Streets.f k W H A Y W H A Y) true := by
  unfold hinterlandsame_Streets.f
  exact Ev.pos (by first | rfl | trivial) (Ev.pos (by first | rfl | trivial) (Ev.bind (same_ints_ev _ (by omega)) (Ev.pos (by first | rfl | trivial) (Ev.bind (same_ints_ev _ (by omega)) (Ev.now _)))))
open Classical in
/-- What Turn answers. -/
noncomputable def turned (W H : Int) (A Y : List Int) (t w : Int) : Int × Int × List Int × List Int × Int :=
  if tcode W H A Y t 0 2 w = 0 then (if w = 0 ∨ rd A t = 5 ∨ rd A t = 10 then (W, H, A, Y.set t.toNat w, 0) else (0, 0, [], [], 9)) else (0, 0, [], [], tcode W H A Y t 0 2 w)
section
variable {W H t w : Int} {A Y : List Int}
theorem Turn_ev (hA : A.length ≤ 4000) (hY : Y.length ≤ 4000) : Ev (fun k => road_Turn.f k W H A Y t w) (turned W H A Y t w) := by
  unfold road_Turn.f
  refine checked (a := 0) (b := 2) (s := w) hA hY (fun h1 h2 => ?_) (fun c hc he => ?_)
  · refine Ev.pos (by first | rfl | trivial) ?_
    have g := good_of h1
    have hAl := g.hA
    have hYl := g.hY
    have fin : ∀ q, q = decide (¬ (0 ≤ w ∧ w ≤ 2)) → Ev (fun k => road_Turn.j0 k t w q W H A Y) (turned W H A Y t w) := by
      intro q hq
      unfold turned
      refine Ev.step (fun k => by simp only [road_Turn.j0]; rfl) ?_
      by_cases c : 0 ≤ w ∧ w ≤ 2
      rotate_left
      · have e : tcode W H A Y t 0 2 w = 1 := by unfold tcode; rw [if_pos h1, if_pos h2, if_neg c]
        rw [e]; exact Ev.pos (by rw [hq]; exact decide_eq_true c) (Ev.now _)
      refine Ev.eq (Ev.neg (by rw [hq]; simpa using c) ?_) (if_pos (tcode_zero.2 ⟨h1, h2, c⟩)).symm
      by_cases w0 : w = 0
      · exact Ev.eq (Ev.pos w0 (Ev.bindc (clone_eq hA hY) (Ev.pos h2.1 (Ev.pos (by dsimp only; omega) (Ev.now _))))) (if_pos (.inl w0)).symm
      refine Ev.neg w0 (Ev.pos h2.1 (Ev.pos (by omega) ?_))
      by_cases a5 : rd A t = 5
      · exact Ev.eq (Ev.pos a5 (Ev.bindc (clone_eq hA hY) (Ev.pos (by dsimp only; omega) (Ev.now _)))) (if_pos (.inr (.inl a5))).symm
      refine Ev.neg a5 ?_
      by_cases a10 : rd A t = 10
      · exact Ev.eq (Ev.pos a10 (Ev.bindc (clone_eq hA hY) (Ev.pos (by dsimp only; omega) (Ev.now _)))) (if_pos (.inr (.inr a10))).symm
      · exact Ev.eq (Ev.neg a10 (Ev.now _)) (if_neg (by omega)).symm
    by_cases c : w < 0
    · exact Ev.pos c (fin _ (decide_eq_true (by omega)).symm)
    · exact Ev.neg c (fin _ (decide_eq_decide.2 (by omega)))
  · unfold turned
    rw [← he]
    exact Ev.eq (Ev.neg hc (Ev.now _)) (if_neg hc).symm
theorem ref_Turn_ev (hA : A.length ≤ 4000) (hY : Y.length ≤ 4000) : Ev (fun k => hinterlandref04_Turn.f k W H A Y t w) (turned W H A Y t w) := by
  unfold hinterlandref04_Turn.f
  refine Ev.bind (ref_validate_ev hA hY) ?_
  by_cases h1 : vcode W H A Y = 0
  rotate_left
  · have e : tcode W H A Y t 0 2 w = vcode W H A Y := by unfold tcode; rw [if_neg h1]
    unfold turned
    rw [e]; exact Ev.eq (Ev.neg h1 (Ev.now _)) (if_neg h1).symm
  have g := good_of h1
  have hAl := g.hA
  have hYl := g.hY
  have ha := area g.hW g.hH
  refine Ev.pos h1 ?_
  rw [wrap_in (x := W * H) (by omega) (by omega)]
  have fin1 : ∀ q, 0 ≤ t ∧ t < W * H → q = decide (¬ (0 ≤ w ∧ w ≤ 2)) → Ev (fun k => hinterlandref04_Turn.j1 k t w q W H A Y) (turned W H A Y t w) := by
    intro q h2 hq
    unfold turned
    refine Ev.step (fun k => by simp only [hinterlandref04_Turn.j1]; rfl) ?_
    by_cases c : 0 ≤ w ∧ w ≤ 2
    rotate_left
    · have e : tcode W H A Y t 0 2 w = 1 := by unfold tcode; rw [if_pos h1, if_pos h2, if_neg c]
      rw [e]; exact Ev.pos (by rw [hq]; exact decide_eq_true c) (Ev.now _)
    refine Ev.eq (Ev.neg (by rw [hq]; simpa using c) ?_) (if_pos (tcode_zero.2 ⟨h1, h2, c⟩)).symm
    by_cases w0 : w = 0
    · exact Ev.eq (Ev.pos w0 (Ev.bindc (copied_eq hA hY) (Ev.pos h2.1 (Ev.pos (by dsimp only; omega) (Ev.now _))))) (if_pos (.inl w0)).symm
    refine Ev.neg w0 (Ev.pos h2.1 (Ev.pos (by omega) (Ev.bindc (straight_eq _) ?_)))
    by_cases a5 : rd A t = 5 ∨ rd A t = 10
    · exact Ev.eq (Ev.pos (decide_eq_true a5) (Ev.bindc (copied_eq hA hY) (Ev.pos (by dsimp only; omega) (Ev.now _)))) (if_pos (.inr a5)).symm
    · exact Ev.eq (Ev.neg (fun h => a5 (of_decide_eq_true h)) (Ev.now _)) (if_neg (fun h => h.elim w0 a5)).symm
  have fin : ∀ q, q = decide (¬ (0 ≤ t ∧ t < W * H)) → Ev (fun k => hinterlandref04_Turn.j0 k t w q W H A Y) (turned W H A Y t w) := by
    intro q hq
    refine Ev.step (fun k => by simp only [hinterlandref04_Turn.j0]; rfl) ?_
    by_cases h2 : 0 ≤ t ∧ t < W * H
    rotate_left
    · have e : tcode W H A Y t 0 2 w = 2 := by unfold tcode; rw [if_pos h1, if_neg h2]
      unfold turned
      rw [e]; exact Ev.pos (by rw [hq]; exact decide_eq_true h2) (Ev.now _)
    refine Ev.neg (by rw [hq]; simpa using h2) ?_
    by_cases c : w < 0
    · exact Ev.pos c (fin1 _ h2 (decide_eq_true (by omega)).symm)
    · exact Ev.neg c (fin1 _ h2 (decide_eq_decide.2 (by omega)))
  by_cases c : t < 0
  · exact Ev.pos c (fin _ (decide_eq_true (by omega)).symm)
  · exact Ev.neg c (fin _ (decide_eq_decide.2 (by omega)))
theorem set_at (l : List Int) (i j : Nat) (v : Int) : (l.set i v).getD j 0 = if i = j ∧ j < l.length then v else l.getD j 0 := by
  rw [List.getD_eq_getElem?_getD, List.getElem?_set, List.getD_eq_getElem?_getD]
  by_cases h : i = j
  · rw [if_pos h]
    by_cases h2 : i < l.length
    · rw [if_pos h2, if_pos ⟨h, by omega⟩]; rfl
    · rw [if_neg h2, if_neg (by omega), List.getElem?_eq_none (by omega)]
  · rw [if_neg h, if_neg (fun hh => h hh.1)]
theorem turned_good (h : tcode W H A Y t 0 2 w = 0) (hw : w = 0 ∨ rd A t = 5 ∨ rd A t = 10) : vcode W H A (Y.set t.toNat w) = 0 := by
  have hz := tcode_zero.1 h
  have g := good_of hz.1
  refine vcode_zero.2 ⟨⟨g.hW, g.hH, g.hA, by rw [List.length_set]; exact g.hY⟩, g.arms, ?_, ?_⟩
  · intro j h0 hj
    rw [List.length_set] at hj
    unfold WayAt
    rw [set_at]
    split
    · exact hz.2.2
    · exact g.ways j h0 hj
  · intro j h0 hj
    rw [List.length_set] at hj
    unfold OneAt
    rw [set_at]
    split
    · rename_i c
      rw [← c.1]
      exact hw
    · exact g.ones j h0 hj
end

theorem RoadTurns : hinterlandlaw04_RoadTurns.Pure := by
  intro W H A Y t w _ _ _ _ _ _
  refine Ev.rounds ?_
  unfold hinterlandlaw04_RoadTurns.f
  refine Ev.bindc (large_eq _ _ _ _) ?_
  by_cases hfar : (A.length : Int) > 4000 ∨ (Y.length : Int) > 4000
  · exact Ev.pos (decide_eq_true hfar) known_then
  refine Ev.neg (fun h => hfar (of_decide_eq_true h)) ?_
  refine Ev.bind (Turn_ev (by omega) (by omega)) (Ev.bind (ref_Turn_ev (by omega) (by omega)) (Ev.pos (by first | rfl | trivial) ?_))
  unfold turned
  by_cases h : tcode W H A Y t 0 2 w = 0
  · rw [if_pos h]
    by_cases hw : w = 0 ∨ rd A t = 5 ∨ rd A t = 10
    · rw [if_pos hw]
      exact Ev.bind (same_streets_ev _ _ _ _ (by dsimp only; omega) (by dsimp only; rw [List.length_set]; omega)) (Ev.pos (by first | rfl | trivial) (Ev.pos (by first | rfl | trivial) (Ev.bind (validate_ev (by dsimp only; omega) (by dsimp only; rw [List.length_set]; omega)) (Ev.pos (turned_good h hw) known_then))))
    · rw [if_neg hw]
      exact Ev.bind (same_streets_ev _ _ _ _ (by simp) (by simp)) (Ev.pos (by first | rfl | trivial) (Ev.neg (by simp) known_then))
  · rw [if_neg h]
    exact Ev.bind (same_streets_ev _ _ _ _ (by simp) (by simp)) (Ev.pos (by first | rfl | trivial) (Ev.neg h known_then))

end Go.Proofs.Ytbdekjjdojbokaa.Pure
