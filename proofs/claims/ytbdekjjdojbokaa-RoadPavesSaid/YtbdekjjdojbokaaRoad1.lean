/- What the functions of layer 4 (streets) come to, in plain words: Joined and Next with their errors. No conditions. -/
import Derived.Test.YtbdekjjdojbokaaPx0
import Derived.Test.YtbdekjjdojbokaaPx3
import Derived.Test.YtbdekjjdojbokaaPx5
import Derived.Test.YtbdekjjdojbokaaPx8
import Derived.Test.YtbdekjjdojbokaaPx13
import Derived.Test.YtbdekjjdojbokaaPx15
import Derived.Test.YtbdekjjdojbokaaRoad0
namespace Go.Proofs.Ytbdekjjdojbokaa.Pure
set_option linter.unusedVariables false
set_option linter.unusedSimpArgs false
open Go.RowKit Go.Proofs.YtbdekjjdojbokaaW.PrintWords Go.Proofs.Ytbdekjjdojbokaa.P Go.Proofs.Ytbdekjjdojbokaa

section
variable {W H t s : Int} {A Y : List Int}
theorem check_ev (hA : A.length ≤ 4000) (hY : Y.length ≤ 4000) : Ev (fun k => road_check.f k W H A Y t) (if vcode W H A Y = 0 then (if 0 ≤ t ∧ t < W * H then 0 else 2) else vcode W H A Y) := by
  unfold road_check.f
  refine Ev.bind (validate_ev hA hY) ?_
  by_cases h : vcode W H A Y = 0
  · refine Ev.eq (Ev.pos h ?_) (if_pos h).symm
    have g := good_of h
    have ha := area g.hW g.hH
    rw [wrap_in (x := W * H) (by omega) (by omega)]
    by_cases h1 : t < 0
    · exact Ev.eq (Ev.pos h1 (Ev.now _)) (if_neg (by omega)).symm
    refine Ev.neg h1 ?_
    by_cases h2 : t ≥ W * H
    · exact Ev.eq (Ev.pos h2 (Ev.now _)) (if_neg (by omega)).symm
    · exact Ev.eq (Ev.neg h2 (Ev.now _)) (if_pos ⟨by omega, by omega⟩).symm
  · exact Ev.eq (Ev.neg h (Ev.now _)) (if_neg h).symm
open Classical in
/-- The first error of streets, a tile and a number that must lie between two others. -/
noncomputable def tcode (W H : Int) (A Y : List Int) (t a b s : Int) : Int := if vcode W H A Y = 0 then (if 0 ≤ t ∧ t < W * H then (if a ≤ s ∧ s ≤ b then 0 else 1) else 2) else vcode W H A Y
theorem tcode_zero {a b : Int} : tcode W H A Y t a b s = 0 ↔ vcode W H A Y = 0 ∧ (0 ≤ t ∧ t < W * H) ∧ a ≤ s ∧ s ≤ b := by
  unfold tcode
  by_cases h1 : vcode W H A Y = 0
  · rw [if_pos h1]
    by_cases h2 : 0 ≤ t ∧ t < W * H
    · rw [if_pos h2]
      by_cases h3 : a ≤ s ∧ s ≤ b
      · rw [if_pos h3]; exact ⟨fun _ => ⟨h1, h2, h3⟩, fun _ => rfl⟩
      · rw [if_neg h3]; exact ⟨fun h => absurd h (by decide), fun h => absurd h.2.2 h3⟩
    · rw [if_neg h2]; exact ⟨fun h => absurd h (by decide), fun h => absurd h.2.1 h2⟩
  · rw [if_neg h1]; exact ⟨fun h => absurd h h1, fun h => absurd h.1 h1⟩
/-- What a check does: a function that answers the error or goes on. -/
theorem checked {α : Type} {a b : Int} (hA : A.length ≤ 4000) (hY : Y.length ≤ 4000) {f : Nat → Int → Option α} {r : α}
    (h : vcode W H A Y = 0 → 0 ≤ t ∧ t < W * H → Ev (fun k => f k 0) r) (hb : ∀ c, c ≠ 0 → c = tcode W H A Y t a b s → Ev (fun k => f k c) r) : Ev (fun k => (road_check.f k W H A Y t).bind (f k)) r := by
  refine Ev.bind (check_ev hA hY) ?_
  by_cases h1 : vcode W H A Y = 0
  · rw [if_pos h1]
    by_cases h2 : 0 ≤ t ∧ t < W * H
    · rw [if_pos h2]; exact h h1 h2
    · rw [if_neg h2]; exact hb 2 (by decide) (by unfold tcode; rw [if_pos h1, if_neg h2])
  · rw [if_neg h1]; exact hb _ h1 (by unfold tcode; rw [if_neg h1])
theorem Joined_ev (hA : A.length ≤ 4000) (hY : Y.length ≤ 4000) : Ev (fun k => road_Joined.f k W H A Y t s) (if tcode W H A Y t 0 3 s = 0 then (decide (0 ≤ meets W H A t s), 0) else (false, tcode W H A Y t 0 3 s)) := by
  unfold road_Joined.f
  refine checked (a := 0) (b := 3) (s := s) hA hY (fun h1 h2 => ?_) (fun c hc he => ?_)
  · refine Ev.pos (by first | rfl | trivial) ?_
    have bad : ¬ (0 ≤ s ∧ s ≤ 3) → tcode W H A Y t 0 3 s = 1 := by intro h; unfold tcode; rw [if_pos h1, if_pos h2, if_neg h]
    by_cases c0 : s < 0
    · rw [bad (by omega)]; exact Ev.pos c0 (Ev.now _)
    refine Ev.neg c0 ?_
    by_cases c1 : s > 3
    · rw [bad (by omega)]; exact Ev.pos c1 (Ev.now _)
    refine Ev.eq (Ev.neg c1 (Ev.bindc (joined_eq (good_of h1) h2 ⟨by omega, by omega⟩) (Ev.now _))) (if_pos (tcode_zero.2 ⟨h1, h2, by omega, by omega⟩)).symm
  · rw [← he]
    exact Ev.eq (Ev.neg hc (Ev.now _)) (if_neg hc).symm
theorem ref_Joined_ev (hA : A.length ≤ 4000) (hY : Y.length ≤ 4000) : Ev (fun k => hinterlandref04_Joined.f k W H A Y t s) (if tcode W H A Y t 0 3 s = 0 then (decide (0 ≤ meets W H A t s), 0) else (false, tcode W H A Y t 0 3 s)) := by
  unfold hinterlandref04_Joined.f
  refine Ev.bind (ref_validate_ev hA hY) ?_
  by_cases h1 : vcode W H A Y = 0
  rotate_left
  · have e : tcode W H A Y t 0 3 s = vcode W H A Y := by unfold tcode; rw [if_neg h1]
    rw [e]; exact Ev.eq (Ev.neg h1 (Ev.now _)) (if_neg h1).symm
  have g := good_of h1
  have ha := area g.hW g.hH
  refine Ev.pos h1 ?_
  rw [wrap_in (x := W * H) (by omega) (by omega)]
  have fin : ∀ q, q = decide (¬ (0 ≤ t ∧ t < W * H)) → Ev (fun k => hinterlandref04_Joined.j0 k t s q W H A Y) (if tcode W H A Y t 0 3 s = 0 then (decide (0 ≤ meets W H A t s), 0) else (false, tcode W H A Y t 0 3 s)) := by
    intro q hq
    refine Ev.step (fun k => by simp only [hinterlandref04_Joined.j0]; rfl) ?_
    by_cases h2 : 0 ≤ t ∧ t < W * H
    rotate_left
    · have e : tcode W H A Y t 0 3 s = 2 := by unfold tcode; rw [if_pos h1, if_neg h2]
      rw [e]; exact Ev.pos (by rw [hq]; exact decide_eq_true h2) (Ev.now _)
    refine Ev.neg (by rw [hq]; simpa using h2) ?_
    have bad : ¬ (0 ≤ s ∧ s ≤ 3) → tcode W H A Y t 0 3 s = 1 := by intro h; unfold tcode; rw [if_pos h1, if_pos h2, if_neg h]
    by_cases c0 : s < 0
    · rw [bad (by omega)]; exact Ev.pos c0 (Ev.now _)
    refine Ev.neg c0 ?_
    by_cases c1 : s > 3
    · rw [bad (by omega)]; exact Ev.pos c1 (Ev.now _)
    exact Ev.eq (Ev.neg c1 (Ev.bindc (meets_eq g h2 ⟨by omega, by omega⟩) (Ev.now _))) (if_pos (tcode_zero.2 ⟨h1, h2, by omega, by omega⟩)).symm
  by_cases c : t < 0
  · exact Ev.pos c (fin _ (decide_eq_true (by omega)).symm)
  · exact Ev.neg c (fin _ (decide_eq_decide.2 (by omega)))
theorem Next_ev (hA : A.length ≤ 4000) (hY : Y.length ≤ 4000) : Ev (fun k => road_Next.f k W H A Y t s) (if tcode W H A Y t (-1) 3 s = 0 then (outs W H A Y t s, 0) else ([], tcode W H A Y t (-1) 3 s)) := by
  unfold road_Next.f
  refine checked (a := -1) (b := 3) (s := s) hA hY (fun h1 h2 => ?_) (fun c hc he => ?_)
  · refine Ev.pos (by first | rfl | trivial) ?_
    have bad : ¬ (-1 ≤ s ∧ s ≤ 3) → tcode W H A Y t (-1) 3 s = 1 := by intro h; unfold tcode; rw [if_pos h1, if_pos h2, if_neg h]
    by_cases c0 : s < -1
    · rw [bad (by omega)]; exact Ev.pos c0 (Ev.now _)
    refine Ev.neg c0 ?_
    by_cases c1 : s > 3
    · rw [bad (by omega)]; exact Ev.pos c1 (Ev.now _)
    refine Ev.eq (Ev.neg c1 (Ev.bindc (next_eq (good_of h1) h2 (by omega)) (Ev.now _))) (if_pos (tcode_zero.2 ⟨h1, h2, by omega, by omega⟩)).symm
  · rw [← he]
    exact Ev.eq (Ev.neg hc (Ev.now _)) (if_neg hc).symm
theorem ref_Next_ev (hA : A.length ≤ 4000) (hY : Y.length ≤ 4000) : Ev (fun k => hinterlandref04_Next.f k W H A Y t s) (if tcode W H A Y t (-1) 3 s = 0 then (outs W H A Y t s, 0) else ([], tcode W H A Y t (-1) 3 s)) := by
  unfold hinterlandref04_Next.f
  refine Ev.bind (ref_validate_ev hA hY) ?_
  by_cases h1 : vcode W H A Y = 0
  rotate_left
  · have e : tcode W H A Y t (-1) 3 s = vcode W H A Y := by unfold tcode; rw [if_neg h1]
    rw [e]; exact Ev.eq (Ev.neg h1 (Ev.now _)) (if_neg h1).symm
  have g := good_of h1
  have ha := area g.hW g.hH
  refine Ev.pos h1 ?_
  rw [wrap_in (x := W * H) (by omega) (by omega)]
  have fin : ∀ q, q = decide (¬ (0 ≤ t ∧ t < W * H)) → Ev (fun k => hinterlandref04_Next.j0 k t s q W H A Y) (if tcode W H A Y t (-1) 3 s = 0 then (outs W H A Y t s, 0) else ([], tcode W H A Y t (-1) 3 s)) := by
    intro q hq
    refine Ev.step (fun k => by simp only [hinterlandref04_Next.j0]; rfl) ?_
    by_cases h2 : 0 ≤ t ∧ t < W * H
    rotate_left
    · have e : tcode W H A Y t (-1) 3 s = 2 := by unfold tcode; rw [if_pos h1, if_neg h2]
      rw [e]; exact Ev.pos (by rw [hq]; exact decide_eq_true h2) (Ev.now _)
    refine Ev.neg (by rw [hq]; simpa using h2) ?_
    have bad : ¬ (-1 ≤ s ∧ s ≤ 3) → tcode W H A Y t (-1) 3 s = 1 := by intro h; unfold tcode; rw [if_pos h1, if_pos h2, if_neg h]
    by_cases c0 : s < -1
    · rw [bad (by omega)]; exact Ev.pos c0 (Ev.now _)
    refine Ev.neg c0 ?_
    by_cases c1 : s > 3
    · rw [bad (by omega)]; exact Ev.pos c1 (Ev.now _)
    exact Ev.eq (Ev.neg c1 (Ev.bind (out_ev g h2 (by omega)) (Ev.now _))) (if_pos (tcode_zero.2 ⟨h1, h2, by omega, by omega⟩)).symm
  by_cases c : t < 0
  · exact Ev.pos c (fin _ (decide_eq_true (by omega)).symm)
  · exact Ev.neg c (fin _ (decide_eq_decide.2 (by omega)))
end

end Go.Proofs.Ytbdekjjdojbokaa.Pure
