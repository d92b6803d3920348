/- Layer 4, RoadGoes (P4.4): where a truck drives. No conditions. -/
import Derived.Test.YtbdekjjdojbokaaPSRoadGoes
import Derived.Test.YtbdekjjdojbokaaRoad2
namespace Go.Proofs.Ytbdekjjdojbokaa.Pure
set_option linter.unusedVariables false
set_option linter.unusedSimpArgs false
open Go.RowKit Go.Proofs.YtbdekjjdojbokaaW.PrintWords Go.Proofs.Ytbdekjjdojbokaa.P Go.Proofs.Ytbdekjjdojbokaa

theorem RoadGoes : hinterlandlaw04_RoadGoes.Pure := by
  intro W H A Y t f l _ _ _ _ _ _ _
  refine Ev.rounds ?_
  unfold hinterlandlaw04_RoadGoes.f
  have out : Ev (fun k => hinterlandlaw04_RoadGoes.j0 k t f l true W H A Y) true := Ev.step (fun k => by simp only [hinterlandlaw04_RoadGoes.j0]; rfl) (Ev.pos (by first | rfl | trivial) known_then)
  refine Ev.bindc (large_eq _ _ _ _) ?_
  by_cases hfar : (A.length : Int) > 4000 ∨ (Y.length : Int) > 4000
  · exact Ev.pos (decide_eq_true hfar) out
  refine Ev.neg (fun h => hfar (of_decide_eq_true h)) ?_
  by_cases hl : (l.length : Int) > 4000
  · rw [decide_eq_true hl]; exact out
  rw [decide_eq_false hl]
  refine Ev.step (fun k => by simp only [hinterlandlaw04_RoadGoes.j0]; rfl) (Ev.neg (by simp) ?_)
  have hn := Next_ev (W := W) (H := H) (A := A) (Y := Y) (t := t) (s := f) (by omega) (by omega)
  have hq := ref_Next_ev (W := W) (H := H) (A := A) (Y := Y) (t := t) (s := f) (by omega) (by omega)
  have fin : ∀ r : List Int × Int, r.1.length ≤ 5000 → Ev (fun k => road_Go.f k W H A Y t f l) r → Ev (fun k => hinterlandref04_Go.f k W H A Y t f l) r → Ev (fun k => (road_Go.f k W H A Y t f l).bind fun bt365 => ((hinterlandref04_Go.f k W H A Y t f l).bind fun bt369 => (if bt365.2 = bt369.2 then ((hinterlandsame_List_int.f k bt365.1 bt369.1).bind fun t373 => (if t373 = true then ((hinterlandlaw04_known.f k).bind fun t374 => (some t374)) else (some false))) else (some false)))) true := by
    intro r hr h1 h2
    exact Ev.bind h1 (Ev.bind h2 (Ev.pos (by first | rfl | trivial) (Ev.bind (same_ints_ev _ (by omega)) (Ev.pos (by first | rfl | trivial) known_then))))
  by_cases h : tcode W H A Y t (-1) 3 f = 0
  · rw [if_pos h] at hn hq
    have hz := tcode_zero.1 h
    by_cases h1000 : (l.length : Int) > 1000
    · refine fin ([], 4) (by simp) ?_ ?_
      · unfold road_Go.f
        exact Ev.bind hn (Ev.pos (by first | rfl | trivial) (Ev.pos h1000 (Ev.now _)))
      · unfold hinterlandref04_Go.f
        exact Ev.bind hq (Ev.pos (by first | rfl | trivial) (Ev.pos h1000 (Ev.now _)))
    · obtain ⟨r, hr, h1, h2⟩ := go_l0 (good_of hz.1) l (by omega) l.length 0 t f [t] (by omega) rfl hz.2.1 hz.2.2.2
      refine fin (r, 0) (by dsimp only; omega) ?_ ?_
      · unfold road_Go.f
        exact Ev.bind hn (Ev.pos (by first | rfl | trivial) (Ev.neg h1000 h1))
      · unfold hinterlandref04_Go.f
        exact Ev.bind hq (Ev.pos (by first | rfl | trivial) (Ev.neg h1000 h2))
  · rw [if_neg h] at hn hq
    refine fin ([], tcode W H A Y t (-1) 3 f) (by simp) ?_ ?_
    · unfold road_Go.f
      exact Ev.bind hn (Ev.neg h (Ev.now _))
    · unfold hinterlandref04_Go.f
      exact Ev.bind hq (Ev.neg h (Ev.now _))

end Go.Proofs.Ytbdekjjdojbokaa.Pure
