/- Layer 11, TownPeople (P11.1): how many people live in a town, and how much mail it has. No conditions. -/
import Derived.Test.YtbdijpjlgokfkaaPSTownPeople
import Derived.Test.YtbdijpjlgokfkaaTown2
namespace Go.Proofs.Ytbdijpjlgokfkaa.Pure
set_option linter.unusedVariables false
set_option linter.unusedSimpArgs false
open Go.RowKit Go.Proofs.YtbdijpjlgokfkaaW.PrintWords Go.Proofs.Ytbdijpjlgokfkaa.P Go.Proofs.Ytbdijpjlgokfkaa

theorem people_l0 (l : List S80) (tile : Int) (H : List S68) (M : List Int) (mv du : Int) (hH : H.length ≤ 600) (hh : HousesOf l H) : ∀ (n i : Nat) (a b : Int), i + n = H.length → ∃ r s, Ev (fun k => hinterlandref11_People.l0 k l a b (i : Int) tile H M mv du) (r, s, 0) ∧ Ev (fun k => town_People.l0 k l a b H (H.length : Int) (i : Int)) (r, s, 0)
  | 0, i, a, b, h => by
    refine ⟨a, b, Ev.step (fun k => by simp only [hinterlandref11_People.l0]; rfl) (Ev.neg (by omega) (Ev.now _)), Ev.step (fun k => by simp only [town_People.l0]; rfl) (Ev.neg (by omega) (Ev.now _))⟩
  | n + 1, i, a, b, h => by
    have hp := hh i (by omega) (by omega)
    unfold HouseOf at hp
    obtain ⟨r, s, h1, h2⟩ := people_l0 l tile H M mv du hH hh n (i + 1) (wrap64 (a + (rd_T80 l ((H.getD i z68).f1)).f1)) (wrap64 (b + (rd_T80 l ((H.getD i z68).f1)).f2)) (by omega)
    rw [show ((i + 1 : Nat) : Int) = (i : Int) + 1 from by omega] at h1 h2
    refine ⟨r, s, Ev.step (fun k => by simp only [hinterlandref11_People.l0]; rfl) ?_, Ev.step (fun k => by simp only [town_People.l0]; rfl) ?_⟩
    · rw [rdH, wrap_in (x := (i : Int) + 1) (by omega) (by omega)]
      exact Ev.pos (by omega) (Ev.pos (by omega) (Ev.pos (by omega) (Ev.pos (by omega) h1)))
    · rw [rdH, wrap_in (x := (i : Int) + 1) (by omega) (by omega)]
      exact Ev.pos (by omega) (Ev.pos (by omega) (Ev.pos (by omega) (Ev.pos (by omega) (Ev.pos (by omega) h2))))

theorem TownPeople : hinterlandlaw11_TownPeople.Pure := by
  intro l tile H M mv du hl _ _ _ _ _
  have hz := sized_of hl
  refine Ev.rounds ?_
  unfold hinterlandlaw11_TownPeople.f
  refine Ev.bindc (far_eq _ _ _ _ _ _) ?_
  by_cases hfar : (l.length : Int) > 300 ∨ (H.length : Int) > 600 ∨ (M.length : Int) > 300
  · exact Ev.pos (decide_eq_true hfar) known_then
  refine Ev.neg (fun h => hfar (of_decide_eq_true h)) ?_
  have hr := ref_validate_ev (l := l) (tile := tile) (H := H) (M := M) (mv := mv) (du := du) hz (by omega) (by omega)
  have ht := validate_ev (l := l) (tile := tile) (H := H) (M := M) (mv := mv) (du := du) hz (by omega) (by omega) (by omega)
  by_cases h : vcode l tile H M mv du = 0
  · obtain ⟨r, s, h1, h2⟩ := people_l0 l tile H M mv du (by omega) (vcode_zero.1 h).2.2 H.length 0 0 0 (by omega)
    refine Ev.bind (a := (r, s, 0)) ?_ (Ev.bind (a := (r, s, 0)) ?_ (Ev.pos (by first | rfl | trivial) (Ev.pos (by first | rfl | trivial) (Ev.pos (by first | rfl | trivial) known_then))))
    · unfold hinterlandref11_People.f
      exact Ev.bind hr (Ev.pos h h1)
    · unfold town_People.f
      exact Ev.bind ht (Ev.pos h h2)
  · refine Ev.bind (a := (0, 0, vcode l tile H M mv du)) ?_ (Ev.bind (a := (0, 0, vcode l tile H M mv du)) ?_ (Ev.pos (by first | rfl | trivial) (Ev.pos (by first | rfl | trivial) (Ev.pos (by first | rfl | trivial) known_then))))
    · unfold hinterlandref11_People.f
      exact Ev.bind hr (Ev.neg h (Ev.now _))
    · unfold town_People.f
      exact Ev.bind ht (Ev.neg h (Ev.now _))

end Go.Proofs.Ytbdijpjlgokfkaa.Pure
