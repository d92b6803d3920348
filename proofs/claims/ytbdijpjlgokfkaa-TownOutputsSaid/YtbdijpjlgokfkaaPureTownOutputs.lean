/- Layer 11, TownOutputs (P11.3): what the houses of a town give. No conditions. -/
import Derived.Test.YtbdijpjlgokfkaaPSTownOutputs
import Derived.Test.YtbdijpjlgokfkaaTown2
namespace Go.Proofs.Ytbdijpjlgokfkaa.Pure
set_option linter.unusedVariables false
set_option linter.unusedSimpArgs false
open Go.RowKit Go.Proofs.YtbdijpjlgokfkaaW.PrintWords Go.Proofs.Ytbdijpjlgokfkaa.P Go.Proofs.Ytbdijpjlgokfkaa

theorem output_l0 (l : List S80) (tile : Int) (H : List S68) (M : List Int) (mv du : Int) (hH : H.length ≤ 600) (hh : HousesOf l H) : ∀ (n i : Nat) (o : List S56), i + n = H.length → o.length = i → ∃ r : List S56, r.length = H.length ∧ Ev (fun k => hinterlandref11_Output.l0 k l o (i : Int) tile H M mv du) (r, 0) ∧ Ev (fun k => town_Output.l0 k l o H (H.length : Int) (i : Int)) (r, 0)
  | 0, i, o, h, ho => by
    refine ⟨o, by omega, Ev.step (fun k => by simp only [hinterlandref11_Output.l0]; rfl) (Ev.neg (by omega) (Ev.now _)), Ev.step (fun k => by simp only [town_Output.l0]; rfl) (Ev.neg (by omega) (Ev.now _))⟩
  | n + 1, i, o, h, ho => by
    have hp := hh i (by omega) (by omega)
    unfold HouseOf at hp
    obtain ⟨r, hr, h1, h2⟩ := output_l0 l tile H M mv du hH hh n (i + 1) (o ++ [(⟨(H.getD i z68).f0, wrap64 (Int.tdiv (wrap64 (((rd_T80 l ((H.getD i z68).f1)).f1) + 7)) 8), wrap64 (Int.tdiv (wrap64 (((rd_T80 l ((H.getD i z68).f1)).f2) + 7)) 8)⟩ : S56)]) (by omega) (by simp [ho])
    rw [show ((i + 1 : Nat) : Int) = (i : Int) + 1 from by omega] at h1 h2
    refine ⟨r, hr, Ev.step (fun k => by simp only [hinterlandref11_Output.l0]; rfl) ?_, Ev.step (fun k => by simp only [town_Output.l0]; rfl) ?_⟩
    · rw [rdH, wrap_in (x := (i : Int) + 1) (by omega) (by omega)]
      exact Ev.pos (by omega) (Ev.pos (by omega) (Ev.pos (by omega) (Ev.pos (by omega) (Ev.pos (by omega) h1))))
    · rw [rdH, wrap_in (x := (i : Int) + 1) (by omega) (by omega)]
      exact Ev.pos (by omega) (Ev.pos (by omega) (Ev.pos (by omega) (Ev.pos (by omega) (Ev.pos (by omega) (Ev.pos (by omega) h2)))))
theorem same_yields_ev (l : List S56) (hl : l.length ≤ 9223372036854775807) : Ev (fun k => api_Yield.f k l l) true := by
  unfold api_Yield.f
  refine Ev.pos (by first | rfl | trivial) ?_
  refine Ev.scan_all (g := fun k i => api_Yield.l0 k l l i) (n := l.length) (p := fun _ => True) ?_ ?_ l.length 0 (by omega) (fun _ _ _ => trivial)
  · refine Ev.step (fun k => by simp only [api_Yield.l0]; rfl) ?_
    exact Ev.neg (by omega) (Ev.now _)
  · intro i hi _ r hr
    refine Ev.step (fun k => by simp only [api_Yield.l0]; rfl) ?_
    refine Ev.pos (by omega) (Ev.pos (by omega) (Ev.pos (by omega) (Ev.neg (by simp) ?_)))
    rw [wrap_in (by omega) (by omega)]
    exact hr

theorem TownOutputs : hinterlandlaw11_TownOutputs.Pure := by
  intro l tile H M mv du hl _ _ _ _ _
  have hz := sized_of hl
  refine Ev.rounds ?_
  unfold hinterlandlaw11_TownOutputs.f
  refine Ev.bindc (far_eq _ _ _ _ _ _) ?_
  by_cases hfar : (l.length : Int) > 300 ∨ (H.length : Int) > 600 ∨ (M.length : Int) > 300
  · exact Ev.pos (decide_eq_true hfar) known_then
  refine Ev.neg (fun h => hfar (of_decide_eq_true h)) ?_
  have hr := ref_validate_ev (l := l) (tile := tile) (H := H) (M := M) (mv := mv) (du := du) hz (by omega) (by omega)
  have ht := validate_ev (l := l) (tile := tile) (H := H) (M := M) (mv := mv) (du := du) hz (by omega) (by omega) (by omega)
  by_cases h : vcode l tile H M mv du = 0
  · obtain ⟨r, hn, h1, h2⟩ := output_l0 l tile H M mv du (by omega) (vcode_zero.1 h).2.2 H.length 0 [] (by omega) rfl
    refine Ev.bind (a := (r, 0)) ?_ (Ev.bind (a := (r, 0)) ?_ (Ev.pos (by first | rfl | trivial) (Ev.bind (same_yields_ev _ (by dsimp only; omega)) (Ev.pos (by first | rfl | trivial) known_then))))
    · unfold hinterlandref11_Output.f
      exact Ev.bind hr (Ev.pos h h1)
    · unfold town_Output.f
      exact Ev.bind ht (Ev.pos h h2)
  · refine Ev.bind (a := ([], vcode l tile H M mv du)) ?_ (Ev.bind (a := ([], vcode l tile H M mv du)) ?_ (Ev.pos (by first | rfl | trivial) (Ev.bind (same_yields_ev _ (by simp)) (Ev.pos (by first | rfl | trivial) known_then))))
    · unfold hinterlandref11_Output.f
      exact Ev.bind hr (Ev.neg h (Ev.now _))
    · unfold town_Output.f
      exact Ev.bind ht (Ev.neg h (Ev.now _))

end Go.Proofs.Ytbdijpjlgokfkaa.Pure
