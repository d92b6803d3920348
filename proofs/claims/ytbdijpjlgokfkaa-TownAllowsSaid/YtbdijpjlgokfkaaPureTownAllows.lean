/- Layer 11, TownAllows (P11.4): which deeds a town lets a company do. No conditions. -/
import Derived.Test.YtbdijpjlgokfkaaPSTownAllows
import Derived.Test.YtbdijpjlgokfkaaTown1
namespace Go.Proofs.Ytbdijpjlgokfkaa.Pure
set_option linter.unusedVariables false
set_option linter.unusedSimpArgs false
open Go.RowKit Go.Proofs.YtbdijpjlgokfkaaW.PrintWords Go.Proofs.Ytbdijpjlgokfkaa.P Go.Proofs.Ytbdijpjlgokfkaa
theorem allows_ok {tile : Int} {H : List S68} {M : List Int} {mv du c d : Int} (h : dcode tile H M mv du c d = 0) : ∃ r, Ev (fun k => hinterlandref11_Allows.f k tile H M mv du c d) (r, 0) ∧ Ev (fun k => town_Allows.f k tile H M mv du c d) (r, 0) := by
  have hd := dcode_zero.1 h
  have hv := tcode_zero.1 hd.1
  have hm : Moods M := hv.2.1.2.1
  have h12 : M.length = 12 := hm.2
  have h1 := mood_in hm c.toNat
  have hrd : rd M c = M.getD c.toNat 0 := rfl
  have town : ∀ least : Int, least = (if d = 0 ∨ d = 3 then -200 else if d = 4 then -400 else -1000) → Ev (fun k => town_Allows.f k tile H M mv du c d) (decide (rd M c ≥ least), 0) := by
    intro least hl
    unfold town_Allows.f
    refine Ev.bind (check_ev tile H M mv du c d (by omega)) (Ev.pos h ?_)
    have fin : ∀ q : Bool, q = decide (d = 0 ∨ d = 3) → Ev (fun k => town_Allows.j0 k c (-1000) d q tile H M mv du) (decide (rd M c ≥ least), 0) := by
      intro q hq
      refine Ev.step (fun k => by simp only [town_Allows.j0]; rfl) ?_
      by_cases h03 : d = 0 ∨ d = 3
      · rw [if_pos h03] at hl
        subst hl
        exact Ev.pos (by rw [hq]; exact decide_eq_true h03) (Ev.pos (by omega) (Ev.pos (by omega) (Ev.now _)))
      · rw [if_neg h03] at hl
        refine Ev.neg (by rw [hq]; simpa using h03) ?_
        by_cases h4 : d = 4
        · rw [if_pos h4] at hl
          subst hl
          exact Ev.pos h4 (Ev.pos (by omega) (Ev.pos (by omega) (Ev.now _)))
        · rw [if_neg h4] at hl
          subst hl
          exact Ev.neg h4 (Ev.pos (by omega) (Ev.pos (by omega) (Ev.now _)))
    by_cases h0 : d = 0
    · exact Ev.pos h0 (fin _ (by subst h0; rfl))
    · exact Ev.neg h0 (fin _ (by simp [h0]; rfl))
  refine ⟨_, ?_, town _ rfl⟩
  unfold hinterlandref11_Allows.f
  refine Ev.bind (deedError_ev tile H M mv du c d) (Ev.pos h (Ev.pos (by omega) (Ev.pos (by omega) ?_)))
  by_cases h03 : d = 0 ∨ d = 3
  · have hs : (if d = 0 ∨ d = 3 then (-200 : Int) else if d = 4 then -400 else -1000) = -200 := if_pos h03
    rw [hs]
    by_cases g : rd M c ≥ -200
    · rw [decide_eq_true g]; exact Ev.pos g (Ev.now _)
    · rw [decide_eq_false g]
      refine Ev.neg g ?_
      by_cases g4 : rd M c ≥ -400
      · refine Ev.pos g4 (Ev.neg (by omega) ?_)
        rcases h03 with h0 | h3
        · exact Ev.pos h0 (Ev.now _)
        · exact Ev.neg (by omega) (Ev.pos h3 (Ev.now _))
      · refine Ev.neg g4 ?_
        rcases h03 with h0 | h3
        · exact Ev.pos h0 (Ev.now _)
        · exact Ev.neg (by omega) (Ev.pos h3 (Ev.now _))
  by_cases h4 : d = 4
  · have hs : (if d = 0 ∨ d = 3 then (-200 : Int) else if d = 4 then -400 else -1000) = -400 := by rw [if_neg h03, if_pos h4]
    rw [hs]
    by_cases g : rd M c ≥ -200
    · rw [decide_eq_true (show rd M c ≥ -400 by omega)]; exact Ev.pos g (Ev.now _)
    · refine Ev.neg g ?_
      by_cases g4 : rd M c ≥ -400
      · rw [decide_eq_true g4]; exact Ev.pos g4 (Ev.pos h4 (Ev.now _))
      · rw [decide_eq_false g4]
        exact Ev.neg g4 (Ev.neg (by omega) (Ev.neg (by omega) (Ev.const (by rw [h4]; rfl))))
  · have hs : (if d = 0 ∨ d = 3 then (-200 : Int) else if d = 4 then -400 else -1000) = -1000 := by rw [if_neg h03, if_neg h4]
    rw [hs, decide_eq_true (show rd M c ≥ -1000 by rw [hrd]; omega)]
    have fin : (some ((d != 4), (0 : Int)) : Option (Bool × Int)) = some (true, 0) := by rw [bne_iff_ne.2 h4]
    by_cases g : rd M c ≥ -200
    · exact Ev.pos g (Ev.now _)
    · refine Ev.neg g ?_
      by_cases g4 : rd M c ≥ -400
      · exact Ev.pos g4 (Ev.neg h4 (Ev.neg (by omega) (Ev.neg (by omega) (Ev.const fin))))
      · exact Ev.neg g4 (Ev.neg (by omega) (Ev.neg (by omega) (Ev.const fin)))

theorem TownAllows : hinterlandlaw11_TownAllows.Pure := by
  intro tile H M mv du c d _ _ _ _ _ _ _
  refine Ev.rounds ?_
  unfold hinterlandlaw11_TownAllows.f
  refine Ev.bindc (far_eq _ _ _ _ _ _) ?_
  by_cases hfar : ((([] : List S80).length : Nat) : Int) > 300 ∨ (H.length : Int) > 600 ∨ (M.length : Int) > 300
  · exact Ev.pos (decide_eq_true hfar) known_then
  refine Ev.neg (fun h => hfar (of_decide_eq_true h)) ?_
  by_cases h : dcode tile H M mv du c d = 0
  · obtain ⟨r, hr, ht⟩ := allows_ok h
    exact Ev.bind hr (Ev.bind ht (Ev.pos (by simp) (Ev.pos (by first | rfl | trivial) known_then)))
  · refine Ev.bind (a := (false, dcode tile H M mv du c d)) ?_ (Ev.bind (a := (false, dcode tile H M mv du c d)) ?_ (Ev.pos (by first | rfl | trivial) (Ev.pos (by first | rfl | trivial) known_then)))
    · unfold hinterlandref11_Allows.f
      exact Ev.bind (deedError_ev tile H M mv du c d) (Ev.neg h (Ev.now _))
    · unfold town_Allows.f
      exact Ev.bind (check_ev tile H M mv du c d (by omega)) (Ev.neg h (Ev.now _))

end Go.Proofs.Ytbdijpjlgokfkaa.Pure
