/- Layer 15, OrderTimes (P15.5): the program and the reference say alike when a vehicle is due at each order of every list. No conditions. -/
import Derived.Test.YthbjchicpebglaaPSOrderTimes
import Derived.Test.YthbjchicpebglaaOrder2
namespace Go.Proofs.Ythbjchicpebglaa.Pure
set_option linter.unusedVariables false
set_option linter.unusedSimpArgs false
open Go.RowKit Go.Proofs.YthbjchicpebglaaW.PrintWords Go.Proofs.Ythbjchicpebglaa.P Go.Proofs.Ythbjchicpebglaa

theorem timesAns_len (l : List S33) (s : Int) : (timesAns l s).1.length ≤ 9223372036854775807 := by
  unfold timesAns
  by_cases h : vcode l = 0
  · rw [if_pos h]
    obtain ⟨h40, hk, ho⟩ := vcode_zero.1 h
    by_cases hs : 0 ≤ s ∧ s ≤ 1600000
    · rw [if_pos hs]
      rcases told_or l with hu | ⟨ts, R, ht, hR⟩
      · rw [timesOf_untold s hu]; simp
      · obtain ⟨e1, _⟩ := tt_all hk ht
        rw [timesOf_told s ht hR]; simp; omega
    · rw [if_neg hs]; simp
  · rw [if_neg h]; simp
theorem OrderTimes : hinterlandlaw15_OrderTimes.Pure := by
  intro l s _ _
  refine Ev.rounds ?_
  unfold hinterlandlaw15_OrderTimes.f
  by_cases h : (l.length : Int) > 300
  · exact Ev.pos h (Ev.bind known_ev (Ev.now _))
  · exact Ev.neg h (Ev.bind (ref_Times_ev l s) (Ev.bind (order_Times_ev l s) (Ev.pos rfl (Ev.pos rfl (Ev.pos (by simp) (Ev.bind (same_ints_ev _ (timesAns_len l s)) (Ev.pos rfl (Ev.bind known_ev (Ev.now _)))))))))

end Go.Proofs.Ythbjchicpebglaa.Pure
