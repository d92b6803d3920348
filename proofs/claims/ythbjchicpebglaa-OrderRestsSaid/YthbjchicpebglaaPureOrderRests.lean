/- Layer 15, OrderRests (P15.2): what comes next is a place of the list that is no jump, and comes next of itself. No conditions. -/
import Derived.Test.YthbjchicpebglaaPSOrderRests
import Derived.Test.YthbjchicpebglaaOrder1
namespace Go.Proofs.Ythbjchicpebglaa.Pure
set_option linter.unusedVariables false
set_option linter.unusedSimpArgs false
open Go.RowKit Go.Proofs.YthbjchicpebglaaW.PrintWords Go.Proofs.Ythbjchicpebglaa.P Go.Proofs.Ythbjchicpebglaa

theorem OrderRests : hinterlandlaw15_OrderRests.Pure := by
  intro l a b0 b1 b2 b3 _ _ _ _ _ _
  refine Ev.rounds ?_
  unfold hinterlandlaw15_OrderRests.f
  by_cases h : (l.length : Int) > 300
  · exact Ev.pos h (Ev.bind known_ev (Ev.now _))
  refine Ev.neg h (Ev.bind (order_next_ev l a b0 b1 b2 b3) ?_)
  have out : ∀ x, Ev (fun k => hinterlandlaw15_OrderRests.j0 k l x true b0 b1 b2 b3) true := fun x => by
    refine Ev.step (fun k => by simp only [hinterlandlaw15_OrderRests.j0]; rfl) ?_
    exact Ev.pos (by trivial) (Ev.bind known_ev (Ev.now _))
  by_cases he : (nextAns l a b0 b1 b2 b3).2.2 = 0
  · refine Ev.pos he ?_
    cases his : (nextAns l a b0 b1 b2 b3).2.1 with
    | false => exact out _
    | true =>
      -- the list is right, the place lies in it
      have hv : vcode l = 0 := by
        apply Classical.byContradiction
        intro hv
        rw [nextAns, if_neg hv] at his
        exact absurd his (by simp)
      obtain ⟨h40, hk, ho⟩ := vcode_zero.1 hv
      have h0 : l.length ≠ 0 := by
        intro h0
        rw [nextAns, if_pos hv, if_pos h0] at his
        exact absurd his (by simp)
      have ha : 0 ≤ a ∧ a < (l.length : Int) := by
        apply Classical.byContradiction
        intro ha
        rw [nextAns, if_pos hv, if_neg h0, if_neg ha] at his
        exact absurd his (by simp)
      obtain ⟨n, rfl⟩ := Int.eq_ofNat_of_zero_le ha.1
      have hn : n < l.length := by omega
      have e1 : nextAns l (n : Int) b0 b1 b2 b3 = ((nextOf l n b0 b1 b2 b3).1, (nextOf l n b0 b1 b2 b3).2, 0) := by
        rw [nextAns, if_pos hv, if_neg h0, if_pos ha, Int.toNat_natCast]
      rw [e1] at his ⊢
      obtain ⟨m, hm, hml, hj⟩ := firstIn_true (b0 := b0) (b1 := b1) (b2 := b2) (b3 := b3) ho (l.length + 1) n (nextOf l n b0 b1 b2 b3).1 hn (Prod.ext rfl his)
      have e2 : nextAns l (m : Int) b0 b1 b2 b3 = ((m : Int), true, 0) := by
        have : nextOf l m b0 b1 b2 b3 = ((m : Int), true) := by unfold nextOf firstIn; rw [if_neg hj]
        rw [nextAns, if_pos hv, if_neg h0, if_pos (by omega), Int.toNat_natCast, this]
      simp only [Bool.not_true]
      refine Ev.step (fun k => by simp only [hinterlandlaw15_OrderRests.j0]; rfl) ?_
      refine Ev.neg (by simp) ?_
      rw [hm]
      refine Ev.bind (order_next_ev l (m : Int) b0 b1 b2 b3) ?_
      rw [e2]
      refine Ev.pos (by omega) (Ev.pos (by omega) (Ev.pos (by omega) ?_))
      rw [rdN]
      exact Ev.neg hj (Ev.pos rfl (Ev.pos rfl (Ev.pos rfl (Ev.bind known_ev (Ev.now _)))))
  · exact Ev.neg he (out _)

end Go.Proofs.Ythbjchicpebglaa.Pure
