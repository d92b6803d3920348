/- Layer 15, OrderAfters (P15.2): the program and the reference name the same order behind every place of every list for every being. No conditions. -/
import Derived.Test.YthbjchicpebglaaPSOrderAfters
import Derived.Test.YthbjchicpebglaaOrder1
namespace Go.Proofs.Ythbjchicpebglaa.Pure
set_option linter.unusedVariables false
set_option linter.unusedSimpArgs false
open Go.RowKit Go.Proofs.YthbjchicpebglaaW.PrintWords Go.Proofs.Ythbjchicpebglaa.P Go.Proofs.Ythbjchicpebglaa

/-- After's answer. -/
noncomputable def afterAns (l : List S33) (a b0 b1 b2 b3 : Int) : Int × Bool × Int :=
  if vcode l = 0 then (if l.length = 0 then (0, false, 0) else if 0 ≤ a ∧ a < (l.length : Int) then ((nextOf l (if a.toNat + 1 < l.length then a.toNat + 1 else 0) b0 b1 b2 b3).1, (nextOf l (if a.toNat + 1 < l.length then a.toNat + 1 else 0) b0 b1 b2 b3).2, 0) else (0, false, 2)) else (0, false, vcode l)
theorem order_after_ev (l : List S33) (a b0 b1 b2 b3 : Int) : Ev (fun k => order_After.f k l a b0 b1 b2 b3) (afterAns l a b0 b1 b2 b3) := by
  unfold order_After.f
  refine Ev.bind (order_check_ev l a) ?_
  unfold afterAns
  by_cases h : vcode l = 0
  · obtain ⟨h40, hk, ho⟩ := vcode_zero.1 h
    by_cases h0 : l.length = 0
    · simp only [h, h0, if_true]
      exact Ev.now _
    · by_cases ha : 0 ≤ a ∧ a < (l.length : Int)
      · simp only [h, h0, ha, and_self, if_true, if_false]
        refine Ev.neg (by omega) ?_
        obtain ⟨n, rfl⟩ := Int.eq_ofNat_of_zero_le ha.1
        rw [tmod_next l n (by omega) h40, Int.toNat_natCast]
        exact Ev.bind (follow_at h40 hk ho b0 b1 b2 b3 _ (by split <;> omega)) (Ev.now _)
      · simp only [h, h0, ha, if_true, if_false]
        exact Ev.neg (by omega) (Ev.now _)
  · simp only [h, if_false]
    exact Ev.now _
theorem nextAns_at {l : List S33} (h : vcode l = 0) {n : Nat} (hn : n < l.length) (b0 b1 b2 b3 : Int) : nextAns l (n : Int) b0 b1 b2 b3 = ((nextOf l n b0 b1 b2 b3).1, (nextOf l n b0 b1 b2 b3).2, 0) := by
  rw [nextAns, if_pos h, if_neg (by omega), if_pos (by omega), Int.toNat_natCast]
theorem ref_after_ev (l : List S33) (a b0 b1 b2 b3 : Int) : Ev (fun k => hinterlandref15_After.f k l a b0 b1 b2 b3) (afterAns l a b0 b1 b2 b3) := by
  unfold hinterlandref15_After.f
  refine Ev.bind (ref_validate_ev l) ?_
  have out : Ev (fun k => hinterlandref15_After.j0 k l a true b0 b1 b2 b3) (0, false, 2) := by
    refine Ev.step (fun k => by simp only [hinterlandref15_After.j0]; rfl) ?_
    exact Ev.pos (by trivial) (Ev.now _)
  unfold afterAns
  by_cases h : vcode l = 0
  · obtain ⟨h40, hk, ho⟩ := vcode_zero.1 h
    refine Ev.pos h ?_
    by_cases h0 : l.length = 0
    · simp only [h, h0, if_true]
      exact Ev.pos (by omega) (Ev.now _)
    · refine Ev.neg (by omega) ?_
      by_cases ha : 0 ≤ a ∧ a < (l.length : Int)
      · simp only [h, h0, ha, and_self, if_true, if_false]
        refine Ev.neg (by omega) ?_
        obtain ⟨n, rfl⟩ := Int.eq_ofNat_of_zero_le ha.1
        rw [show decide ((n : Int) ≥ (l.length : Int)) = false from decide_eq_false (by omega), Int.toNat_natCast]
        refine Ev.step (fun k => by simp only [hinterlandref15_After.j0]; rfl) ?_
        refine Ev.neg (by simp) ?_
        rw [wrap_in (by omega) (by omega), wrap_in (by omega) (by omega)]
        by_cases hl : n + 1 < l.length
        · rw [if_pos hl]
          refine Ev.neg (by omega) (Ev.bind (ref_next_ev l _ b0 b1 b2 b3) ?_)
          have e := nextAns_at h (n := n + 1) hl b0 b1 b2 b3
          rw [show (((n + 1 : Nat) : Int)) = (n : Int) + 1 by omega] at e
          rw [e]
          exact Ev.now _
        · rw [if_neg hl]
          refine Ev.pos (by omega) (Ev.bind (ref_next_ev l _ b0 b1 b2 b3) ?_)
          have e := nextAns_at h (n := 0) (by omega) b0 b1 b2 b3
          rw [show ((0 : Nat) : Int) = 0 from rfl] at e
          rw [e]
          exact Ev.now _
      · simp only [h, h0, ha, if_true, if_false]
        by_cases hn : a < 0
        · exact Ev.pos hn out
        · refine Ev.neg hn ?_
          rw [show decide (a ≥ (l.length : Int)) = true from decide_eq_true (by omega)]
          exact out
  · refine Ev.neg h ?_
    simp only [h, if_false]
    exact Ev.now _

theorem OrderAfters : hinterlandlaw15_OrderAfters.Pure := by
  intro l a b0 b1 b2 b3 _ _ _ _ _ _
  refine Ev.rounds ?_
  unfold hinterlandlaw15_OrderAfters.f
  by_cases h : (l.length : Int) > 300
  · exact Ev.pos h (Ev.bind known_ev (Ev.now _))
  · exact Ev.neg h (Ev.bind (ref_after_ev l a b0 b1 b2 b3) (Ev.bind (order_after_ev l a b0 b1 b2 b3) (Ev.pos rfl (Ev.pos (by simp) (Ev.pos rfl (Ev.bind known_ev (Ev.now _)))))))

end Go.Proofs.Ythbjchicpebglaa.Pure
