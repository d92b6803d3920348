/- Layer 15, OrderRounds (P15.5): a vehicle that comes a full round later is as late, and one that begins later by as much as it comes later, too. No conditions. -/
import Derived.Test.YthbjchicpebglaaPSOrderRounds
import Derived.Test.YthbjchicpebglaaOrder2
namespace Go.Proofs.Ythbjchicpebglaa.Pure
set_option linter.unusedVariables false
set_option linter.unusedSimpArgs false
open Go.RowKit Go.Proofs.YthbjchicpebglaaW.PrintWords Go.Proofs.Ythbjchicpebglaa.P Go.Proofs.Ythbjchicpebglaa

theorem j0_out (l : List S33) (b a n m x y : Int) : Ev (fun k => hinterlandlaw15_OrderRounds.j0 k l b a n m x y true) true := by
  refine Ev.step (fun k => by simp only [hinterlandlaw15_OrderRounds.j0]; rfl) ?_
  exact Ev.pos (by trivial) (Ev.bind known_ev (Ev.now _))
theorem j3_out (l : List S33) (b a n m x : Int) : Ev (fun k => hinterlandlaw15_OrderRounds.j3 k l b a n m x false) true := by
  refine Ev.step (fun k => by simp only [hinterlandlaw15_OrderRounds.j3]; rfl) ?_
  exact Ev.neg (by simp) (Ev.bind known_ev (Ev.now _))
theorem lateBy_round {d R : Int} (hR : 0 < R) (hd : 0 ≤ lateBy d R) : lateBy (d + R) R = lateBy d R := by
  unfold lateBy at *
  by_cases h : d ≥ R
  · rw [if_pos h, if_pos (by omega), Int.add_emod_right]
  · rw [if_neg h] at hd ⊢
    rw [if_pos (by omega), Int.add_emod_right, Int.emod_eq_of_lt hd (by omega)]

theorem OrderRounds : hinterlandlaw15_OrderRounds.Pure := by
  intro l b a n m gl gb ga gn gm
  refine Ev.rounds ?_
  unfold hinterlandlaw15_OrderRounds.f
  by_cases h : (l.length : Int) > 300
  · exact Ev.pos h (Ev.bind known_ev (Ev.now _))
  refine Ev.neg h (Ev.bind (order_late_ev l b a n) (Ev.bind (order_Times_ev l b) ?_))
  by_cases hv : vcode l = 0
  · obtain ⟨h40, hk, ho⟩ := vcode_zero.1 hv
    by_cases ha : 0 ≤ a ∧ a < (l.length : Int)
    · by_cases hbn : (0 ≤ b ∧ b ≤ 1600000) ∧ (0 ≤ n ∧ n ≤ 1600000)
      · have et : timesAns l b = ((timesOf l b).1, (timesOf l b).2.1, (timesOf l b).2.2, 0) := by unfold timesAns; rw [if_pos hv, if_pos hbn.1]
        rcases told_or l with hu | ⟨ts, R, ht, hR⟩
        · rw [lateAns_untold hv ha hbn hu, et]
          exact Ev.pos (by trivial) (Ev.pos (by trivial) (Ev.neg (by simp) (j0_out ..)))
        · obtain ⟨e1, e2, e3, e4⟩ := tt_all hk ht
          have hm := e4 _ (mem_getD (ts := ts) (i := a.toNat) (by omega))
          have hmi := V.gInt.i64 gm
          rw [lateAns_told hv ha hbn ht hR, et, timesOf_told b ht hR]
          refine Ev.pos (by trivial) (Ev.pos (by trivial) (Ev.pos (by trivial) ?_))
          dsimp only
          refine Ev.step (fun k => by simp only [hinterlandlaw15_OrderRounds.j0]; rfl) ?_
          refine Ev.neg (by simp) ?_
          -- what is left behind the first question
          have j3 : Ev (fun k => hinterlandlaw15_OrderRounds.j2 k l b a n m (lateBy (n - (b + ts.getD a.toNat 0)) R)) true := by
            refine Ev.step (fun k => by simp only [hinterlandlaw15_OrderRounds.j2]; rfl) ?_
            by_cases c1 : m ≥ 0
            · refine Ev.pos c1 ?_
              by_cases c2 : m ≤ 1600000
              · refine Ev.pos c2 ?_
                rw [wrap_in (x := b + m) (by omega) (by omega), wrap_in (x := n + m) (by omega) (by omega)]
                by_cases c3 : b + m ≤ 1600000
                · refine Ev.pos c3 ?_
                  by_cases c4 : n + m ≤ 1600000
                  · rw [decide_eq_true c4]
                    refine Ev.step (fun k => by simp only [hinterlandlaw15_OrderRounds.j3]; rfl) ?_
                    rw [wrap_in (x := b + m) (by omega) (by omega), wrap_in (x := n + m) (by omega) (by omega)]
                    refine Ev.pos (by trivial) (Ev.bind (order_late_ev l _ _ _) ?_)
                    rw [lateAns_told hv ha ⟨by omega, by omega⟩ ht hR]
                    dsimp only
                    rw [show n + m - (b + m + ts.getD a.toNat 0) = n - (b + ts.getD a.toNat 0) by omega]
                    exact Ev.pos (by trivial) (Ev.pos (by trivial) (Ev.bind known_ev (Ev.now _)))
                  · rw [decide_eq_false c4]; exact j3_out ..
                · exact Ev.neg c3 (j3_out ..)
              · exact Ev.neg c2 (j3_out ..)
            · exact Ev.neg c1 (j3_out ..)
          rw [wrap_in (x := n + R) (by omega) (by omega)]
          have j1f : Ev (fun k => hinterlandlaw15_OrderRounds.j1 k l b a n m (lateBy (n - (b + ts.getD a.toNat 0)) R) R false) true := by
            refine Ev.step (fun k => by simp only [hinterlandlaw15_OrderRounds.j1]; rfl) ?_
            exact Ev.neg (by simp) j3
          by_cases hp : lateBy (n - (b + ts.getD a.toNat 0)) R ≥ 0
          · refine Ev.pos hp ?_
            by_cases c : n + R ≤ 1600000
            · rw [decide_eq_true c]
              refine Ev.step (fun k => by simp only [hinterlandlaw15_OrderRounds.j1]; rfl) ?_
              rw [wrap_in (x := n + R) (by omega) (by omega)]
              refine Ev.pos (by trivial) (Ev.bind (order_late_ev l _ _ _) ?_)
              rw [lateAns_told hv ha ⟨hbn.1, by omega⟩ ht hR]
              dsimp only
              rw [show n + R - (b + ts.getD a.toNat 0) = n - (b + ts.getD a.toNat 0) + R by omega, lateBy_round (by omega) hp]
              exact Ev.pos (by trivial) (Ev.pos (by trivial) j3)
            · rw [decide_eq_false c]; exact j1f
          · exact Ev.neg hp j1f
      · rw [lateAns_arg hv ha hbn]
        exact Ev.neg (by simp) (j0_out ..)
    · rw [lateAns_none hv ha]
      exact Ev.neg (by simp) (j0_out ..)
  · rw [lateAns_bad hv]
    exact Ev.neg hv (j0_out ..)

end Go.Proofs.Ythbjchicpebglaa.Pure
