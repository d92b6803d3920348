/- The reference's first error of streets. No conditions. -/
import Derived.Test.YthjmdpekcleihaaPx0
import Derived.Test.YthjmdpekcleihaaPx8
import Derived.Test.YthjmdpekcleihaaEvKit
import Derived.Test.YthjmdpekcleihaaVOpen
import Derived.Test.YthjmdpekcleihaaLane0
namespace Go.Proofs.Ythjmdpekcleihaa.Pure
set_option linter.unusedVariables false
set_option linter.unusedSimpArgs false
open Go.RowKit Go.Proofs.YthjmdpekcleihaaW.PrintWords Go.Proofs.Ythjmdpekcleihaa.P Go.Proofs.Ythjmdpekcleihaa
section
variable {W H : Int} {A Y : List Int}
theorem side_eq (n : Int) : hinterlandref04_side.f n = some (decide (4 ≤ n ∧ n ≤ 32)) := by
 unfold hinterlandref04_side.f
 by_cases h : n ≥ 4
 ·rw [if_pos h];congr 1;apply decide_eq_decide.2;omega
 ·rw [if_neg h,decide_eq_false (by omega)]
theorem straight_eq (n : Int) : hinterlandref04_straight.f n = some (decide (n = 5 ∨ n = 10)) := by
 unfold hinterlandref04_straight.f
 by_cases h : n = 5
 ·rw [if_pos h,decide_eq_true (.inl h)]
 ·rw [if_neg h]
  by_cases h2 : n = 10
  ·rw [decide_eq_true (.inr h2),h2];rfl
  ·rw [decide_eq_false (by omega),show (n == 10) = false from beq_eq_false_iff_ne.2 h2]
theorem ref_validate_ev (hA : A.length ≤ 4000) (hY : Y.length ≤ 4000) : Ev (fun k => hinterlandref04_Validate.f k W H A Y) (vcode W H A Y) := by
 unfold hinterlandref04_Validate.f
 have bad : ¬ Shape W H A Y → ∀ q,q = true → Ev (fun k => hinterlandref04_Validate.j0 k q W H A Y) (vcode W H A Y):=by
  intro h q hq
  refine Ev.eq (Ev.step (fun k => by simp only [hinterlandref04_Validate.j0];rfl) (Ev.pos hq (Ev.now _))) (if_neg h).symm
 refine Ev.bindc (side_eq _) ?_
 by_cases w0 : 4 ≤ W ∧ W ≤ 32
 rotate_left
 ·exact Ev.neg (fun h => w0 (of_decide_eq_true h)) (bad (fun h => w0 h.1) _ rfl)
 refine Ev.pos (decide_eq_true w0) (Ev.bindc (side_eq _) ?_)
 by_cases h0 : 4 ≤ H ∧ H ≤ 32
 rotate_left
 ·exact Ev.neg (fun h => h0 (of_decide_eq_true h)) (bad (fun h => h0 h.2.1) _ rfl)
 refine Ev.pos (decide_eq_true h0) ?_
 have ha:=area w0 h0
 rw [wrap_in (x:=W * H) (by omega) (by omega)]
 by_cases l1 : (A.length : Int) = W * H
 rotate_left
 ·exact Ev.neg l1 (bad (fun h => l1 h.2.2.1) _ rfl)
 refine Ev.pos l1 ?_
 by_cases l2 : (Y.length : Int) = W * H
 rotate_left
 ·exact bad (fun h => l2 h.2.2.2) _ (bne_iff_ne.2 l2)
 have hs : Shape W H A Y:=⟨w0,h0,l1,l2⟩
 refine Ev.eq ?_ (if_pos hs).symm
 rw [show ((Y.length : Int) != W * H) = false from bne_eq_false_iff_eq.2 l2]
 refine Ev.step (fun k => by simp only [hinterlandref04_Validate.j0];rfl) (Ev.neg (by simp) ?_)
 have end0 : ∀ r,Ev (fun k => hinterlandref04_Validate.l1 k Y (Y.length : Int) (0 : Int) W H A Y) r → Ev (fun k => hinterlandref04_Validate.l0 k A (A.length : Int) ((A.length : Nat) : Int) W H A Y) r:=by
  intro r hr
  exact Ev.step (fun k => by simp only [hinterlandref04_Validate.l0];rfl) (Ev.neg (by omega) hr)
 have end1 : ∀ r,Ev (fun k => hinterlandref04_Validate.l2 k Y (Y.length : Int) (0 : Int) W H A Y) r → Ev (fun k => hinterlandref04_Validate.l1 k Y (Y.length : Int) ((Y.length : Nat) : Int) W H A Y) r:=by
  intro r hr
  exact Ev.step (fun k => by simp only [hinterlandref04_Validate.l1];rfl) (Ev.neg (by omega) hr)
 have end2 : Ev (fun k => hinterlandref04_Validate.l2 k Y (Y.length : Int) ((Y.length : Nat) : Int) W H A Y) 0 :=
  Ev.step (fun k => by simp only [hinterlandref04_Validate.l2];rfl) (Ev.neg (by omega) (Ev.now _))
 have good0 : ∀ i,i < A.length → ArmAt A i → ∀ r,Ev (fun k => hinterlandref04_Validate.l0 k A (A.length : Int) ((i : Int) + 1) W H A Y) r → Ev (fun k => hinterlandref04_Validate.l0 k A (A.length : Int) (i : Int) W H A Y) r:=by
  intro i hi p1 r hr
  unfold ArmAt at p1
  refine Ev.step (fun k => by simp only [hinterlandref04_Validate.l0];rfl) ?_
  rw [rdN,wrap_in (x:=(i : Int) + 1) (by omega) (by omega)]
  exact Ev.pos (by omega) (Ev.pos (by omega) (Ev.pos (by omega) (Ev.neg (by omega) (Ev.neg (by omega) hr))))
 have bad0 : ∀ i,i < A.length → ¬ ArmAt A i → Ev (fun k => hinterlandref04_Validate.l0 k A (A.length : Int) (i : Int) W H A Y) 1:=by
  intro i hi hp
  unfold ArmAt at hp
  refine Ev.step (fun k => by simp only [hinterlandref04_Validate.l0];rfl) ?_
  rw [rdN]
  refine Ev.pos (by omega) (Ev.pos (by omega) (Ev.pos (by omega) ?_))
  by_cases q1 : A.getD i 0 < 0
  ·exact Ev.pos q1 (Ev.now _)
  exact Ev.neg q1 (Ev.pos (by omega) (Ev.now _))
 have good1 : ∀ i,i < Y.length → WayAt Y i → ∀ r,Ev (fun k => hinterlandref04_Validate.l1 k Y (Y.length : Int) ((i : Int) + 1) W H A Y) r → Ev (fun k => hinterlandref04_Validate.l1 k Y (Y.length : Int) (i : Int) W H A Y) r:=by
  intro i hi p1 r hr
  unfold WayAt at p1
  refine Ev.step (fun k => by simp only [hinterlandref04_Validate.l1];rfl) ?_
  rw [rdN,wrap_in (x:=(i : Int) + 1) (by omega) (by omega)]
  exact Ev.pos (by omega) (Ev.pos (by omega) (Ev.pos (by omega) (Ev.neg (by omega) (Ev.neg (by omega) hr))))
 have bad1 : ∀ i,i < Y.length → ¬ WayAt Y i → Ev (fun k => hinterlandref04_Validate.l1 k Y (Y.length : Int) (i : Int) W H A Y) 1:=by
  intro i hi hp
  unfold WayAt at hp
  refine Ev.step (fun k => by simp only [hinterlandref04_Validate.l1];rfl) ?_
  rw [rdN]
  refine Ev.pos (by omega) (Ev.pos (by omega) (Ev.pos (by omega) ?_))
  by_cases q1 : Y.getD i 0 < 0
  ·exact Ev.pos q1 (Ev.now _)
  exact Ev.neg q1 (Ev.pos (by omega) (Ev.now _))
 have good2 : ∀ i,i < Y.length → OneAt A Y i → ∀ r,Ev (fun k => hinterlandref04_Validate.l2 k Y (Y.length : Int) ((i : Int) + 1) W H A Y) r → Ev (fun k => hinterlandref04_Validate.l2 k Y (Y.length : Int) (i : Int) W H A Y) r:=by
  intro i hi p r hr
  unfold OneAt at p
  refine Ev.step (fun k => by simp only [hinterlandref04_Validate.l2];rfl) ?_
  rw [rdN,rdN,wrap_in (x:=(i : Int) + 1) (by omega) (by omega)]
  refine Ev.pos (by omega) (Ev.pos (by omega) (Ev.pos (by omega) ?_))
  by_cases q1 : Y.getD i 0 = 0
  ·exact Ev.pos q1 hr
  exact Ev.neg q1 (Ev.pos (by omega) (Ev.bindc (straight_eq _) (Ev.pos (decide_eq_true (by omega)) hr)))
 have bad2 : ∀ i,i < Y.length → ¬ OneAt A Y i → Ev (fun k => hinterlandref04_Validate.l2 k Y (Y.length : Int) (i : Int) W H A Y) 9:=by
  intro i hi p
  unfold OneAt at p
  refine Ev.step (fun k => by simp only [hinterlandref04_Validate.l2];rfl) ?_
  rw [rdN,rdN]
  exact Ev.pos (by omega) (Ev.pos (by omega) (Ev.pos (by omega) (Ev.neg (by omega) (Ev.pos (by omega) (Ev.bindc (straight_eq _) (Ev.neg (fun h => by have:=of_decide_eq_true h;omega) (Ev.now _)))))))
 by_cases g0 : Arms A
 rotate_left
 ·exact Ev.eq (Ev.scan_some (g:=fun k i => hinterlandref04_Validate.l0 k A (A.length : Int) i W H A Y) good0 bad0 A.length 0 (by omega) (not_all g0)) (if_neg (fun h => g0 h.1)).symm
 refine Ev.scan_all (g:=fun k i => hinterlandref04_Validate.l0 k A (A.length : Int) i W H A Y) (end0 _ ?_) good0 A.length 0 (by omega) g0
 by_cases g1 : Wayz Y
 rotate_left
 ·exact Ev.eq (Ev.scan_some (g:=fun k i => hinterlandref04_Validate.l1 k Y (Y.length : Int) i W H A Y) good1 bad1 Y.length 0 (by omega) (not_all g1)) (if_neg (fun h => g1 h.2)).symm
 refine Ev.eq ?_ (if_pos ⟨g0,g1⟩).symm
 refine Ev.scan_all (g:=fun k i => hinterlandref04_Validate.l1 k Y (Y.length : Int) i W H A Y) (end1 _ ?_) good1 Y.length 0 (by omega) g1
 by_cases g2 : Ones A Y
 ·exact Ev.eq (Ev.scan_all (g:=fun k i => hinterlandref04_Validate.l2 k Y (Y.length : Int) i W H A Y) end2 good2 Y.length 0 (by omega) g2) (if_pos g2).symm
 ·exact Ev.eq (Ev.scan_some (g:=fun k i => hinterlandref04_Validate.l2 k Y (Y.length : Int) i W H A Y) good2 bad2 Y.length 0 (by omega) (not_all g2)) (if_neg g2).symm
end
section
variable {W H t s : Int}
end
section
variable {W H t s : Int} {A Y : List Int}
end

end Go.Proofs.Ythjmdpekcleihaa.Pure
