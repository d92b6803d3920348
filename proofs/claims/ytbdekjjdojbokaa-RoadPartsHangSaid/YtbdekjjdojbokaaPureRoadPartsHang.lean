/- Layer 4, RoadPartsHang (P4.4): joined tiles have one part, a part is the least of its tiles, and tiles without arms have none. No conditions. -/
import Derived.Test.YtbdekjjdojbokaaPSRoadPartsHang
import Derived.Test.YtbdekjjdojbokaaRoad4
import Derived.Test.YtbdekjjdojbokaaRoad1
namespace Go.Proofs.Ytbdekjjdojbokaa.Pure
set_option linter.unusedVariables false
set_option linter.unusedSimpArgs false
open Go.RowKit Go.Proofs.YtbdekjjdojbokaaW.PrintWords Go.Proofs.Ytbdekjjdojbokaa.P Go.Proofs.Ytbdekjjdojbokaa

section
variable {W H : Int} {A Y : List Int}
theorem lab_end (g : Good W H A Y) {j : Nat} (hj : j < A.length) : (rd A (j : Int) = 0 → lab W H A A.length j = -1) ∧ (rd A (j : Int) ≠ 0 → lab W H A A.length j = (low W H A j : Int)) := by
  have := low_le W H A j
  unfold lab
  exact ⟨fun h => if_neg (fun h' => h'.1 h), fun h => if_pos ⟨h, by omega⟩⟩
theorem hang_l0 (g : Good W H A Y) (hA4 : A.length ≤ 4000) (hY4 : Y.length ≤ 4000) (t s : Int) : ∀ n i : Nat, i + n = A.length → Ev (fun k => hinterlandlaw04_RoadPartsHang.l0 k t s (parts W H A) (parts W H A) ((parts W H A).length : Int) (i : Int) W H A Y) true
  | 0, i, h => by
    have hA := g.hA
    refine Ev.step (fun k => by simp only [hinterlandlaw04_RoadPartsHang.l0]; rfl) ?_
    rw [parts_len]
    refine Ev.neg (by omega) (Ev.bind (Joined_ev hA4 hY4) ?_)
    by_cases c : tcode W H A Y t 0 3 s = 0
    rotate_left
    · rw [if_neg c]; exact Ev.neg c known_then
    rw [if_pos c]
    refine Ev.pos (by first | rfl | trivial) ?_
    have hz := tcode_zero.1 c
    by_cases hm : 0 ≤ meets W H A t s
    rotate_left
    · exact Ev.neg (by simpa using hm) known_then
    have hma := meets_at g hz.2.1 s
    obtain ⟨j, rfl⟩ : ∃ j : Nat, t = (j : Int) := ⟨t.toNat, by omega⟩
    obtain ⟨u, hu⟩ : ∃ u : Nat, meets W H A (j : Int) s = (u : Int) := ⟨(meets W H A (j : Int) s).toNat, by omega⟩
    have hl : Link W H A j u := ⟨by omega, s, hz.2.2, hu⟩
    refine Ev.pos (decide_eq_true hm) (Ev.pos (by omega) (Ev.pos (by omega) (Ev.bindc (ref_beyond_eq (g.on hz.2.1) hz.2.2) ?_)))
    rw [show bey W H (j : Int) s = (u : Int) by omega, rdN, rdN, parts_at (by omega), parts_at (by omega), (lab_end g (by omega)).2 hl.arm, (lab_end g (by omega)).2 (hl.back g).arm, low_eq g (Reach.step .refl hl)]
    exact Ev.pos (by omega) (Ev.pos (by omega) (Ev.pos (by first | rfl | trivial) known_then))
  | n + 1, i, h => by
    have ha := area g.hW g.hH
    have hA := g.hA
    have ih := hang_l0 g hA4 hY4 t s n (i + 1) (by omega)
    rw [show ((i + 1 : Nat) : Int) = (i : Int) + 1 from by omega] at ih
    rw [parts_len] at ih
    refine Ev.step (fun k => by simp only [hinterlandlaw04_RoadPartsHang.l0]; rfl) ?_
    rw [parts_len, rdN (parts W H A), parts_at (by omega), wrap_in (x := (i : Int) + 1) (by omega) (by omega)]
    refine Ev.pos (by omega) (Ev.pos (by omega) (Ev.pos (by omega) (Ev.pos (by omega) ?_)))
    have hle := low_le W H A i
    by_cases a0 : rd A (i : Int) = 0
    · rw [(lab_end g (by omega)).1 a0, a0]
      exact Ev.neg (by decide) (Ev.neg (by omega) (Ev.neg (by omega) ih))
    · have hll : low W H A (low W H A i) = low W H A i := (low_eq g (low_reach W H A i)).symm
      have har : rd A ((low W H A i : Nat) : Int) ≠ 0 := by
        by_cases e : i = low W H A i
        · rw [← e]; exact a0
        · exact (low_reach W H A i).arm g e
      rw [(lab_end g (by omega)).2 a0, show (rd A (i : Int) == 0) = false from beq_eq_false_iff_ne.2 a0, show decide (((low W H A i : Nat) : Int) < 0) = false from decide_eq_false (by omega), rdN (parts W H A), parts_at (by omega), (lab_end g (by omega)).2 har, hll]
      exact Ev.neg (by decide) (Ev.neg (by omega) (Ev.pos (by omega) (Ev.pos (by omega) (Ev.pos (by omega) (Ev.pos (by first | rfl | trivial) ih)))))
end

theorem RoadPartsHang : hinterlandlaw04_RoadPartsHang.Pure := by
  intro W H A Y t s _ _ _ _ _ _
  refine Ev.rounds ?_
  unfold hinterlandlaw04_RoadPartsHang.f
  refine Ev.bindc (large_eq _ _ _ _) ?_
  by_cases hfar : (A.length : Int) > 4000 ∨ (Y.length : Int) > 4000
  · exact Ev.pos (decide_eq_true hfar) known_then
  refine Ev.neg (fun h => hfar (of_decide_eq_true h)) ?_
  refine Ev.bind (Parts_ev (by omega) (by omega)) ?_
  by_cases h : vcode W H A Y = 0
  · rw [if_pos h]
    exact Ev.pos (by first | rfl | trivial) (Ev.pos (by dsimp only; rw [parts_len]) (hang_l0 (good_of h) (by omega) (by omega) t s A.length 0 (by omega)))
  · rw [if_neg h]
    exact Ev.neg h (Ev.pos (by simp) known_then)

end Go.Proofs.Ytbdekjjdojbokaa.Pure
