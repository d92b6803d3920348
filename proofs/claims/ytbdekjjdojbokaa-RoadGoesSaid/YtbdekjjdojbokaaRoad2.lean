/- What the functions of layer 4 (streets) come to, in plain words: driving. No conditions. -/
import Derived.Test.YtbdekjjdojbokaaPx0
import Derived.Test.YtbdekjjdojbokaaPx23
import Derived.Test.YtbdekjjdojbokaaRoad1
namespace Go.Proofs.Ytbdekjjdojbokaa.Pure
set_option linter.unusedVariables false
set_option linter.unusedSimpArgs false
open Go.RowKit Go.Proofs.YtbdekjjdojbokaaW.PrintWords Go.Proofs.Ytbdekjjdojbokaa.P Go.Proofs.Ytbdekjjdojbokaa

section
variable {W H t s : Int} {A Y : List Int}
theorem may_meets (h : may W H A Y t s = true) : 0 ≤ meets W H A t s := by
  unfold may at h
  simp only [Bool.and_eq_true, decide_eq_true_eq] at h
  exact h.1.1
theorem pick {l : List Int} {m : Int} (hl : l.length ≠ 0) : 0 ≤ m % (l.length : Int) ∧ m % (l.length : Int) < (l.length : Int) ∧ rd l (m % (l.length : Int)) ∈ l := by
  have h0 := Int.emod_nonneg m (show (l.length : Int) ≠ 0 by omega)
  have h1 := Int.emod_lt_of_pos m (show 0 < (l.length : Int) by omega)
  refine ⟨h0, h1, ?_⟩
  unfold rd
  rw [List.getD_eq_getElem?_getD, List.getElem?_eq_getElem (by omega)]
  exact List.getElem_mem _
/-- A drive, told by what is left of the turns. -/
theorem go_l0 (g : Good W H A Y) (l : List Int) (hl : l.length ≤ 4000) : ∀ (n i : Nat) (t f : Int) (o : List Int), i + n = l.length → o.length = i + 1 → (0 ≤ t ∧ t < W * H) → f ≤ 3 → ∃ r : List Int, r.length ≤ l.length + 1 ∧ Ev (fun k => road_Go.l0 k t f o l (l.length : Int) (i : Int) W H A Y) (r, 0) ∧ Ev (fun k => hinterlandref04_Go.l0 k t f o l (l.length : Int) (i : Int) W H A Y) (r, 0)
  | 0, i, t, f, o, h, ho, ht, hf => by
    refine ⟨o, by omega, Ev.step (fun k => by simp only [road_Go.l0]; rfl) (Ev.neg (by omega) (Ev.now _)), Ev.step (fun k => by simp only [hinterlandref04_Go.l0]; rfl) (Ev.neg (by omega) (Ev.now _))⟩
  | n + 1, i, t, f, o, h, ho, ht, hf => by
    by_cases c : (outs W H A Y t f).length = 0
    · refine ⟨o, by omega, Ev.step (fun k => by simp only [road_Go.l0]; rfl) ?_, Ev.step (fun k => by simp only [hinterlandref04_Go.l0]; rfl) ?_⟩
      · exact Ev.pos (by omega) (Ev.pos (by omega) (Ev.pos (by omega) (Ev.bindc (next_eq g ht hf) (Ev.pos (by omega) (Ev.now _)))))
      · exact Ev.pos (by omega) (Ev.pos (by omega) (Ev.pos (by omega) (Ev.bind (out_ev g ht hf) (Ev.pos (by omega) (Ev.now _)))))
    obtain ⟨p0, p1, pm⟩ := pick (l := outs W H A Y t f) (m := mx (rd l (i : Int)) 0) c
    obtain ⟨hs, hmay⟩ := outs_mem hf pm
    have hm := may_meets hmay
    have hma := meets_at g ht (rd (outs W H A Y t f) (mx (rd l (i : Int)) 0 % ((outs W H A Y t f).length : Int)))
    have hop := (opp_at hs).1
    obtain ⟨r, hr, h1, h2⟩ := go_l0 g l hl n (i + 1) (bey W H t (rd (outs W H A Y t f) (mx (rd l (i : Int)) 0 % ((outs W H A Y t f).length : Int)))) (opp (rd (outs W H A Y t f) (mx (rd l (i : Int)) 0 % ((outs W H A Y t f).length : Int)))) (o ++ [bey W H t (rd (outs W H A Y t f) (mx (rd l (i : Int)) 0 % ((outs W H A Y t f).length : Int)))]) (by omega) (by simp [ho]) (by omega) (by omega)
    rw [show ((i + 1 : Nat) : Int) = (i : Int) + 1 from by omega] at h1 h2
    refine ⟨r, hr, Ev.step (fun k => by simp only [road_Go.l0]; rfl) ?_, Ev.step (fun k => by simp only [hinterlandref04_Go.l0]; rfl) ?_⟩
    · refine Ev.pos (by omega) (Ev.pos (by omega) (Ev.pos (by omega) (Ev.bindc (next_eq g ht hf) (Ev.neg (by omega) (Ev.pos p0 (Ev.pos p1 (Ev.bindc (beyond_eq A Y (g.on ht)) (Ev.pos (by omega) ?_))))))))
      rw [wrap_in (x := (i : Int) + 1) (by omega) (by omega)]
      exact h1
    · refine Ev.pos (by omega) (Ev.pos (by omega) (Ev.pos (by omega) (Ev.bind (out_ev g ht hf) (Ev.neg (by omega) (Ev.pos p0 (Ev.pos p1 (Ev.bindc (meets_eq g ht hs) (Ev.pos (by omega) ?_))))))))
      rw [wrap_in (x := (i : Int) + 1) (by omega) (by omega), show meets W H A t (rd (outs W H A Y t f) (mx (rd l (i : Int)) 0 % ((outs W H A Y t f).length : Int))) = bey W H t (rd (outs W H A Y t f) (mx (rd l (i : Int)) 0 % ((outs W H A Y t f).length : Int))) by omega]
      exact h2
end

end Go.Proofs.Ytbdekjjdojbokaa.Pure
