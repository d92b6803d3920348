/- Layer 6, WaterJoins (P6.3): where a ship may go, and that it may go back. No conditions. -/
import Derived.Test.YtiencnnkphipoaaPSWaterJoins
import Derived.Test.YtiencnnkphipoaaWaterP
namespace Go.Proofs.Ytiencnnkphipoaa.Pure
set_option linter.unusedVariables false
set_option linter.unusedSimpArgs false
open Go.RowKit Go.Proofs.YtiencnnkphipoaaW.PrintWords Go.Proofs.Ytiencnnkphipoaa.P Go.Proofs.Ytiencnnkphipoaa

theorem WaterJoins : hinterlandlaw06_WaterJoins.Pure := by
 intro W H C K B t s _ _ _ _ _ _ _
 refine Ev.rounds ?_
 unfold hinterlandlaw06_WaterJoins.f
 refine Ev.bindc (large_eq _ _ _ _ _) ?_
 by_cases hfar : (C.length : Int) > 4000 ∨ (K.length : Int) > 4000 ∨ (B.length : Int) > 4000
 ·exact Ev.pos (decide_eq_true hfar) known_then
 refine Ev.neg (fun h => hfar (of_decide_eq_true h)) ?_
 have hC : C.length ≤ 4000:=by omega
 have hB : B.length ≤ 4000:=by omega
 refine Ev.bind (joined_ev hC hB) (Ev.bind (ref_joined_ev hC hB) (Ev.neg (by simp) ?_))
 rw [show ((joinedR W H C K B t s).2 != (joinedR W H C K B t s).2) = false by simp]
 refine Ev.step (fun k => by simp only [hinterlandlaw06_WaterJoins.j0];rfl) (Ev.neg (by simp) ?_)
 cases hj : (joinedR W H C K B t s).1 with
 | false => exact Ev.neg (by simp) known_then
 | true =>
  refine Ev.pos rfl ?_
  unfold joinedR at hj
  by_cases e : acode W H C K B t = 0
  rotate_left
  ·rw [if_neg e] at hj;cases hj
  rw [if_pos e] at hj
  obtain ⟨w,h,n,rfl,rfl,rfl,hn,U⟩:=acode_zero e
  by_cases hs : 0 ≤ s ∧ s ≤ 3
  rotate_left
  ·rw [if_neg hs] at hj;cases hj
  rw [if_pos hs] at hj
  simp only [Int.toNat_natCast] at hj
  obtain ⟨b0,hb⟩:=join_back hn hs hj
  obtain ⟨m,hm⟩:=Int.eq_ofNat_of_zero_le b0
  have hml : m < w * h:=by have:=(bey_lt hn s).1;omega
  refine Ev.bindc (ref_beyond_eq U.land hn hs) ?_
  rw [wrap_in (x:=s + 2) (by omega) (by omega)]
  refine Ev.bind (joined_ev hC hB) ?_
  have r : joinedR (w : Int) (h : Int) C K B (bey w h n s) (Int.tmod (s + 2) 4) = (true,0):=by
   unfold joinedR
   rw [hm] at hb ⊢
   simp only [Int.ofNat_eq_natCast,Int.toNat_natCast] at hb ⊢
   rw [if_pos (of_acode U hml),if_pos (back2 hs).1,hb]
  rw [r]
  exact Ev.pos rfl (Ev.pos rfl (Ev.bind known_ev (Ev.step (fun k => by simp only [hinterlandlaw06_WaterJoins.j1] <;> rfl) (Ev.now _))))

end Go.Proofs.Ytiencnnkphipoaa.Pure
