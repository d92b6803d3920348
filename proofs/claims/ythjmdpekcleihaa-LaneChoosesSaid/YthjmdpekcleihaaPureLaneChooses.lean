/- Layer 17, LaneChooses (P17.2): through which side a truck leaves a tile. No conditions. -/
import Derived.Test.YthjmdpekcleihaaPSLaneChooses
import Derived.Test.YthjmdpekcleihaaLaneT
import Derived.Test.YthjmdpekcleihaaLaneR
namespace Go.Proofs.Ythjmdpekcleihaa.Pure
set_option linter.unusedVariables false
set_option linter.unusedSimpArgs false
open Go.RowKit Go.Proofs.YthjmdpekcleihaaW.PrintWords Go.Proofs.Ythjmdpekcleihaa.P Go.Proofs.Ythjmdpekcleihaa

theorem known_ev : Ev (fun k => hinterlandlaw17_known.f k) true := by
 refine Ev.of (fun k => hinterlandlaw17_known.mono k) (k:=60) ?_
 decide +kernel
theorem known_then : Ev (fun k => (hinterlandlaw17_known.f k).bind fun t => some t) true := Ev.bind known_ev (Ev.now _)
theorem wide_eq (W H : Int) (A Y : List Int) : hinterlandlaw17_wide.f W H A Y = some (decide ((A.length : Int) > 1100 ∨ (Y.length : Int) > 1100)) := by
 unfold hinterlandlaw17_wide.f
 by_cases h1 : (A.length : Int) > 1100
 ·rw [if_pos h1,decide_eq_true (.inl h1)]
 ·rw [if_neg h1];congr 1;apply decide_eq_decide.2;omega
open Classical in
noncomputable def chAns (W H : Int) (A Y : List Int) (t f g : Int) : Int × Bool × Int :=
 if vcode W H A Y = 0 then (if 0 ≤ t ∧ t < W * H then (if f < -1 ∨ f > 3 then (0,false,1) else ((chz W H A Y t f g).1,(chz W H A Y t f g).2,0)) else (0,false,2)) else (0,false,vcode W H A Y)
theorem Choose_ev {W H : Int} {A Y : List Int} (hA : A.length ≤ 4000) (hY : Y.length ≤ 4000) (t f g : Int) : Ev (fun k => lane_Choose.f k W H A Y t f g) (chAns W H A Y t f g) := by
 unfold lane_Choose.f chAns
 refine Ev.bind (validate_ev hA hY) ?_
 by_cases hv : vcode W H A Y = 0
 rotate_left
 ·exact Ev.eq (Ev.neg hv (Ev.now _)) (if_neg hv).symm
 refine Ev.eq ?_ (if_pos hv).symm
 have h:=good_of hv
 have ha:=area h.hW h.hH
 refine Ev.pos hv (Ev.bindc (within_eq _ _) ?_)
 rw [wrap_in (x:=W * H) (by omega) (by omega),wrap_in (x:=W * H - 1) (by omega) (by omega)]
 by_cases ht : 0 ≤ t ∧ t < W * H
 rotate_left
 ·exact Ev.eq (Ev.neg (fun k => by have:=of_decide_eq_true k;omega) (Ev.now _)) (if_neg ht).symm
 refine Ev.eq (Ev.pos (decide_eq_true (by omega)) ?_) (if_pos ht).symm
 by_cases f0 : f < -1
 ·exact Ev.eq (Ev.pos f0 (Ev.now _)) (if_pos (.inl f0)).symm
 refine Ev.neg f0 ?_
 by_cases f1 : f > 3
 ·exact Ev.eq (Ev.pos f1 (Ev.now _)) (if_pos (.inr f1)).symm
 refine Ev.eq (Ev.neg f1 (Ev.bind (choose_ev h ht (by omega)) (Ev.now _))) (if_neg (by omega)).symm
theorem ref_Choose_ev {W H : Int} {A Y : List Int} (hA : A.length ≤ 4000) (hY : Y.length ≤ 4000) (t f g : Int) : Ev (fun k => hinterlandref17_Choose.f k W H A Y t f g) (chAns W H A Y t f g) := by
 unfold hinterlandref17_Choose.f chAns
 refine Ev.bind (ref_validate_ev hA hY) ?_
 by_cases hv : vcode W H A Y = 0
 rotate_left
 ·exact Ev.eq (Ev.neg hv (Ev.now _)) (if_neg hv).symm
 refine Ev.eq ?_ (if_pos hv).symm
 have h:=good_of hv
 have ha:=area h.hW h.hH
 have hAl:=h.hA
 refine Ev.pos hv ?_
 have j0 : ∀ q,q = decide (¬ (0 ≤ t ∧ t < W * H)) → Ev (fun k => hinterlandref17_Choose.j0 k t f g q W H A Y) (if 0 ≤ t ∧ t < W * H then (if f < -1 ∨ f > 3 then (0,false,1) else ((chz W H A Y t f g).1,(chz W H A Y t f g).2,0)) else (0,false,2)):=by
  intro q hq
  refine Ev.step (fun k => by simp only [hinterlandref17_Choose.j0];rfl) ?_
  by_cases ht : 0 ≤ t ∧ t < W * H
  rotate_left
  ·exact Ev.eq (Ev.pos (by rw [hq];exact decide_eq_true ht) (Ev.now _)) (if_neg ht).symm
  refine Ev.eq (Ev.neg (by rw [hq];simpa using ht) ?_) (if_pos ht).symm
  by_cases f0 : f < -1
  ·exact Ev.eq (Ev.pos f0 (Ev.now _)) (if_pos (.inl f0)).symm
  refine Ev.neg f0 ?_
  by_cases f1 : f > 3
  ·exact Ev.eq (Ev.pos f1 (Ev.now _)) (if_pos (.inr f1)).symm
  refine Ev.eq (Ev.neg f1 (Ev.bind (ref_choose_ev h ht (by omega)) (Ev.now _))) (if_neg (by omega)).symm
 by_cases t0 : t < 0
 ·exact Ev.pos t0 (j0 _ (decide_eq_true (by omega)).symm)
 ·exact Ev.neg t0 (j0 _ (decide_eq_decide.2 (by omega)))

theorem LaneChooses : hinterlandlaw17_LaneChooses.Pure := by
 intro W H A Y t f g _ _ _ _ _ _ _
 refine Ev.rounds ?_
 unfold hinterlandlaw17_LaneChooses.f
 refine Ev.bindc (wide_eq W H A Y) ?_
 by_cases h : (A.length : Int) > 1100 ∨ (Y.length : Int) > 1100
 ·exact Ev.pos (decide_eq_true h) known_then
 refine Ev.neg (fun k => h (of_decide_eq_true k)) (Ev.bind (ref_Choose_ev (by omega) (by omega) t f g) (Ev.bind (Choose_ev (by omega) (by omega) t f g) ?_))
 exact Ev.pos rfl (Ev.pos (by simp) (Ev.pos rfl known_then))

end Go.Proofs.Ythjmdpekcleihaa.Pure
