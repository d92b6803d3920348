/- Layer 17: a tick of all trucks, on both sides. No conditions. -/
import Derived.Test.YthjmdpekcleihaaPx0
import Derived.Test.YthjmdpekcleihaaPx9
import Derived.Test.YthjmdpekcleihaaPx12
import Derived.Test.YthjmdpekcleihaaLaneF
namespace Go.Proofs.Ythjmdpekcleihaa.Pure
set_option linter.unusedVariables false
set_option linter.unusedSimpArgs false
open Go.RowKit Go.Proofs.YthjmdpekcleihaaW.PrintWords Go.Proofs.Ythjmdpekcleihaa.P Go.Proofs.Ythjmdpekcleihaa

noncomputable def rn (W H : Int) (A Y C G : List Int) : Nat → Nat → List S50 → List Int → List S50 × List Int
 | 0,_,T,O=>(T,O)
 | d + 1,i,T,O=>rn W H A Y C G d (i + 1) (stp W H A Y C T i (G.getD i 0)).2 (O ++ [(stp W H A Y C T i (G.getD i 0)).1])
section
variable {W H : Int} {A Y C G : List Int}
theorem ref_run_l0 (h:Good W H A Y) (hC:C.length ≤ 4000):∀ d i (T:List S50) (O:List Int),i + d = G.length → T.length = G.length → T.length ≤ 1000 → Steady W H A T → O.length = i →
  Ev (fun k=>hinterlandref17_Run.l0 k G O (i:Int) W H A Y C T) (W,H,A,Y,C,(rn W H A Y C G d i T O).1,(rn W H A Y C G d i T O).2,0):=by
 intro d
 induction d with
 | zero =>
  intro i T O hi hT hT2 q hO
  exact Ev.step (fun k=>by simp only [hinterlandref17_Run.l0];rfl) (Ev.neg (by omega) (Ev.now _))
 | succ d ih =>
  intro i T O hi hT hT2 q hO
  have n:=ih (i + 1) (stp W H A Y C T i (G.getD i 0)).2 (O ++ [(stp W H A Y C T i (G.getD i 0)).1]) (by omega) (by rw [stp_len];exact hT) (by rw [stp_len];exact hT2) (stp_steady h q (by omega) C _) (by simp [hO])
  refine Ev.step (fun k=>by simp only [hinterlandref17_Run.l0];rfl) (Ev.pos (by omega) (Ev.pos (by omega) ?_))
  rw [rdN,wrap_in (x:=(i:Int) + 1) (by omega) (by omega)]
  refine Ev.bind (ref_step_ev h hC hT2 q (by omega) _) (Ev.pos (by omega) ?_)
  rw [show (i:Int) + 1 = ((i + 1:Nat):Int) by omega]
  exact n
theorem run_l0 (h:Good W H A Y) (hs:Sorted C) (hC:C.length ≤ 4000):∀ d i (T:List S50) (O:List Int),i + d = G.length → T.length = G.length → T.length ≤ 1000 → Steady W H A T → O.length = i →
  Ev (fun k=>lane_Run.l0 k (O ++ List.replicate d 0) G (G.length:Int) (i:Int) W H A Y C T) (W,H,A,Y,C,(rn W H A Y C G d i T O).1,(rn W H A Y C G d i T O).2,0):=by
 intro d
 induction d with
 | zero =>
  intro i T O hi hT hT2 q hO
  rw [show O ++ List.replicate 0 0 = O by simp]
  exact Ev.step (fun k=>by simp only [lane_Run.l0];rfl) (Ev.neg (by omega) (Ev.now _))
 | succ d ih =>
  intro i T O hi hT hT2 q hO
  have n:=ih (i + 1) (stp W H A Y C T i (G.getD i 0)).2 (O ++ [(stp W H A Y C T i (G.getD i 0)).1]) (by omega) (by rw [stp_len];exact hT) (by rw [stp_len];exact hT2) (stp_steady h q (by omega) C _) (by simp [hO])
  refine Ev.step (fun k=>by simp only [lane_Run.l0];rfl) (Ev.pos (by omega) (Ev.pos (by omega) (Ev.pos (by omega) ?_)))
  rw [rdN,wrap_in (x:=(i:Int) + 1) (by omega) (by omega),Int.toNat_natCast]
  refine Ev.bind (step_ev h hs hC hT2 q (by omega) _) (Ev.pos (by simp [hO];omega) ?_)
  rw [show (O ++ List.replicate (d + 1) (0:Int)).set i (stp W H A Y C T i (G.getD i 0)).1 = (O ++ [(stp W H A Y C T i (G.getD i 0)).1]) ++ List.replicate d 0 by
   rw [List.set_append_right _ _ (by omega),hO,Nat.sub_self,List.replicate_succ,List.set_cons_zero,List.append_assoc];rfl,show (i:Int) + 1 = ((i + 1:Nat):Int) by omega]
  exact n
theorem rn_len (W H:Int) (A Y C G:List Int):∀ d i (T:List S50) (O:List Int),(rn W H A Y C G d i T O).1.length = T.length ∧ (rn W H A Y C G d i T O).2.length = O.length + d
 | 0,i,T,O=>⟨rfl,rfl⟩
 | d + 1,i,T,O=>by
  have n:=rn_len W H A Y C G d (i + 1) (stp W H A Y C T i (G.getD i 0)).2 (O ++ [(stp W H A Y C T i (G.getD i 0)).1])
  rw [stp_len,List.length_append] at n
  unfold rn
  exact ⟨n.1,by have:=n.2;simp only [List.length_cons,List.length_nil] at this;omega⟩
abbrev noR (c : Int) : Int × Int × List Int × List Int × List Int × List S50 × List Int × Int := (0, 0, [], [], [], [], [], c)
open Classical in
noncomputable def rnAns (W H : Int) (A Y C : List Int) (T : List S50) (G : List Int) : Int × Int × List Int × List Int × List Int × List S50 × List Int × Int :=
 if lcode W H A Y C T = 0 then (if (G.length:Int) = (T.length:Int) then (W,H,A,Y,C,(rn W H A Y C G G.length 0 T []).1,(rn W H A Y C G G.length 0 T []).2,0) else noR 8) else noR (lcode W H A Y C T)
variable {T : List S50}
theorem Run_ev (hA:A.length ≤ 4000) (hY:Y.length ≤ 4000) (hC:C.length ≤ 4000) (hT:T.length ≤ 1000):Ev (fun k => lane_Run.f k W H A Y C T G) (rnAns W H A Y C T G) := by
 unfold lane_Run.f rnAns
 refine Ev.bind (lane_validate_ev hA hY hC hT) ?_
 by_cases hl:lcode W H A Y C T = 0
 rotate_left
 ·exact Ev.eq (Ev.neg hl (Ev.now _)) (if_neg hl).symm
 refine Ev.eq (Ev.pos hl ?_) (if_pos hl).symm
 by_cases hg:(G.length:Int) = (T.length:Int)
 rotate_left
 ·exact Ev.eq (Ev.neg hg (Ev.now _)) (if_neg hg).symm
 refine Ev.eq (Ev.pos hg (Ev.bindc (copied_eq W H hA hY hC hT) (Ev.pos (by omega) (Ev.pos (by omega) ?_)))) (if_pos hg).symm
 rw [Int.toNat_natCast]
 exact run_l0 (good_of (lcode_zero hl).1) (lcode_zero hl).2.2.1 hC G.length 0 T [] (by omega) (by omega) hT (steady_of hl) rfl
theorem ref_Run_ev (hA:A.length ≤ 4000) (hY:Y.length ≤ 4000) (hC:C.length ≤ 4000) (hT:T.length ≤ 1000):Ev (fun k => hinterlandref17_Run.f k W H A Y C T G) (rnAns W H A Y C T G) := by
 unfold hinterlandref17_Run.f rnAns
 refine Ev.bind (ref_lane_validate_ev hA hY hC hT) ?_
 by_cases hl:lcode W H A Y C T = 0
 rotate_left
 ·exact Ev.eq (Ev.neg hl (Ev.now _)) (if_neg hl).symm
 refine Ev.eq (Ev.pos hl ?_) (if_pos hl).symm
 by_cases hg:(G.length:Int) = (T.length:Int)
 rotate_left
 ·exact Ev.eq (Ev.neg hg (Ev.now _)) (if_neg hg).symm
 exact Ev.eq (Ev.pos hg (Ev.bindc (ref_copy_eq W H hA hY hC hT) (ref_run_l0 (good_of (lcode_zero hl).1) hC G.length 0 T [] (by omega) (by omega) hT (steady_of hl) rfl))) (if_pos hg).symm
end
end Go.Proofs.Ythjmdpekcleihaa.Pure
