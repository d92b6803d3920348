/- Layer 17, LaneLaunches (P17.5): a ship that is launched. No conditions. -/
import Derived.Test.YthjmdpekcleihaaPSLaneLaunches
import Derived.Test.YthjmdpekcleihaaShip4
import Derived.Test.YthjmdpekcleihaaShipK
import Derived.Test.YthjmdpekcleihaaShipL
namespace Go.Proofs.Ythjmdpekcleihaa.Pure
set_option linter.unusedVariables false
set_option linter.unusedSimpArgs false
open Go.RowKit Go.Proofs.YthjmdpekcleihaaW.PrintWords Go.Proofs.Ythjmdpekcleihaa.P Go.Proofs.Ythjmdpekcleihaa

theorem rlaunch_bad {W H:Int} {C K B:List Int} (hC:C.length ≤ 4000) (hB:B.length ≤ 4000) (hw:¬ wcode W H C K B = 0) (a b:Int):Ev (fun k => hinterlandref17_Launch.f k W H C K B a b) (noSh (wcode W H C K B)) := by
 unfold hinterlandref17_Launch.f
 exact Ev.bind (ref_validate_ev hC hB) (Ev.neg hw (Ev.now _))
open Classical in
theorem rlaunch_ev {w h:Nat} {C K B:List Int} (U:Waters w h C K B) (hC:C.length ≤ 4000) (hB:B.length ≤ 4000) {a b:Int} {r:List Int × Int} (hr:Ev (fun k => hinterlandref06_Sail.f k (w:Int) (h:Int) C K B a b) r) (hw:Way w h C K a b r):Ev (fun k => hinterlandref17_Launch.f k (w:Int) (h:Int) C K B a b) (if Wets w h C K a then launchR w a r else noSh 2) := by
 have hwh:w * h ≤ 32 * 32:=mulle U.land.w1 U.land.h1
 unfold hinterlandref17_Launch.f
 refine Ev.bind (ref_validate_ev hC hB) (Ev.pos (of_waters U) (Ev.bind (rwet_ev U hC hB a) ?_))
 by_cases c:Wets w h C K a
 rotate_left
 ·rw [if_neg c];exact Ev.neg (fun z=>c (of_decide_eq_true z)) (Ev.now _)
 rw [if_pos c]
 refine Ev.pos (decide_eq_true c) (Ev.bind (course_ev hr (by omega) hw) (Ev.const ?_))
 unfold launchR
 by_cases h2:2 ≤ r.1.length
 ·rw [if_pos h2,if_pos h2]
 ·rw [if_neg h2,if_neg h2]
theorem LaneLaunches:hinterlandlaw17_LaneLaunches.Pure := by
 intro W H C K B a g _ _ _ _ _ _ _
 refine Ev.rounds ?_
 unfold hinterlandlaw17_LaneLaunches.f
 refine Ev.bindc (vast_eq _ _ _ _ _) ?_
 by_cases hfar:(C.length:Int) > 1200 ∨ (K.length:Int) > 1200 ∨ (B.length:Int) > 1200
 ·exact Ev.pos (decide_eq_true hfar) known_then
 refine Ev.neg (fun h=>hfar (of_decide_eq_true h)) ?_
 have hC:C.length ≤ 4000:=by omega
 have hB:B.length ≤ 4000:=by omega
 have fin:∀ r:Int × Int × Int × Int × Int × Int,Ev (fun k=>hinterlandref17_Launch.f k W H C K B a g) r → Ev (fun k=>lane_Launch.f k W H C K B a g) r → Ev (fun k=>(hinterlandref17_Launch.f k W H C K B a g).bind fun bt=>(lane_Launch.f k W H C K B a g).bind fun ct=>if (ct.1 == bt.1 && (ct.2.1 == bt.2.1 && (ct.2.2.1 == bt.2.2.1 && (ct.2.2.2.1 == bt.2.2.2.1 && (ct.2.2.2.2.1 == bt.2.2.2.2.1))))) = true then (if ct.2.2.2.2.2 = bt.2.2.2.2.2 then ((hinterlandlaw17_known.f k).bind fun t=>hinterlandlaw17_LaneLaunches.j0 k t) else hinterlandlaw17_LaneLaunches.j0 k false) else hinterlandlaw17_LaneLaunches.j0 k false) true:=by
  intro r h1 h2
  exact Ev.bind h1 (Ev.bind h2 (Ev.pos (by simp) (Ev.pos rfl (Ev.bind known_ev (Ev.step (fun k=>by simp only [hinterlandlaw17_LaneLaunches.j0]) (Ev.now _))))))
 by_cases hw:wcode W H C K B = 0
 rotate_left
 ·exact fin _ (rlaunch_bad hC hB hw a g) (launch_bad hC hB hw a g)
 obtain ⟨w,h,rfl,rfl,U⟩:=waters_of hw
 obtain ⟨r,r1,r2,r3⟩:=ways U hC hB a g
 exact fin _ (rlaunch_ev U hC hB r2 r3) (launch_ev U hC hB r1 r3)

end Go.Proofs.Ythjmdpekcleihaa.Pure
