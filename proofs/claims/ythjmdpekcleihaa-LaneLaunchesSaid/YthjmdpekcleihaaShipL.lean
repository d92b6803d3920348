/- Layer 17, ships: a launch, as the program makes it. No conditions. -/
import Derived.Test.YthjmdpekcleihaaPx0
import Derived.Test.YthjmdpekcleihaaPx10
import Derived.Test.YthjmdpekcleihaaPx11
import Derived.Test.YthjmdpekcleihaaShip1
namespace Go.Proofs.Ythjmdpekcleihaa.Pure
set_option linter.unusedVariables false
set_option linter.unusedSimpArgs false
open Go.RowKit Go.Proofs.YthjmdpekcleihaaW.PrintWords Go.Proofs.YthjmdpekcleihaaW.PrintMore Go.Proofs.Ythjmdpekcleihaa.P Go.Proofs.Ythjmdpekcleihaa

section
variable {W H : Int} {C K B : List Int}
abbrev noSh (c : Int) : Int × Int × Int × Int × Int × Int := (0, 0, 0, 0, 0, c)
theorem launch_bad (hC:C.length ≤ 4000) (hB:B.length ≤ 4000) (hw:¬ wcode W H C K B = 0) (a b:Int):Ev (fun k => lane_Launch.f k W H C K B a b) (noSh (wcode W H C K B)) := by
 unfold lane_Launch.f
 have wb:Ev (fun k=>lane_wet.f k W H C K B a) (wcode W H C K B):=by
  unfold lane_wet.f
  exact Ev.bind (sail_bad hC hB hw a a) (Ev.now _)
 refine Ev.bind (land_ev hC) (Ev.bind (validate_ev hC hB) (Ev.bind wb (Ev.bind (or3_ev _ _ _) ?_)))
 have e:(if lcode W H C = 0 then (if wcode W H C K B = 0 then wcode W H C K B else wcode W H C K B) else lcode W H C) = wcode W H C K B:=by
  rw [ite_self];exact code_or
 rw [e]
 exact Ev.neg hw (Ev.now _)
variable {w h : Nat}
def launchR (w : Int) (a : Int) (r : List Int × Int) : Int × Int × Int × Int × Int × Int :=
 if 2 ≤ r.1.length then (a,-1,sd w (r.1.getD 1 0 - r.1.getD 0 0),0,0,0) else (a,-1,0,0,0,0)
open Classical in
theorem launch_ev (U:Waters w h C K B) (hC:C.length ≤ 4000) (hB:B.length ≤ 4000) {a b:Int} {r:List Int × Int} (hr:Ev (fun k => water_Sail.f k (w:Int) (h:Int) C K B a b) r) (hw:Way w h C K a b r):Ev (fun k => lane_Launch.f k (w:Int) (h:Int) C K B a b) (if Wets w h C K a then launchR w a r else noSh 2) := by
 unfold lane_Launch.f
 refine Ev.bind (land_ev hC) (Ev.bind (validate_ev hC hB) (Ev.bind (wet_ev U hC hB a) (Ev.bind (or3_ev _ _ _) ?_)))
 rw [of_land U.land,of_waters U,if_pos rfl,if_pos rfl]
 by_cases c:Wets w h C K a
 rotate_left
 ·rw [if_neg c,if_neg c];exact Ev.neg (by decide) (Ev.now _)
 rw [if_pos c,if_pos c]
 refine Ev.pos rfl (Ev.bind hr ?_)
 unfold launchR
 by_cases h2:2 ≤ r.1.length
 rotate_left
 ·rw [if_neg h2]
  by_cases c0:r.2 = 0
  ·exact Ev.pos c0 (Ev.neg (by omega) (Ev.now _))
  ·exact Ev.neg c0 (Ev.now _)
 obtain ⟨h0,na,u,nb,q,rfl,rfl,e,st,ch,ql,least,wb⟩:=hw.two h2
 rw [if_pos h2]
 refine Ev.pos h0 (Ev.pos (by omega) (Ev.pos (by omega) (Ev.pos (by omega) ?_)))
 rw [e]
 change Ev (fun k=>(lane_side.f k (w:Int) (h:Int) C (na:Int) (u:Int)).bind _) _
 exact Ev.bind (side_ev U.land st) (Ev.now _)
end
end Go.Proofs.Ythjmdpekcleihaa.Pure
