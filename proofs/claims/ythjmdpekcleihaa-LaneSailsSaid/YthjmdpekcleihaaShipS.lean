/- Layer 17, ships: a ship's tick, as the program makes it. No conditions. -/
import Derived.Test.YthjmdpekcleihaaPx0
import Derived.Test.YthjmdpekcleihaaPx2
import Derived.Test.YthjmdpekcleihaaPx8
import Derived.Test.YthjmdpekcleihaaPx11
import Derived.Test.YthjmdpekcleihaaPx12
import Derived.Test.YthjmdpekcleihaaShip1
namespace Go.Proofs.Ythjmdpekcleihaa.Pure
set_option linter.unusedVariables false
set_option linter.unusedSimpArgs false
open Go.RowKit Go.Proofs.YthjmdpekcleihaaW.PrintWords Go.Proofs.YthjmdpekcleihaaW.PrintMore Go.Proofs.Ythjmdpekcleihaa.P Go.Proofs.Ythjmdpekcleihaa

theorem within_eq (a b:Int):lane_within.f a b = some (decide (0 ≤ a ∧ a ≤ b)) := by
 unfold lane_within.f
 by_cases h:a ≥ 0
 ·rw [if_pos h];congr 1;apply decide_eq_decide.2;omega
 ·rw [if_neg h];congr 1;symm;apply decide_eq_false;omega
theorem moves_eq (t f o s d:Int) (ht:t ≠ -1):lane_moves.f t f o s d = some (decide ((-1 ≤ f ∧ f ≤ 3) ∧ (0 ≤ o ∧ o ≤ 3) ∧ (0 ≤ s ∧ s ≤ 192) ∧ (0 ≤ d ∧ d ≤ 191))) := by
 unfold lane_moves.f
 rw [if_neg ht,within_eq,within_eq,within_eq]
 by_cases c1:-1 ≤ f
 rotate_left
 ·rw [if_neg (show ¬ f ≥ -1 from c1),decide_eq_false (fun z=>c1 z.1.1)]
 rw [if_pos (show f ≥ -1 from c1)]
 by_cases c2:f ≤ 3
 rotate_left
 ·rw [if_neg c2,decide_eq_false (fun z=>c2 z.1.2)]
 rw [if_pos c2,Option.bind_some]
 by_cases c3:0 ≤ o ∧ o ≤ 3
 rotate_left
 ·rw [if_neg (by simpa using c3),decide_eq_false (fun z=>c3 z.2.1)]
 rw [if_pos (decide_eq_true c3),Option.bind_some]
 by_cases c4:0 ≤ s ∧ s ≤ 192
 rotate_left
 ·rw [if_neg (by simpa using c4),decide_eq_false (fun z=>c4 z.2.2.1)]
 rw [if_pos (decide_eq_true c4),Option.bind_some]
 congr 1
 apply decide_eq_decide.2
 exact ⟨fun z=>⟨⟨c1,c2⟩,c3,c4,z⟩,fun z=>z.2.2.2⟩
section
variable {w h : Nat} {C K B : List Int}
def shipR (w : Int) (s0 s1 s2 s3 s4 : Int) (r : List Int × Int) : Int × Int × Int × Int × Int × Int × Int :=
 if 2 ≤ r.1.length then (if 2 < r.1.length then (r.1.getD 1 0,Int.tmod (sd w (r.1.getD 1 0 - r.1.getD 0 0) + 2) 4,sd w (r.1.getD 2 0 - r.1.getD 1 0),s3,s4 - 192,0,0) else (r.1.getD 1 0,Int.tmod (sd w (r.1.getD 1 0 - r.1.getD 0 0) + 2) 4,sd w (r.1.getD 1 0 - r.1.getD 0 0),s3,0,3,0)) else (s0,s1,s2,0,191,2,0)
theorem turn_ev (L:Land w h C) {a b:Int} {r:List Int × Int} (hw:Way w h C K a b r) (s0 s1 s2 s3 s4:Int) (h4:0 ≤ s4 ∧ s4 ≤ 1000):Ev (fun k => if r.2 = 0 then lane_Sail.j0 k r.1 (decide ((r.1.length:Int) < 2)) (w:Int) (h:Int) C s0 s1 s2 s3 s4 else lane_Sail.j0 k r.1 true (w:Int) (h:Int) C s0 s1 s2 s3 s4) (shipR w s0 s1 s2 s3 s4 r) := by
 unfold shipR
 by_cases h2:2 ≤ r.1.length
 rotate_left
 ·rw [if_neg h2,decide_eq_true (show (r.1.length:Int) < 2 by omega)]
  have j:Ev (fun k=>lane_Sail.j0 k r.1 true (w:Int) (h:Int) C s0 s1 s2 s3 s4) (s0,s1,s2,0,191,2,0):=Ev.step (fun k=>by simp only [lane_Sail.j0];rfl) (Ev.pos (show true = true from rfl) (Ev.now _))
  by_cases c:r.2 = 0
  ·exact Ev.pos c j
  ·exact Ev.neg c j
 obtain ⟨h0,na,u,nb,q,rfl,rfl,e,st,ch,ql,least,wb⟩:=hw.two h2
 rw [if_pos h2,decide_eq_false (show ¬ (r.1.length:Int) < 2 by omega)]
 refine Ev.pos h0 (Ev.step (fun k=>by simp only [lane_Sail.j0];rfl) (Ev.neg Bool.false_ne_true (Ev.pos (by omega) (Ev.pos (by omega) ?_))))
 rw [e]
 change Ev (fun k=>(lane_side.f k (w:Int) (h:Int) C (na:Int) (u:Int)).bind _) _
 have si:=sd_in w ((u:Int) - (na:Int))
 refine Ev.bind (side_ev L st) ?_
 cases q with
 | nil =>
  rw [if_neg (by simp)]
  refine Ev.neg (by simp) (Ev.const ?_)
  rw [wrap_in (x:=sd w ((u:Int) - (na:Int)) + 2) (by omega) (by omega)]
  rfl
 | cons x q =>
  obtain ⟨v,rfl,st2,ch2⟩:=ch
  rw [if_pos (by simp)]
  refine Ev.pos (by simp only [List.length_cons];omega) (Ev.pos (by simp only [List.length_cons];omega) ?_)
  change Ev (fun k=>(lane_side.f k (w:Int) (h:Int) C (u:Int) (v:Int)).bind _) _
  refine Ev.bind (side_ev L st2) (Ev.const ?_)
  rw [wrap_in (x:=sd w ((u:Int) - (na:Int)) + 2) (by omega) (by omega),wrap_in (x:=s4 - 192) (by omega) (by omega)]
  rfl
end
section
variable {W H : Int} {C K B : List Int} {w h : Nat}
abbrev noSl (c : Int) : Int × Int × Int × Int × Int × Int × Int := (0, 0, 0, 0, 0, 0, c)
theorem ship_bad (hC:C.length ≤ 4000) (hB:B.length ≤ 4000) (hw:¬ wcode W H C K B = 0) (s0 s1 s2 s3 s4 g:Int):Ev (fun k => lane_Sail.f k W H C K B s0 s1 s2 s3 s4 g) (noSl (wcode W H C K B)) := by
 unfold lane_Sail.f
 refine Ev.bind (land_ev hC) (Ev.bind (validate_ev hC hB) (Ev.bind (or2_ev _ _) ?_))
 rw [code_or]
 exact Ev.neg hw (Ev.now _)
def Fits (s1 s2 s3 s4 : Int) : Prop := (-1 ≤ s1 ∧ s1 ≤ 3) ∧ (0 ≤ s2 ∧ s2 ≤ 3) ∧ (0 ≤ s3 ∧ s3 ≤ 192) ∧ (0 ≤ s4 ∧ s4 ≤ 191)
theorem ship_ev (U:Waters w h C K B) (hC:C.length ≤ 4000) (hB:B.length ≤ 4000) {s0 s1 s2 s3 s4 g:Int} {r:List Int × Int} (hs:Wets w h C K s0) (hf:Fits s1 s2 s3 s4) (h4:192 ≤ s4 + s3) (hr:Ev (fun k => water_Sail.f k (w:Int) (h:Int) C K B s0 g) r) (hw:Way w h C K s0 g r):Ev (fun k => lane_Sail.f k (w:Int) (h:Int) C K B s0 s1 s2 s3 s4 g) (shipR w s0 s1 s2 s3 (s4 + s3) r) := by
 unfold lane_Sail.f
 have h0:s0 ≠ -1:=by obtain ⟨n,e,_⟩:=hs;omega
 have hf':=hf
 unfold Fits at hf'
 refine Ev.bind (land_ev hC) (Ev.bind (validate_ev hC hB) (Ev.bind (or2_ev _ _) ?_))
 rw [of_land U.land,of_waters U,if_pos rfl]
 refine Ev.pos rfl (Ev.bindc (moves_eq s0 s1 s2 s3 s4 h0) (Ev.pos (decide_eq_true hf) (Ev.neg h0 (Ev.bind (wet_ev U hC hB s0) ?_))))
 rw [if_pos hs,wrap_in (x:=s4 + s3) (by omega) (by omega)]
 exact Ev.pos rfl (Ev.neg (by omega) (Ev.bind hr (turn_ev U.land hw s0 s1 s2 s3 (s4 + s3) (by omega))))
end
end Go.Proofs.Ythjmdpekcleihaa.Pure
