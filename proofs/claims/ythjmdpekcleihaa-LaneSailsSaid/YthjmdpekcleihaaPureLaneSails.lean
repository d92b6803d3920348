/- Layer 17, LaneSails (P17.5): a tick of a ship. No conditions. -/
import Derived.Test.YthjmdpekcleihaaPSLaneSails
import Derived.Test.YthjmdpekcleihaaShip4
import Derived.Test.YthjmdpekcleihaaShipK
import Derived.Test.YthjmdpekcleihaaShipS
namespace Go.Proofs.Ythjmdpekcleihaa.Pure
set_option linter.unusedVariables false
set_option linter.unusedSimpArgs false
open Go.RowKit Go.Proofs.YthjmdpekcleihaaW.PrintWords Go.Proofs.YthjmdpekcleihaaW.PrintMore Go.Proofs.Ythjmdpekcleihaa.P Go.Proofs.Ythjmdpekcleihaa

section
variable {w h : Nat} {C K B : List Int}
theorem sail_in (U:Waters w h C K B) (hC:C.length ≤ 4000) (hB:B.length ≤ 4000) {a b:Nat} (ha:a < w * h) (wa:wet w C K a = true) (hb:b < w * h) (wb:wet w C K b = true) {r:List Int × Int}
  (hr:Ev (fun k=>water_Sail.l1 k (a:Int) [(b:Int)] K B (w:Int) (h:Int) (gS w h C) (gB w h C) (gE w h C) (mpPut (b:Int) 0 ([]:List (Int × Int)))) r):Ev (fun k=>water_Sail.f k (w:Int) (h:Int) C K B (a:Int) (b:Int)) r:=by
 unfold water_Sail.f
 have hKl:=U.len
 have hwh:w * h ≤ 32 * 32:=mulle U.land.w1 U.land.h1
 refine Ev.bind (check_ev hC hB) ?_
 simp only [if_pos (of_land U.land),Int.toNat_natCast]
 refine Ev.pos (of_waters U) (Ev.step (fun k=>by simp only [water_Sail.l0];rfl) (Ev.pos (by decide) (Ev.pos (by decide) (Ev.neg (show ¬ (a:Int) < 0 by omega) (Ev.neg (show ¬ (a:Int) ≥ (K.length:Int) by omega) ?_)))))
 refine Ev.bindc (show water_ground_wet.f (w:Int) (h:Int) (gS w h C) (gB w h C) (gE w h C) K B (a:Int) = some (wet w C K a) from wet_lt hKl ha) ?_
 rw [wrap_in (x:=(0:Int) + 1) (by decide) (by decide)]
 refine Ev.pos wa (Ev.step (fun k=>by simp only [water_Sail.l0];rfl) (Ev.pos (by decide) (Ev.pos (by decide) (Ev.neg (show ¬ (b:Int) < 0 by omega) (Ev.neg (show ¬ (b:Int) ≥ (K.length:Int) by omega) ?_)))))
 refine Ev.bindc (show water_ground_wet.f (w:Int) (h:Int) (gS w h C) (gB w h C) (gE w h C) K B (b:Int) = some (wet w C K b) from wet_lt hKl hb) ?_
 rw [wrap_in (x:=(0:Int) + 1 + 1) (by decide) (by decide)]
 exact Ev.pos wb (Ev.step (fun k=>by simp only [water_Sail.l0];rfl) (Ev.neg (by decide) hr))
theorem sail_next (U:Waters w h C K B) (hC:C.length ≤ 4000) (hB:B.length ≤ 4000) {a b u:Nat} {q:List Int} (ha:a < w * h) (wa:wet w C K a = true) (hu:u < w * h) (wu:wet w C K u = true) (hb:b < w * h) (wb:wet w C K b = true)
  (hr:Ev (fun k=>water_Sail.f k (w:Int) (h:Int) C K B (a:Int) (b:Int)) ((a:Int) :: (u:Int) :: q,0)):Ev (fun k=>water_Sail.f k (w:Int) (h:Int) C K B (u:Int) (b:Int)) ((u:Int) :: q,0):=by
 obtain ⟨R,⟨_,nx⟩,r1⟩:=spreadA U _ _ _ _ 0 (bfs_start (C:=C) (K:=K) hb) (lab_start (w:=w) (h:=h) (C:=C) (K:=K) hb).2 (by simp) (Nat.le_refl _)
 have e:=Ev.unique (sail_in U hC hB ha wa hb wb (r1 a ha)) hr
 obtain ⟨v,e2,hv,e3⟩:=nx a _ q ha e
 obtain rfl:u = v:=by omega
 have:=sail_in U hC hB hu wu hb wb (r1 u hu)
 rw [e3] at this
 exact this
theorem stp_wet {t u:Nat} (q:Stp w h C K t u):wet w C K u = true := by
 apply Classical.byContradiction
 intro hn
 obtain ⟨_,_,s,hs,hj,_⟩:=q.back
 rw [join_no2 hn] at hj
 exact absurd hj (by decide)
end
def MV (s0 s1 s2 s3 s4 : Int) : Prop := Fits s1 s2 s3 s4 ∧ (s0 = -1 → s1 = -1 ∧ s2 = 0 ∧ s3 = 0 ∧ s4 = 0)
open Classical in
theorem mv_eq (s0 s1 s2 s3 s4:Int):lane_moves.f s0 s1 s2 s3 s4 = some (decide (MV s0 s1 s2 s3 s4)) := by
 by_cases c:s0 = -1
 rotate_left
 ·rw [moves_eq _ _ _ _ _ c]
  congr 1
  apply decide_eq_decide.2
  exact ⟨fun z=>⟨z,fun e=>absurd e c⟩,fun z=>z.1⟩
 unfold lane_moves.f
 rw [if_pos c]
 by_cases c1:s1 = -1
 rotate_left
 ·rw [if_neg c1,decide_eq_false (fun z=>c1 (z.2 c).1)]
 rw [if_pos c1]
 by_cases c2:s2 = 0
 rotate_left
 ·rw [if_neg c2,decide_eq_false (fun z=>c2 (z.2 c).2.1)]
 rw [if_pos c2]
 by_cases c3:s3 = 0
 rotate_left
 ·rw [if_neg c3,decide_eq_false (fun z=>c3 (z.2 c).2.2.1)]
 rw [if_pos c3]
 by_cases c4:s4 = 0
 rotate_left
 ·rw [decide_eq_false (fun z=>c4 (z.2 c).2.2.2),beq_eq_false_iff_ne.2 c4]
 rw [decide_eq_true (show MV s0 s1 s2 s3 s4 from ⟨by unfold Fits;omega,fun _=>⟨c1,c2,c3,c4⟩⟩),beq_iff_eq.2 c4]
open Classical in
theorem piece_eq (s0 s1 s2 s3 s4:Int):hinterlandref17_piece.f s0 s1 s2 s3 s4 = some (decide (¬ MV s0 s1 s2 s3 s4)) := by
 have no:¬ Fits s1 s2 s3 s4 → decide (¬ MV s0 s1 s2 s3 s4) = true:=fun h=>decide_eq_true (fun z=>h z.1)
 unfold hinterlandref17_piece.f
 unfold Fits at no
 by_cases c1:s1 < -1
 ·rw [if_pos c1,no (by omega)]
 rw [if_neg c1]
 by_cases c2:s1 > 3
 ·rw [if_pos c2,no (by omega)]
 rw [if_neg c2]
 by_cases c3:s2 < 0
 ·rw [if_pos c3,no (by omega)]
 rw [if_neg c3]
 by_cases c4:s2 > 3
 ·rw [if_pos c4,no (by omega)]
 rw [if_neg c4]
 by_cases c5:s3 < 0
 ·rw [if_pos c5,no (by omega)]
 rw [if_neg c5]
 by_cases c6:s3 > 192
 ·rw [if_pos c6,no (by omega)]
 rw [if_neg c6]
 by_cases c7:s4 < 0
 ·rw [if_pos c7,no (by omega)]
 rw [if_neg c7]
 by_cases c8:s4 ≥ 192
 ·rw [if_pos c8,no (by omega)]
 rw [if_neg c8]
 have hf:Fits s1 s2 s3 s4:=by unfold Fits;omega
 by_cases c:s0 = -1
 rotate_left
 ·rw [if_neg c,decide_eq_false (fun z=>z ⟨hf,fun e=>absurd e c⟩)]
 rw [if_pos c]
 by_cases d1:s1 = -1
 rotate_left
 ·rw [if_neg d1,decide_eq_true (show ¬ MV s0 s1 s2 s3 s4 from fun z=>d1 (z.2 c).1)]
 rw [if_pos d1]
 by_cases d2:s2 = 0
 rotate_left
 ·rw [if_neg d2,decide_eq_true (show ¬ MV s0 s1 s2 s3 s4 from fun z=>d2 (z.2 c).2.1)]
 rw [if_pos d2]
 by_cases d3:s3 = 0
 rotate_left
 ·rw [if_neg d3,decide_eq_true (show ¬ MV s0 s1 s2 s3 s4 from fun z=>d3 (z.2 c).2.2.1)]
 rw [if_pos d3]
 by_cases d4:s4 = 0
 rotate_left
 ·rw [decide_eq_true (show ¬ MV s0 s1 s2 s3 s4 from fun z=>d4 (z.2 c).2.2.2),bne_iff_ne.2 d4]
 rw [decide_eq_false (fun z=>z ⟨hf,fun _=>⟨d1,d2,d3,d4⟩⟩),bne_eq_false_iff_eq.2 d4]
section
variable {w h : Nat} {C K B : List Int}
open Classical in
noncomputable def tickR (w h : Nat) (C K : List Int) (s0 s1 s2 s3 s4 : Int) (r : List Int × Int) : Int × Int × Int × Int × Int × Int × Int :=
 if MV s0 s1 s2 s3 s4 then (if s0 = -1 then (s0,s1,s2,s3,s4,0,0) else if Wets w h C K s0 then (if s4 + s3 < 192 then (s0,s1,s2,s3,s4 + s3,0,0) else shipR w s0 s1 s2 s3 (s4 + s3) r) else noSl 2) else noSl 1
open Classical in
theorem tick_ev (U:Waters w h C K B) (hC:C.length ≤ 4000) (hB:B.length ≤ 4000) {s0 s1 s2 s3 s4 g:Int} {r:List Int × Int} (hr:Ev (fun k => water_Sail.f k (w:Int) (h:Int) C K B s0 g) r) (hw:Way w h C K s0 g r):Ev (fun k => lane_Sail.f k (w:Int) (h:Int) C K B s0 s1 s2 s3 s4 g) (tickR w h C K s0 s1 s2 s3 s4 r) := by
 unfold lane_Sail.f tickR
 refine Ev.bind (land_ev hC) (Ev.bind (validate_ev hC hB) (Ev.bind (or2_ev _ _) ?_))
 rw [of_land U.land,of_waters U,if_pos rfl]
 refine Ev.pos rfl (Ev.bindc (mv_eq s0 s1 s2 s3 s4) ?_)
 by_cases hm:MV s0 s1 s2 s3 s4
 rotate_left
 ·exact Ev.eq (Ev.neg (fun z=>hm (of_decide_eq_true z)) (Ev.now _)) (if_neg hm).symm
 refine Ev.eq (Ev.pos (decide_eq_true hm) ?_) (if_pos hm).symm
 have hf:=hm.1
 unfold Fits at hf
 by_cases h0:s0 = -1
 ·exact Ev.eq (Ev.pos h0 (Ev.now _)) (if_pos h0).symm
 refine Ev.eq (Ev.neg h0 (Ev.bind (wet_ev U hC hB s0) ?_)) (if_neg h0).symm
 by_cases hs:Wets w h C K s0
 rotate_left
 ·rw [if_neg hs,if_neg hs]
  exact Ev.neg (by decide) (Ev.now _)
 rw [if_pos hs,if_pos hs,wrap_in (x:=s4 + s3) (by omega) (by omega)]
 refine Ev.pos rfl ?_
 by_cases h4:s4 + s3 < 192
 ·exact Ev.eq (Ev.pos h4 (Ev.now _)) (if_pos h4).symm
 exact Ev.eq (Ev.neg h4 (Ev.bind hr (turn_ev U.land hw s0 s1 s2 s3 (s4 + s3) (by omega)))) (if_neg h4).symm
open Classical in
theorem rtick_ev (U:Waters w h C K B) (hC:C.length ≤ 4000) (hB:B.length ≤ 4000) {s0 s1 s2 s3 s4 g:Int} {r:List Int × Int} (hp:Ev (fun k => water_Sail.f k (w:Int) (h:Int) C K B s0 g) r) (hr:Ev (fun k => hinterlandref06_Sail.f k (w:Int) (h:Int) C K B s0 g) r) (hw:Way w h C K s0 g r):Ev (fun k => hinterlandref17_Sail.f k (w:Int) (h:Int) C K B s0 s1 s2 s3 s4 g) (tickR w h C K s0 s1 s2 s3 s4 r) := by
 have hwh:w * h ≤ 32 * 32:=mulle U.land.w1 U.land.h1
 unfold hinterlandref17_Sail.f tickR
 refine Ev.bind (ref_validate_ev hC hB) (Ev.pos (of_waters U) (Ev.bindc (piece_eq s0 s1 s2 s3 s4) ?_))
 by_cases hm:MV s0 s1 s2 s3 s4
 rotate_left
 ·exact Ev.eq (Ev.pos (decide_eq_true hm) (Ev.now _)) (if_neg hm).symm
 refine Ev.eq (Ev.neg (fun z=>of_decide_eq_true z hm) ?_) (if_pos hm).symm
 have hf:=hm.1
 unfold Fits at hf
 by_cases h0:s0 = -1
 ·exact Ev.eq (Ev.pos h0 (Ev.now _)) (if_pos h0).symm
 refine Ev.eq (Ev.neg h0 (Ev.bind (rwet_ev U hC hB s0) ?_)) (if_neg h0).symm
 by_cases hs:Wets w h C K s0
 rotate_left
 ·rw [if_neg hs]
  exact Ev.neg (fun z=>hs (of_decide_eq_true z)) (Ev.now _)
 rw [if_pos hs,wrap_in (x:=s4 + s3) (by omega) (by omega)]
 refine Ev.pos (decide_eq_true hs) ?_
 by_cases h4:s4 + s3 < 192
 ·exact Ev.eq (Ev.pos h4 (Ev.now _)) (if_pos h4).symm
 refine Ev.eq (Ev.neg h4 (Ev.bind (course_ev hr (by omega) hw) ?_)) (if_neg h4).symm
 unfold shipR
 by_cases h2:2 ≤ r.1.length
 rotate_left
 ·rw [if_neg h2,if_neg h2]
  exact Ev.neg (by simp) (Ev.now _)
 obtain ⟨e0,na,u,nb,q,rfl,rfl,e,st,ch,ql,least,wb⟩:=hw.two h2
 rw [if_pos h2,if_pos h2]
 refine Ev.pos rfl (Ev.bind hr (Ev.pos (by omega) ?_))
 obtain ⟨n',en,hna,wna⟩:=hs
 obtain rfl:na = n':=by omega
 have hnb:nb < w * h:=by
  rcases hw with ⟨x,y,⟨_,e2,_,h2',_⟩,_⟩ | ⟨z,_⟩
  ·omega
  ·rw [z] at h2;simp at h2
 have er:r = ((na:Int) :: (u:Int) :: q,0):=Prod.ext e e0
 subst er
 have si:=sd_in w ((u:Int) - (na:Int))
 have hn:=sail_next U hC hB hna wna st.2.1 (stp_wet st) hnb wb hp
 obtain ⟨r',p1,p2,p3⟩:=ways U hC hB (u:Int) (nb:Int)
 obtain rfl:=Ev.unique hn p1
 change Ev (fun k=>(hinterlandref17_course.f k (w:Int) (h:Int) C K B (u:Int) (nb:Int)).bind _) _
 refine Ev.bind (course_ev p2 (by omega) p3) ?_
 rw [wrap_in (x:=s4 + s3 - 192) (by omega) (by omega)]
 cases q with
 | nil =>
  have eu:u = nb:=ch
  subst eu
  rw [if_neg (show ¬ 2 ≤ ((((u:Int) :: ([]:List Int)),(0:Int)):List Int × Int).1.length by simp),if_neg (show ¬ 2 < ((((na:Int) :: (u:Int) :: ([]:List Int)),(0:Int)):List Int × Int).1.length by simp)]
  refine Ev.neg (by simp) (Ev.pos rfl (Ev.const ?_))
  show some ((u:Int),Int.tmod (wrap64 (sd w ((u:Int) - (na:Int)) + 2)) 4,sd w ((u:Int) - (na:Int)),s3,0,3,0) = _
  rw [wrap_in (x:=sd w ((u:Int) - (na:Int)) + 2) (by omega) (by omega)]
  rfl
 | cons x q =>
  have hug:u ≠ nb:=by
   intro z
   have:=least [(u:Int)] ⟨u,rfl,st,z⟩
   simp at this
  rw [if_pos (show 2 ≤ ((((u:Int) :: x :: q),(0:Int)):List Int × Int).1.length by simp),if_pos (show 2 < ((((na:Int) :: (u:Int) :: x :: q),(0:Int)):List Int × Int).1.length by simp)]
  refine Ev.pos rfl (Ev.neg (show ¬ (u:Int) = (nb:Int) by omega) (Ev.const ?_))
  show some ((u:Int),Int.tmod (wrap64 (sd w ((u:Int) - (na:Int)) + 2)) 4,sd w (x - (u:Int)),s3,s4 + s3 - 192,0,0) = _
  rw [wrap_in (x:=sd w ((u:Int) - (na:Int)) + 2) (by omega) (by omega)]
  rfl
end
theorem LaneSails:hinterlandlaw17_LaneSails.Pure := by
 intro W H C K B s0 s1 s2 s3 s4 g _ _ _ _ _ _ _ _ _ _ _
 refine Ev.rounds ?_
 unfold hinterlandlaw17_LaneSails.f
 refine Ev.bindc (vast_eq _ _ _ _ _) ?_
 by_cases hfar:(C.length:Int) > 1200 ∨ (K.length:Int) > 1200 ∨ (B.length:Int) > 1200
 ·exact Ev.pos (decide_eq_true hfar) known_then
 refine Ev.neg (fun h=>hfar (of_decide_eq_true h)) ?_
 have hC:C.length ≤ 4000:=by omega
 have hB:B.length ≤ 4000:=by omega
 have fin:∀ r:Int × Int × Int × Int × Int × Int × Int,Ev (fun k=>hinterlandref17_Sail.f k W H C K B s0 s1 s2 s3 s4 g) r → Ev (fun k=>lane_Sail.f k W H C K B s0 s1 s2 s3 s4 g) r → Ev (fun k=>(hinterlandref17_Sail.f k W H C K B s0 s1 s2 s3 s4 g).bind fun bt=>(lane_Sail.f k W H C K B s0 s1 s2 s3 s4 g).bind fun ct=>if (ct.1 == bt.1 && (ct.2.1 == bt.2.1 && (ct.2.2.1 == bt.2.2.1 && (ct.2.2.2.1 == bt.2.2.2.1 && (ct.2.2.2.2.1 == bt.2.2.2.2.1))))) = true then (if ct.2.2.2.2.2.1 = bt.2.2.2.2.2.1 then (if ct.2.2.2.2.2.2 = bt.2.2.2.2.2.2 then ((hinterlandlaw17_known.f k).bind fun t=>hinterlandlaw17_LaneSails.j0 k t) else hinterlandlaw17_LaneSails.j0 k false) else hinterlandlaw17_LaneSails.j0 k false) else hinterlandlaw17_LaneSails.j0 k false) true:=by
  intro r h1 h2
  exact Ev.bind h1 (Ev.bind h2 (Ev.pos (by simp) (Ev.pos rfl (Ev.pos rfl (Ev.bind known_ev (Ev.step (fun k=>by simp only [hinterlandlaw17_LaneSails.j0]) (Ev.now _)))))))
 by_cases hw:wcode W H C K B = 0
 rotate_left
 ·refine fin _ ?_ (ship_bad hC hB hw s0 s1 s2 s3 s4 g)
  unfold hinterlandref17_Sail.f
  exact Ev.bind (ref_validate_ev hC hB) (Ev.neg hw (Ev.now _))
 obtain ⟨w,h,rfl,rfl,U⟩:=waters_of hw
 obtain ⟨r,r1,r2,r3⟩:=ways U hC hB s0 g
 exact fin _ (rtick_ev U hC hB r1 r2 r3) (tick_ev U hC hB r1 r3)

end Go.Proofs.Ythjmdpekcleihaa.Pure
