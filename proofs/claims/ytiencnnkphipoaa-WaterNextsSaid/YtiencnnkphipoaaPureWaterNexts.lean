/- Layer 6, WaterNexts (P6.3): through which sides a ship may leave. No conditions. -/
import Derived.Test.YtiencnnkphipoaaPx0
import Derived.Test.YtiencnnkphipoaaPx1
import Derived.Test.YtiencnnkphipoaaPx5
import Derived.Test.YtiencnnkphipoaaPx6
import Derived.Test.YtiencnnkphipoaaPx8
import Derived.Test.YtiencnnkphipoaaPx25
import Derived.Test.YtiencnnkphipoaaPx27
import Derived.Test.YtiencnnkphipoaaPx39
import Derived.Test.YtiencnnkphipoaaPx40
import Derived.Test.YtiencnnkphipoaaPSWaterNexts
import Derived.Test.YtiencnnkphipoaaWaterP
import Derived.Test.YtiencnnkphipoaaWater6
namespace Go.Proofs.Ytiencnnkphipoaa.Pure
set_option linter.unusedVariables false
set_option linter.unusedSimpArgs false
open Go.RowKit Go.Proofs.YtiencnnkphipoaaW.PrintWords Go.Proofs.YtiencnnkphipoaaW.PrintMore Go.Proofs.Ytiencnnkphipoaa.P Go.Proofs.Ytiencnnkphipoaa

section
variable {w h : Nat} {C K B : List Int}
theorem next_sides (U : Waters w h C K B) {t : Nat} (ht : t < w * h) {f : Int} (hf : -1 ≤ f ∧ f ≤ 3) :
  ∀ d s : Nat,s + d = 4 → ∀ o : List Int,o.length ≤ s → ∃ r : List Int × Int,r.1.length ≤ 8 ∧ Ev (fun k => water_Next.l0 k (t : Int) f o (s : Int) K B (w : Int) (h : Int) (gS w h C) (gB w h C) (gE w h C)) r ∧ Ev (fun k => hinterlandref06_Next.l0 k (t : Int) f o (s : Int) (w : Int) (h : Int) C K B) r
 | 0,s,e,o,ho => by
  have P : ∀ r,Ev (fun k => if (o.length : Int) = 0 then (if f ≥ 0 then ((water_ground_joined.f k (w : Int) (h : Int) (gS w h C) (gB w h C) (gE w h C) K B (t : Int) f).bind fun q => if q = true then some (([f] : List Int),(0 : Int)) else some (o,0)) else some (o,0)) else some (o,0)) r → Ev (fun k => water_Next.l0 k (t : Int) f o (s : Int) K B (w : Int) (h : Int) (gS w h C) (gB w h C) (gE w h C)) r :=
   fun r hr => Ev.step (fun k => by simp only [water_Next.l0];rfl) (Ev.neg (by omega) hr)
  have R : ∀ r,Ev (fun k => if (o.length : Int) = 0 then (if f ≥ 0 then ((hinterlandref06_Meets.f k (w : Int) (h : Int) C K B (t : Int) f).bind fun q => if q ≥ 0 then (if o.length < 17592186044416 then some (o ++ [f],(0 : Int)) else none) else some (o,0)) else some (o,0)) else some (o,0)) r → Ev (fun k => hinterlandref06_Next.l0 k (t : Int) f o (s : Int) (w : Int) (h : Int) C K B) r :=
   fun r hr => Ev.step (fun k => by simp only [hinterlandref06_Next.l0];rfl) (Ev.neg (by omega) hr)
  by_cases q0 : (o.length : Int) = 0
  rotate_left
  ·exact ⟨(o,0),by show o.length ≤ 8;omega,P _ (Ev.neg q0 (Ev.now _)),R _ (Ev.neg q0 (Ev.now _))⟩
  by_cases q1 : f ≥ 0
  rotate_left
  ·exact ⟨(o,0),by show o.length ≤ 8;omega,P _ (Ev.pos q0 (Ev.neg q1 (Ev.now _))),R _ (Ev.pos q0 (Ev.neg q1 (Ev.now _)))⟩
  have o0 : o = []:=List.length_eq_zero_iff.1 (by omega)
  subst o0
  have hf' : 0 ≤ f ∧ f ≤ 3:=⟨q1,hf.2⟩
  by_cases hj : join w h C K t f = true
  ·have b0:=(join_back ht hf' hj).1
   refine ⟨([f],0),by simp,P _ (Ev.pos q0 (Ev.pos q1 (Ev.bind (join_ev U ht hf') (Ev.pos hj (Ev.now _))))),R _ (Ev.pos q0 (Ev.pos q1 (Ev.bind (meets_ev U ht hf') ?_)))⟩
   rw [if_pos hj]
   exact Ev.pos b0 (Ev.pos (by decide) (Ev.now _))
  ·refine ⟨([],0),by simp,P _ (Ev.pos q0 (Ev.pos q1 (Ev.bind (join_ev U ht hf') (Ev.neg hj (Ev.now _))))),R _ (Ev.pos q0 (Ev.pos q1 (Ev.bind (meets_ev U ht hf') ?_)))⟩
   rw [if_neg hj]
   exact Ev.neg (by decide) (Ev.now _)
 | d + 1,s,e,o,ho => by
  have hs : 0 ≤ (s : Int) ∧ (s : Int) ≤ 3:=by omega
  have w1 : wrap64 ((s : Int) + 1) = ((s + 1 : Nat) : Int):=by rw [wrap_in (by omega) (by omega)];omega
  have s4 : (s : Int) < 4:=by omega
  by_cases q0 : (s : Int) = f
  ·obtain ⟨r,r0,r1,r2⟩:=next_sides U ht hf d (s + 1) (by omega) o (by omega)
   rw [← w1] at r1 r2
   exact ⟨r,r0,Ev.step (fun k => by simp only [water_Next.l0];rfl) (Ev.pos s4 (Ev.pos q0 r1)),Ev.step (fun k => by simp only [hinterlandref06_Next.l0];rfl) (Ev.pos s4 (Ev.pos q0 r2))⟩
  by_cases hj : join w h C K t (s : Int) = true
  ·have b0:=(join_back ht hs hj).1
   obtain ⟨r,r0,r1,r2⟩:=next_sides U ht hf d (s + 1) (by omega) (o ++ [(s : Int)]) (by simp;omega)
   rw [← w1] at r1 r2
   refine ⟨r,r0,Ev.step (fun k => by simp only [water_Next.l0];rfl) (Ev.pos s4 (Ev.neg q0 (Ev.bind (join_ev U ht hs) (Ev.pos hj (Ev.pos (show o.length < 17592186044416 by omega) r1))))),Ev.step (fun k => by simp only [hinterlandref06_Next.l0];rfl) (Ev.pos s4 (Ev.neg q0 (Ev.bind (meets_ev U ht hs) ?_)))⟩
   rw [if_pos hj]
   exact Ev.pos b0 (Ev.pos (show o.length < 17592186044416 by omega) r2)
  ·obtain ⟨r,r0,r1,r2⟩:=next_sides U ht hf d (s + 1) (by omega) o (by omega)
   rw [← w1] at r1 r2
   refine ⟨r,r0,Ev.step (fun k => by simp only [water_Next.l0];rfl) (Ev.pos s4 (Ev.neg q0 (Ev.bind (join_ev U ht hs) (Ev.neg hj r1)))),Ev.step (fun k => by simp only [hinterlandref06_Next.l0];rfl) (Ev.pos s4 (Ev.neg q0 (Ev.bind (meets_ev U ht hs) ?_)))⟩
   rw [if_neg hj]
   exact Ev.neg (by decide) r2
end
theorem next_both {W H : Int} {C K B : List Int} {t f : Int} (hC : C.length ≤ 4000) (hB : B.length ≤ 4000) : ∃ r : List Int × Int, r.1.length ≤ 8 ∧ Ev (fun k => water_Next.f k W H C K B t f) r ∧ Ev (fun k => hinterlandref06_Next.f k W H C K B t f) r := by
 unfold water_Next.f hinterlandref06_Next.f
 by_cases e : acode W H C K B t = 0
 rotate_left
 ·refine ⟨([],acode W H C K B t),by simp,Ev.bind (at_ev hC hB) ?_,Ev.bind (place_ev hC hB) (Ev.neg e (Ev.now _))⟩
  by_cases l : lcode W H C = 0
  ·simp only [if_pos l];exact Ev.neg e (Ev.now _)
  ·simp only [if_neg l];exact Ev.neg e (Ev.now _)
 have e':=e
 obtain ⟨w,h,n,rfl,rfl,rfl,hn,U⟩:=acode_zero e
 have hKl:=U.len
 have P : ∀ r,Ev (fun k => if wet w C K n = true then (if f < -1 then some (([] : List Int),(1 : Int)) else if f > 3 then some ([],1) else water_Next.l0 k (n : Int) f [] 0 K B (w : Int) (h : Int) (gS w h C) (gB w h C) (gE w h C)) else some ([],2)) r → Ev (fun k => (water_at.f k (w : Int) (h : Int) C K B (n : Int)).bind fun g => if g.2.2.2.2.2 = 0 then ((water_ground_wet.f g.1 g.2.1 g.2.2.1 g.2.2.2.1 g.2.2.2.2.1 K B (n : Int)).bind fun q => if q = true then (if f < -1 then some (([] : List Int),(1 : Int)) else if f > 3 then some ([],1) else water_Next.l0 k (n : Int) f [] 0 K B g.1 g.2.1 g.2.2.1 g.2.2.2.1 g.2.2.2.2.1) else some ([],2)) else some ([],g.2.2.2.2.2)) r:=by
  intro r hr
  refine Ev.bind (at_ev hC hB) ?_
  simp only [if_pos (of_land U.land),Int.toNat_natCast]
  exact Ev.pos e' (Ev.bindc (wet_lt hKl hn) hr)
 have R : ∀ r,Ev (fun k => if wet w C K n = true then (if f < -1 then hinterlandref06_Next.j0 k (n : Int) f true (w : Int) (h : Int) C K B else hinterlandref06_Next.j0 k (n : Int) f (decide (f > 3)) (w : Int) (h : Int) C K B) else some (([] : List Int),(2 : Int))) r → Ev (fun k => (hinterlandref06_place.f k (w : Int) (h : Int) C K B (n : Int)).bind fun q => if q = 0 then ((hinterlandref06_Wet.f k (w : Int) (h : Int) C K (n : Int)).bind fun q => if q = true then (if f < -1 then hinterlandref06_Next.j0 k (n : Int) f true (w : Int) (h : Int) C K B else hinterlandref06_Next.j0 k (n : Int) f (decide (f > 3)) (w : Int) (h : Int) C K B) else some (([] : List Int),(2 : Int))) else some ([],q)) r:=by
  intro r hr
  exact Ev.bind (place_ev hC hB) (Ev.pos e' (Ev.bind (ref_wet_ev U.land hn hKl (U.kinds _ (Nat.zero_le _) (by omega)) (U.may _ (Nat.zero_le _) (by omega))) hr))
 by_cases wn : wet w C K n = true
 rotate_left
 ·exact ⟨([],2),by simp,P _ (Ev.neg wn (Ev.now _)),R _ (Ev.neg wn (Ev.now _))⟩
 by_cases f1 : f < -1
 ·exact ⟨([],1),by simp,P _ (Ev.pos wn (Ev.pos f1 (Ev.now _))),R _ (Ev.pos wn (Ev.pos f1 (Ev.step (fun k => by simp only [hinterlandref06_Next.j0];rfl) (Ev.pos (show true = true from rfl) (Ev.now _)))))⟩
 by_cases f2 : f > 3
 ·exact ⟨([],1),by simp,P _ (Ev.pos wn (Ev.neg f1 (Ev.pos f2 (Ev.now _)))),R _ (Ev.pos wn (Ev.neg f1 (Ev.step (fun k => by simp only [hinterlandref06_Next.j0];rfl) (Ev.pos (decide_eq_true f2) (Ev.now _)))))⟩
 obtain ⟨r,r0,r1,r2⟩:=next_sides U hn (f:=f) (by omega) 4 0 (by omega) [] (by simp)
 exact ⟨r,r0,P _ (Ev.pos wn (Ev.neg f1 (Ev.neg f2 r1))),R _ (Ev.pos wn (Ev.neg f1 (Ev.step (fun k => by simp only [hinterlandref06_Next.j0];rfl) (Ev.neg (fun hc => f2 (of_decide_eq_true hc)) r2))))⟩
theorem WaterNexts : hinterlandlaw06_WaterNexts.Pure := by
 intro W H C K B t f _ _ _ _ _ _ _
 refine Ev.rounds ?_
 unfold hinterlandlaw06_WaterNexts.f
 refine Ev.bindc (large_eq _ _ _ _ _) ?_
 by_cases hfar : (C.length : Int) > 4000 ∨ (K.length : Int) > 4000 ∨ (B.length : Int) > 4000
 ·exact Ev.pos (decide_eq_true hfar) known_then
 refine Ev.neg (fun h => hfar (of_decide_eq_true h)) ?_
 obtain ⟨r,r0,r1,r2⟩:=next_both (W:=W) (H:=H) (C:=C) (K:=K) (B:=B) (t:=t) (f:=f) (by omega) (by omega)
 exact Ev.bind r1 (Ev.bind r2 (Ev.pos rfl (Ev.bind (same_ev _ (by omega)) (Ev.pos rfl known_then))))

end Go.Proofs.Ytiencnnkphipoaa.Pure
