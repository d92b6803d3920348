/- Layer 6, WaterFloods (P6.4): which tiles lie low beside the sea. No conditions. -/
import Derived.Test.YtiencnnkphipoaaPx0
import Derived.Test.YtiencnnkphipoaaPx38
import Derived.Test.YtiencnnkphipoaaPx39
import Derived.Test.YtiencnnkphipoaaPSWaterFloods
import Derived.Test.YtiencnnkphipoaaWaterY
import Derived.Test.YtiencnnkphipoaaWater6
namespace Go.Proofs.Ytiencnnkphipoaa.Pure
set_option linter.unusedVariables false
set_option linter.unusedSimpArgs false
open Go.RowKit Go.Proofs.YtiencnnkphipoaaW.PrintWords Go.Proofs.YtiencnnkphipoaaW.PrintMore Go.Proofs.Ytiencnnkphipoaa.P Go.Proofs.Ytiencnnkphipoaa

section
variable {w h : Nat} {C K B : List Int}
theorem flood_sides (U : Waters w h C K B) {t : Nat} (ht : t < w * h) (o : List Int) (ho : o.length ≤ 4000) (r : List Int × Int)
  (next : ∀ o' : List Int,o'.length ≤ o.length + 1 → ∃ r : List Int × Int,r.1.length ≤ 4000 ∧ Ev (fun k => water_Flood.l0 k o' K (K.length : Int) ((t : Int) + 1) (w : Int) (h : Int) (gS w h C) (gB w h C) (gE w h C)) r ∧ Ev (fun k => hinterlandref06_Flood.l0 k o' K (K.length : Int) ((t : Int) + 1) (w : Int) (h : Int) C) r) :
  ∀ d s : Nat,s + d = 4 → ∃ r : List Int × Int,r.1.length ≤ 4000 ∧ Ev (fun k => water_Flood.l1 k o (t : Int) K (K.length : Int) (t : Int) (s : Int) (w : Int) (h : Int) (gS w h C) (gB w h C) (gE w h C)) r ∧ Ev (fun k => hinterlandref06_Flood.l1 k o (t : Int) K (K.length : Int) (t : Int) (s : Int) (w : Int) (h : Int) C) r
 | 0,s,e => by
  have hwh : w * h ≤ 32 * 32:=mulle U.land.w1 U.land.h1
  obtain ⟨r,r0,r1,r2⟩:=next o (by omega)
  refine ⟨r,r0,Ev.step (fun k => by simp only [water_Flood.l1];rfl) (Ev.neg (by omega) ?_),Ev.step (fun k => by simp only [hinterlandref06_Flood.l1];rfl) (Ev.neg (by omega) ?_)⟩
  ·rw [wrap_in (x:=(t : Int) + 1) (by omega) (by omega)];exact r1
  ·rw [wrap_in (x:=(t : Int) + 1) (by omega) (by omega)];exact r2
 | d + 1,s,e => by
  have L:=U.land
  have hwh : w * h ≤ 32 * 32:=mulle L.w1 L.h1
  have hs : 0 ≤ (s : Int) ∧ (s : Int) ≤ 3:=by omega
  obtain ⟨l1,l2,l3⟩:=g_len (w:=w) (h:=h) (C:=C)
  obtain ⟨b1,b2⟩:=bey_lt ht (s : Int)
  have more : ∃ r : List Int × Int,r.1.length ≤ 4000 ∧ Ev (fun k => water_Flood.l1 k o (t : Int) K (K.length : Int) (t : Int) (wrap64 ((s : Int) + 1)) (w : Int) (h : Int) (gS w h C) (gB w h C) (gE w h C)) r ∧ Ev (fun k => hinterlandref06_Flood.l1 k o (t : Int) K (K.length : Int) (t : Int) (wrap64 ((s : Int) + 1)) (w : Int) (h : Int) C) r:=by
   rw [wrap_in (x:=(s : Int) + 1) (by omega) (by omega)]
   exact flood_sides U ht o ho r next d (s + 1) (by omega)
  by_cases q : bey w h t (s : Int) ≥ 0
  ·obtain ⟨b,hb⟩:=Int.eq_ofNat_of_zero_le q
   have hbl : b < w * h:=by omega
   have hb' : bey w h t (s : Int) = (b : Int):=hb
   by_cases hse : sea w C b = true
   ·obtain ⟨r,r0,r1,r2⟩:=next (o ++ [(t : Int)]) (by simp)
    refine ⟨r,r0,Ev.step (fun k => by simp only [water_Flood.l1];rfl) (Ev.pos (by omega) (Ev.bind (beyond_ev L ht hs _ _ _) ?_)),Ev.step (fun k => by simp only [hinterlandref06_Flood.l1];rfl) (Ev.pos (by omega) (Ev.bindc (ref_beyond_eq L ht hs) ?_))⟩
    ·rw [hb',rdB,gE_at hbl,wrap_in (x:=(t : Int) + 1) (by omega) (by omega)]
     exact Ev.pos (by omega) (Ev.pos (by omega) (Ev.pos (by omega) (Ev.pos hse (Ev.pos (by omega) r1))))
    ·rw [hb',wrap_in (x:=(t : Int) + 1) (by omega) (by omega)]
     exact Ev.pos (by omega) (Ev.bind (sea_ev L hbl) (Ev.pos hse (Ev.pos (by omega) r2)))
   ·obtain ⟨r,r0,r1,r2⟩:=more
    refine ⟨r,r0,Ev.step (fun k => by simp only [water_Flood.l1];rfl) (Ev.pos (by omega) (Ev.bind (beyond_ev L ht hs _ _ _) ?_)),Ev.step (fun k => by simp only [hinterlandref06_Flood.l1];rfl) (Ev.pos (by omega) (Ev.bindc (ref_beyond_eq L ht hs) ?_))⟩
    ·rw [hb',rdB,gE_at hbl]
     exact Ev.pos (by omega) (Ev.pos (by omega) (Ev.pos (by omega) (Ev.neg hse r1)))
    ·rw [hb']
     exact Ev.pos (by omega) (Ev.bind (sea_ev L hbl) (Ev.neg hse r2))
  ·obtain ⟨r,r0,r1,r2⟩:=more
   exact ⟨r,r0,Ev.step (fun k => by simp only [water_Flood.l1];rfl) (Ev.pos (by omega) (Ev.bind (beyond_ev L ht hs _ _ _) (Ev.neg q r1))),Ev.step (fun k => by simp only [hinterlandref06_Flood.l1];rfl) (Ev.pos (by omega) (Ev.bindc (ref_beyond_eq L ht hs) (Ev.neg q r2)))⟩
theorem flood_scan (U : Waters w h C K B) : ∀ d t : Nat, t + d = K.length → ∀ o : List Int, o.length ≤ t → ∃ r : List Int × Int, r.1.length ≤ 4000 ∧ Ev (fun k => water_Flood.l0 k o K (K.length : Int) (t : Int) (w : Int) (h : Int) (gS w h C) (gB w h C) (gE w h C)) r ∧ Ev (fun k => hinterlandref06_Flood.l0 k o K (K.length : Int) (t : Int) (w : Int) (h : Int) C) r
 | 0,t,e,o,ho => by
  have hwh : w * h ≤ 32 * 32:=mulle U.land.w1 U.land.h1
  have:=U.len
  exact ⟨(o,0),by show o.length ≤ 4000;omega,Ev.step (fun k => by simp only [water_Flood.l0];rfl) (Ev.neg (by omega) (Ev.now _)),Ev.step (fun k => by simp only [hinterlandref06_Flood.l0];rfl) (Ev.neg (by omega) (Ev.now _))⟩
 | d + 1,t,e,o,ho => by
  have L:=U.land
  have hKl:=U.len
  have hwh : w * h ≤ 32 * 32:=mulle L.w1 L.h1
  obtain ⟨l1,l2,l3⟩:=g_len (w:=w) (h:=h) (C:=C)
  have ht : t < w * h:=by omega
  have next : ∀ o' : List Int,o'.length ≤ o.length + 1 → ∃ r : List Int × Int,r.1.length ≤ 4000 ∧ Ev (fun k => water_Flood.l0 k o' K (K.length : Int) ((t : Int) + 1) (w : Int) (h : Int) (gS w h C) (gB w h C) (gE w h C)) r ∧ Ev (fun k => hinterlandref06_Flood.l0 k o' K (K.length : Int) ((t : Int) + 1) (w : Int) (h : Int) C) r :=
   fun o' h' => flood_scan U d (t + 1) (by omega) o' (by omega)
  have stop : ∃ r : List Int × Int,r.1.length ≤ 4000 ∧ (∀ q,q = true → Ev (fun k => water_Flood.j1 k o (t : Int) K (K.length : Int) (t : Int) q (w : Int) (h : Int) (gS w h C) (gB w h C) (gE w h C)) r) ∧ (∀ q,q = true → Ev (fun k => hinterlandref06_Flood.j1 k o (t : Int) K (K.length : Int) (t : Int) q (w : Int) (h : Int) C) r):=by
   obtain ⟨r,r0,r1,r2⟩:=next o (by omega)
   refine ⟨r,r0,fun q hq => Ev.step (fun k => by simp only [water_Flood.j1];rfl) (Ev.pos hq ?_),fun q hq => Ev.step (fun k => by simp only [hinterlandref06_Flood.j1];rfl) (Ev.pos hq ?_)⟩
   ·rw [wrap_in (x:=(t : Int) + 1) (by omega) (by omega)];exact r1
   ·rw [wrap_in (x:=(t : Int) + 1) (by omega) (by omega)];exact r2
  have into : ∃ r : List Int × Int,r.1.length ≤ 4000 ∧ (∀ q,q = false → Ev (fun k => water_Flood.j1 k o (t : Int) K (K.length : Int) (t : Int) q (w : Int) (h : Int) (gS w h C) (gB w h C) (gE w h C)) r) ∧ (∀ q,q = false → Ev (fun k => hinterlandref06_Flood.j1 k o (t : Int) K (K.length : Int) (t : Int) q (w : Int) (h : Int) C) r):=by
   obtain ⟨r,r0,r1,r2⟩:=flood_sides U ht o (by omega) ([],0) next 4 0 (by omega)
   exact ⟨r,r0,fun q hq => Ev.step (fun k => by simp only [water_Flood.j1];rfl) (Ev.neg (by simp [hq]) r1),fun q hq => Ev.step (fun k => by simp only [hinterlandref06_Flood.j1];rfl) (Ev.neg (by simp [hq]) r2)⟩
  have both : ∀ r : List Int × Int,(∀ q : Bool,q = decide (sea w C t = true ∨ K.getD t 0 ≠ 0 ∨ base w C t > 2) → Ev (fun k => water_Flood.j1 k o (t : Int) K (K.length : Int) (t : Int) q (w : Int) (h : Int) (gS w h C) (gB w h C) (gE w h C)) r) → Ev (fun k => water_Flood.l0 k o K (K.length : Int) (t : Int) (w : Int) (h : Int) (gS w h C) (gB w h C) (gE w h C)) r:=by
   intro r hr
   refine Ev.step (fun k => by simp only [water_Flood.l0];rfl) (Ev.pos (by omega) (Ev.pos (by omega) (Ev.pos (by omega) (Ev.pos (by omega) ?_))))
   rw [rdB,gE_at ht,rdN,rdN,gB_at ht]
   by_cases h1 : sea w C t = true
   ·exact Ev.pos h1 (hr _ (by rw [decide_eq_true (.inl h1)]))
   refine Ev.neg h1 ?_
   by_cases h2 : K.getD t 0 = 0
   ·refine Ev.pos h2 (Ev.pos (by omega) (hr _ (decide_eq_decide.2 ⟨fun q => .inr (.inr q),fun q => ?_⟩)))
    rcases q with q | q | q
    ·exact absurd q h1
    ·exact absurd h2 q
    ·exact q
   ·exact Ev.neg h2 (hr _ (by rw [decide_eq_true (.inr (.inl h2))]))
  have both2 : ∀ r : List Int × Int,(∀ q : Bool,q = decide (sea w C t = true ∨ K.getD t 0 ≠ 0 ∨ base w C t > 2) → Ev (fun k => hinterlandref06_Flood.j1 k o (t : Int) K (K.length : Int) (t : Int) q (w : Int) (h : Int) C) r) → Ev (fun k => hinterlandref06_Flood.l0 k o K (K.length : Int) (t : Int) (w : Int) (h : Int) C) r:=by
   intro r hr
   refine Ev.step (fun k => by simp only [hinterlandref06_Flood.l0];rfl) (Ev.pos (by omega) (Ev.pos (by omega) (Ev.pos (by omega) (Ev.bind (face_ev L ht) ?_))))
   rw [rdN]
   by_cases h2 : K.getD t 0 = 0
   ·refine Ev.pos h2 (Ev.bind (sea_ev L ht) ?_)
    by_cases h1 : sea w C t = true
    ·exact Ev.pos h1 (hr _ (by rw [decide_eq_true (.inl h1)]))
    ·refine Ev.neg h1 (hr _ (decide_eq_decide.2 ⟨fun q => .inr (.inr q),fun q => ?_⟩))
     rcases q with q | q | q
     ·exact absurd q h1
     ·exact absurd h2 q
     ·exact q
   ·exact Ev.neg h2 (hr _ (by rw [decide_eq_true (.inr (.inl h2))]))
  by_cases c : sea w C t = true ∨ K.getD t 0 ≠ 0 ∨ base w C t > 2
  ·obtain ⟨r,r0,r1,r2⟩:=stop
   exact ⟨r,r0,both r fun q hq => r1 q (by rw [hq];exact decide_eq_true c),both2 r fun q hq => r2 q (by rw [hq];exact decide_eq_true c)⟩
  ·obtain ⟨r,r0,r1,r2⟩:=into
   exact ⟨r,r0,both r fun q hq => r1 q (by rw [hq];exact decide_eq_false c),both2 r fun q hq => r2 q (by rw [hq];exact decide_eq_false c)⟩
end
theorem floods_both {W H : Int} {C K B : List Int} (hC : C.length ≤ 4000) (hK : K.length ≤ 4000) (hB : B.length ≤ 4000) : ∃ r : List Int × Int, r.1.length ≤ 4000 ∧ Ev (fun k => water_Flood.f k W H C K B) r ∧ Ev (fun k => hinterlandref06_Flood.f k W H C K B) r := by
 unfold water_Flood.f hinterlandref06_Flood.f
 by_cases hw : wcode W H C K B = 0
 ·have hw':=hw
  obtain ⟨w,h,rfl,rfl,U⟩:=waters_of hw
  obtain ⟨r,r0,r1,r2⟩:=flood_scan U K.length 0 (by omega) [] (by simp)
  refine ⟨r,r0,Ev.bind (check_ev hC hB) ?_,Ev.bind (ref_validate_ev hC hB) (Ev.pos hw' r2)⟩
  simp only [if_pos (of_land U.land),Int.toNat_natCast]
  exact Ev.pos hw' r1
 ·refine ⟨([],wcode W H C K B),by simp,Ev.bind (check_ev hC hB) ?_,Ev.bind (ref_validate_ev hC hB) (Ev.neg hw (Ev.now _))⟩
  by_cases l : lcode W H C = 0
  ·simp only [if_pos l];exact Ev.neg hw (Ev.now _)
  ·simp only [if_neg l];exact Ev.neg hw (Ev.now _)
theorem WaterFloods : hinterlandlaw06_WaterFloods.Pure := by
 intro W H C K B _ _ _ _ _
 refine Ev.rounds ?_
 unfold hinterlandlaw06_WaterFloods.f
 refine Ev.bindc (large_eq _ _ _ _ _) ?_
 by_cases hfar : (C.length : Int) > 4000 ∨ (K.length : Int) > 4000 ∨ (B.length : Int) > 4000
 ·exact Ev.pos (decide_eq_true hfar) known_then
 refine Ev.neg (fun h => hfar (of_decide_eq_true h)) ?_
 obtain ⟨r,r0,r1,r2⟩:=floods_both (W:=W) (H:=H) (C:=C) (K:=K) (B:=B) (by omega) (by omega) (by omega)
 exact Ev.bind r1 (Ev.bind r2 (Ev.pos rfl (Ev.bind (same_ev _ (by omega)) (Ev.pos rfl known_then))))

end Go.Proofs.Ytiencnnkphipoaa.Pure
