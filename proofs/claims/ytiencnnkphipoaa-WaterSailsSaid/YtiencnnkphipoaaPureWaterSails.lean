/- Layer 6, WaterSails (P6.4): the way of a ship. No conditions. -/
import Derived.Test.YtiencnnkphipoaaPx0
import Derived.Test.YtiencnnkphipoaaPx1
import Derived.Test.YtiencnnkphipoaaPx4
import Derived.Test.YtiencnnkphipoaaPx7
import Derived.Test.YtiencnnkphipoaaPx8
import Derived.Test.YtiencnnkphipoaaPx10
import Derived.Test.YtiencnnkphipoaaPx33
import Derived.Test.YtiencnnkphipoaaPx34
import Derived.Test.YtiencnnkphipoaaPSWaterSails
import Derived.Test.YtiencnnkphipoaaWater7
namespace Go.Proofs.Ytiencnnkphipoaa.Pure
set_option linter.unusedVariables false
set_option linter.unusedSimpArgs false
open Go.RowKit Go.Proofs.YtiencnnkphipoaaW.PrintWords Go.Proofs.YtiencnnkphipoaaW.PrintMore Go.Proofs.Ytiencnnkphipoaa.P Go.Proofs.Ytiencnnkphipoaa

section
variable {w h : Nat} {C K B : List Int}
theorem fill_start {from_ to_ : Int} {r : List Int × Int} {t : Nat} (e : to_ = (t : Int)) (ht : t < w * h) (hwh : w * h ≤ 2000)
  (k : Ev (fun k => hinterlandref06_Sail.l1 k from_ to_ ((List.replicate (w * h) (-1)).set t 0) [to_] 0 (w : Int) (h : Int) C K B) r) :
  ∀ d i : Nat,i + d = w * h → ∀ L : List Int,L.length = w * h → (∀ j,j < i → L.getD j 0 = -1) → Ev (fun k => hinterlandref06_Sail.l0 k from_ to_ L ((w * h : Nat) : Int) (i : Int) (w : Int) (h : Int) C K B) r
 | 0,i,e2,L,hl,hL => by
  refine Ev.step (fun k => by simp only [hinterlandref06_Sail.l0];rfl) (Ev.neg (by omega) (Ev.pos (by omega) (Ev.pos (by omega) ?_)))
  have : L = List.replicate (w * h) (-1):=list_ext (by simpa using hl) (fun j hj => by rw [hL j (by omega),rep_at _ _ _ (by omega)])
  rw [this,show to_.toNat = t by omega]
  exact k
 | d + 1,i,e2,L,hl,hL => by
  refine Ev.step (fun k => by simp only [hinterlandref06_Sail.l0];rfl) (Ev.pos (by omega) (Ev.pos (by omega) (Ev.pos (by omega) ?_)))
  rw [wrap_in (x:=(i : Int) + 1) (by omega) (by omega),Int.toNat_natCast]
  exact fill_start e ht hwh k d (i + 1) (by omega) _ (by simpa using hl) (fun j hj => by
   rw [set_at]
   by_cases q : i = j
   ·rw [if_pos ⟨q,by omega⟩]
   ·rw [if_neg (fun q2 => q q2.1)];exact hL j (by omega))
end
theorem sail_both {W H : Int} {C K B : List Int} {a b : Int} (hC : C.length ≤ 4000) (hB : B.length ≤ 4000) : ∃ r : List Int × Int, r.1.length ≤ 8000 ∧ Ev (fun k => water_Sail.f k W H C K B a b) r ∧ Ev (fun k => hinterlandref06_Sail.f k W H C K B a b) r := by
 unfold water_Sail.f hinterlandref06_Sail.f
 by_cases hw : wcode W H C K B = 0
 rotate_left
 ·refine ⟨([],wcode W H C K B),by simp,Ev.bind (check_ev hC hB) ?_,Ev.bind (ref_validate_ev hC hB) (Ev.neg hw (Ev.now _))⟩
  by_cases l : lcode W H C = 0
  ·simp only [if_pos l];exact Ev.neg hw (Ev.now _)
  ·simp only [if_neg l];exact Ev.neg hw (Ev.now _)
 have hw':=hw
 obtain ⟨w,h,rfl,rfl,U⟩:=waters_of hw
 have hKl:=U.len
 have hwh : w * h ≤ 32 * 32:=mulle U.land.w1 U.land.h1
 have hwv : ∀ {u : Nat},u < w * h → Ev (fun k => hinterlandref06_Wet.f k (w : Int) (h : Int) C K (u : Int)) (wet w C K u):=fun hu => ref_wet_ev U.land hu hKl (U.kinds _ (Nat.zero_le _) (by omega)) (U.may _ (Nat.zero_le _) (by omega))
 have P : ∀ r,Ev (fun k => water_Sail.l0 k a b (⟨a,b⟩ : S59) 0 K B (w : Int) (h : Int) (gS w h C) (gB w h C) (gE w h C)) r → Ev (fun k => (water_check.f k (w : Int) (h : Int) C K B).bind fun g => if g.2.2.2.2.2 = 0 then water_Sail.l0 k a b (⟨a,b⟩ : S59) 0 K B g.1 g.2.1 g.2.2.1 g.2.2.2.1 g.2.2.2.2.1 else some (([] : List Int),g.2.2.2.2.2)) r:=by
  intro r hr
  refine Ev.bind (check_ev hC hB) ?_
  simp only [if_pos (of_land U.land),Int.toNat_natCast]
  exact Ev.pos hw' hr
 have no : ∀ q,q = true → Ev (fun k => hinterlandref06_Sail.j0 k a b q (w : Int) (h : Int) C K B) ([],2):=fun q hq => Ev.step (fun k => by simp only [hinterlandref06_Sail.j0];rfl) (Ev.pos hq (Ev.now _))
 by_cases qa : 0 ≤ a ∧ a < ((w * h : Nat) : Int)
 rotate_left
 ·refine ⟨([],2),by simp,P _ ?_,Ev.bind (ref_validate_ev hC hB) (Ev.pos hw' (Ev.bindc (is_eq U.land a) (Ev.neg (fun hc => qa (of_decide_eq_true hc)) (no _ rfl))))⟩
  refine Ev.step (fun k => by simp only [water_Sail.l0];rfl) (Ev.pos (by decide) (Ev.pos (by decide) ?_))
  change Ev (fun k => if a < 0 then some ([],2) else if a ≥ (K.length : Int) then some ([],2) else _) _
  by_cases q0 : a < 0
  ·exact Ev.pos q0 (Ev.now _)
  ·exact Ev.neg q0 (Ev.pos (by omega) (Ev.now _))
 obtain ⟨na,rfl⟩:=Int.eq_ofNat_of_zero_le qa.1
 have hna : na < w * h:=by omega
 have first : ∀ r,Ev (fun k => if wet w C K na = true then water_Sail.l0 k (na : Int) b (⟨(na : Int),b⟩ : S59) 1 K B (w : Int) (h : Int) (gS w h C) (gB w h C) (gE w h C) else some ([],2)) r → Ev (fun k => water_Sail.l0 k (na : Int) b (⟨(na : Int),b⟩ : S59) 0 K B (w : Int) (h : Int) (gS w h C) (gB w h C) (gE w h C)) r:=by
  intro r hr
  refine Ev.step (fun k => by simp only [water_Sail.l0];rfl) (Ev.pos (by decide) (Ev.pos (by decide) (Ev.neg (show ¬ (na : Int) < 0 by omega) (Ev.neg (show ¬ (na : Int) ≥ (K.length : Int) by omega) ?_))))
  refine Ev.bindc (show water_ground_wet.f (w : Int) (h : Int) (gS w h C) (gB w h C) (gE w h C) K B (na : Int) = some (wet w C K na) from wet_lt hKl hna) ?_
  rw [wrap_in (x:=(0 : Int) + 1) (by decide) (by decide)]
  exact hr
 by_cases qb : 0 ≤ b ∧ b < ((w * h : Nat) : Int)
 rotate_left
 ·refine ⟨([],2),by simp,P _ (first _ ?_),Ev.bind (ref_validate_ev hC hB) (Ev.pos hw' (Ev.bindc (is_eq U.land _) (Ev.pos (decide_eq_true qa) (Ev.bindc (is_eq U.land b) (Ev.neg (fun hc => qb (of_decide_eq_true hc)) (no _ rfl))))))⟩
  by_cases wa : wet w C K na = true
  ·refine Ev.pos wa (Ev.step (fun k => by simp only [water_Sail.l0];rfl) (Ev.pos (by decide) (Ev.pos (by decide) ?_)))
   change Ev (fun k => if b < 0 then some ([],2) else if b ≥ (K.length : Int) then some ([],2) else _) _
   by_cases q0 : b < 0
   ·exact Ev.pos q0 (Ev.now _)
   ·exact Ev.neg q0 (Ev.pos (by omega) (Ev.now _))
  ·exact Ev.neg wa (Ev.now _)
 obtain ⟨nb,rfl⟩:=Int.eq_ofNat_of_zero_le qb.1
 have hnb : nb < w * h:=by omega
 have ref1 : ∀ r,(Ev (fun k => if wet w C K na = true then (hinterlandref06_Wet.f k (w : Int) (h : Int) C K (nb : Int)).bind fun t => hinterlandref06_Sail.j0 k (na : Int) (nb : Int) (!t) (w : Int) (h : Int) C K B else hinterlandref06_Sail.j0 k (na : Int) (nb : Int) true (w : Int) (h : Int) C K B) r) → Ev (fun k => (hinterlandref06_Validate.f k (w : Int) (h : Int) C K B).bind fun t => if t = 0 then (hinterlandref02_Is.f (w : Int) (h : Int) C (na : Int)).bind fun t => if t = true then (hinterlandref02_Is.f (w : Int) (h : Int) C (nb : Int)).bind fun t => if t = true then (hinterlandref06_Wet.f k (w : Int) (h : Int) C K (na : Int)).bind fun t => if t = true then (hinterlandref06_Wet.f k (w : Int) (h : Int) C K (nb : Int)).bind fun t => hinterlandref06_Sail.j0 k (na : Int) (nb : Int) (!t) (w : Int) (h : Int) C K B else hinterlandref06_Sail.j0 k (na : Int) (nb : Int) true (w : Int) (h : Int) C K B else hinterlandref06_Sail.j0 k (na : Int) (nb : Int) true (w : Int) (h : Int) C K B else hinterlandref06_Sail.j0 k (na : Int) (nb : Int) true (w : Int) (h : Int) C K B else some (([] : List Int),t)) r:=by
  intro r hr
  exact Ev.bind (ref_validate_ev hC hB) (Ev.pos hw' (Ev.bindc (is_eq U.land _) (Ev.pos (decide_eq_true qa) (Ev.bindc (is_eq U.land _) (Ev.pos (decide_eq_true qb) (Ev.bind (hwv hna) hr))))))
 by_cases wa : wet w C K na = true
 rotate_left
 ·exact ⟨([],2),by simp,P _ (first _ (Ev.neg wa (Ev.now _))),ref1 _ (Ev.neg wa (no _ rfl))⟩
 have second : ∀ r,Ev (fun k => if wet w C K nb = true then water_Sail.l0 k (na : Int) (nb : Int) (⟨(na : Int),(nb : Int)⟩ : S59) 2 K B (w : Int) (h : Int) (gS w h C) (gB w h C) (gE w h C) else some ([],2)) r → Ev (fun k => water_Sail.l0 k (na : Int) (nb : Int) (⟨(na : Int),(nb : Int)⟩ : S59) 1 K B (w : Int) (h : Int) (gS w h C) (gB w h C) (gE w h C)) r:=by
  intro r hr
  refine Ev.step (fun k => by simp only [water_Sail.l0];rfl) (Ev.pos (by decide) (Ev.pos (by decide) (Ev.neg (show ¬ (nb : Int) < 0 by omega) (Ev.neg (show ¬ (nb : Int) ≥ (K.length : Int) by omega) ?_))))
  refine Ev.bindc (show water_ground_wet.f (w : Int) (h : Int) (gS w h C) (gB w h C) (gE w h C) K B (nb : Int) = some (wet w C K nb) from wet_lt hKl hnb) ?_
  rw [wrap_in (x:=(1 : Int) + 1) (by decide) (by decide)]
  exact hr
 by_cases wb : wet w C K nb = true
 rotate_left
 ·exact ⟨([],2),by simp,P _ (first _ (Ev.pos wa (second _ (Ev.neg wb (Ev.now _))))),ref1 _ (Ev.pos wa (Ev.bind (hwv hnb) (no _ (by simp [wb]))))⟩
 obtain ⟨hL,hT⟩:=lab_start (w:=w) (h:=h) (C:=C) (K:=K) hnb
 obtain ⟨r,r0,r1,r2⟩:=spread_both U hna _ _ _ _ 0 hL hT (by simp) (Nat.le_refl _)
 refine ⟨r,r0,P _ (first _ (Ev.pos wa (second _ (Ev.pos wb (Ev.step (fun k => by simp only [water_Sail.l0];rfl) (Ev.neg (by decide) r1)))))),ref1 _ (Ev.pos wa (Ev.bind (hwv hnb) ?_))⟩
 refine Ev.step (fun k => by simp only [hinterlandref06_Sail.j0];rfl) (Ev.neg (by simp [wb]) (Ev.pos (by omega) (Ev.pos (by omega) (Ev.bindc rfl ?_))))
 rw [Int.toNat_natCast,hKl]
 rw [show ((List.replicate (w * h) (0 : Int)).length : Int) = ((w * h : Nat) : Int) by simp]
 exact fill_start rfl hnb (by omega) r2 (w * h) 0 (by omega) _ (by simp) (fun j hj => by omega)
theorem WaterSails : hinterlandlaw06_WaterSails.Pure := by
 intro W H C K B a b _ _ _ _ _ _ _
 refine Ev.rounds ?_
 unfold hinterlandlaw06_WaterSails.f
 refine Ev.bindc (large_eq _ _ _ _ _) ?_
 by_cases hfar : (C.length : Int) > 4000 ∨ (K.length : Int) > 4000 ∨ (B.length : Int) > 4000
 ·exact Ev.pos (decide_eq_true hfar) known_then
 refine Ev.neg (fun h => hfar (of_decide_eq_true h)) ?_
 obtain ⟨r,r0,r1,r2⟩:=sail_both (W:=W) (H:=H) (C:=C) (K:=K) (B:=B) (a:=a) (b:=b) (by omega) (by omega)
 exact Ev.bind r1 (Ev.bind r2 (Ev.pos rfl (Ev.bind (same_ev _ (by omega)) (Ev.pos rfl (Ev.bind known_ev (Ev.step (fun k => by simp only [hinterlandlaw06_WaterSails.j0] <;> rfl) (Ev.now _)))))))

end Go.Proofs.Ytiencnnkphipoaa.Pure
