/- What the functions of layer 6 (waters) come to, in plain words: which waters are right. No conditions. -/
import Derived.Test.YtiencnnkphipoaaPx0
import Derived.Test.YtiencnnkphipoaaPx1
import Derived.Test.YtiencnnkphipoaaPx8
import Derived.Test.YtiencnnkphipoaaPx9
import Derived.Test.YtiencnnkphipoaaPx10
import Derived.Test.YtiencnnkphipoaaWater1
namespace Go.Proofs.Ytiencnnkphipoaa.Pure
set_option linter.unusedVariables false
set_option linter.unusedSimpArgs false
open Go.RowKit Go.Proofs.YtiencnnkphipoaaW.PrintWords Go.Proofs.YtiencnnkphipoaaW.PrintMore Go.Proofs.Ytiencnnkphipoaa.P Go.Proofs.Ytiencnnkphipoaa

def inc (s : Int) : Prop := s = 3 ∨ s = 6 ∨ s = 9 ∨ s = 12
instance (s : Int) : Decidable (inc s) := inferInstanceAs (Decidable (_ ∨ _))
def lie (e : Bool) (s k : Int) : Int := if k = 1 then (if e then 9 else if s = 0 then 0 else 5) else if k = 2 then (if e then 9 else if inc s then 0 else 5) else if k = 3 then (if e then 0 else if s = 0 then 0 else 9) else 0
theorem incline_eq (s : Int) : water_incline.f s = some (decide (inc s)) := by
 unfold water_incline.f inc
 by_cases h1 : s = 3
 ·simp [h1]
 by_cases h2 : s = 6
 ·simp [h2]
 by_cases h3 : s = 9
 ·simp [h3]
 by_cases h4 : s = 12
 ·simp [h4]
 simp [h1,h2,h3,h4]
theorem upper_eq (s : Int) : hinterlandref06_upper.f s = some (if s = 6 then 0 else if s = 12 then 1 else if s = 9 then 2 else if s = 3 then 3 else -1) := by
 unfold hinterlandref06_upper.f
 by_cases h1 : s = 6
 ·simp [h1]
 by_cases h2 : s = 12
 ·simp [h2]
 by_cases h3 : s = 9
 ·simp [h3]
 by_cases h4 : s = 3
 ·simp [h4]
 simp [h1,h2,h3,h4]

section
variable {w h : Nat} {C : List Int}
theorem may_ev {t : Nat} (ht : t < w * h) (k0 : Int) : Ev (fun k => water_ground_may.f k (w : Int) (h : Int) (gS w h C) (gB w h C) (gE w h C) (t : Int) k0) (lie (sea w C t) (slope w C t) k0) := by
 obtain ⟨l1,l2,l3⟩:=g_len (w:=w) (h:=h) (C:=C)
 have b1 : (0 : Int) ≤ (t : Int):=by omega
 have b2 : (t : Int) < ((gS w h C).length : Int):=by omega
 have b3 : (t : Int) < ((gE w h C).length : Int):=by omega
 have j2 : ∀ b : Bool,Ev (fun k => water_ground_may.j2 k (t : Int) k0 b (w : Int) (h : Int) (gS w h C) (gB w h C) (gE w h C)) (if b = true then 5 else if k0 = 2 then (if inc (slope w C t) then 0 else 5) else 0):=by
  intro b
  refine Ev.step (fun k => by simp only [water_ground_may.j2];rfl) (Ev.both (fun _ => Ev.now _) fun _ => ?_)
  by_cases h2 : k0 = 2
  ·refine Ev.eq (Ev.pos h2 (Ev.pos b1 (Ev.pos b2 ?_))) (if_pos h2).symm
   rw [rdN,gS_at ht]
   refine Ev.bindc (incline_eq _) ?_
   by_cases hi : inc (slope w C t)
   ·exact Ev.eq (Ev.pos (by simp [hi]) (Ev.now _)) (if_pos hi).symm
   ·exact Ev.eq (Ev.neg (by simp [hi]) (Ev.now _)) (if_neg hi).symm
  ·exact Ev.eq (Ev.neg h2 (Ev.now _)) (if_neg h2).symm
 have j1 : ∀ b : Bool,Ev (fun k => water_ground_may.j1 k (t : Int) k0 b (w : Int) (h : Int) (gS w h C) (gB w h C) (gE w h C)) (if b = true then 9 else if k0 = 1 then (if slope w C t = 0 then 0 else 5) else if k0 = 2 then (if inc (slope w C t) then 0 else 5) else 0):=by
  intro b
  refine Ev.step (fun k => by simp only [water_ground_may.j1];rfl) (Ev.both (fun _ => Ev.now _) fun _ => ?_)
  by_cases h1 : k0 = 1
  ·refine Ev.pos h1 (Ev.pos b1 (Ev.pos b2 (Ev.eq (j2 _) ?_)))
   rw [rdN,gS_at ht]
   by_cases hs : slope w C t = 0
   ·simp [hs,h1]
   ·simp [hs,h1]
  ·exact Ev.neg h1 (Ev.eq (j2 false) (by simp [h1]))
 unfold water_ground_may.f
 by_cases h1 : k0 = 1
 ·refine Ev.pos h1 (Ev.pos b1 (Ev.pos b3 ?_))
  rw [rdB,gE_at ht]
  refine Ev.step (fun k => by simp only [water_ground_may.j0];rfl) ?_
  cases he : sea w C t with
  | true => exact Ev.pos rfl (Ev.eq (j1 true) (by simp [lie,h1]))
  | false =>
   refine Ev.neg (by simp) (Ev.neg (by omega) (Ev.neg (by omega) (Ev.eq (j1 false) ?_)))
   simp [lie,h1]
 ·refine Ev.neg h1 (Ev.step (fun k => by simp only [water_ground_may.j0];rfl) (Ev.neg (by simp) ?_))
  by_cases h2 : k0 = 2
  ·refine Ev.pos h2 (Ev.pos b1 (Ev.pos b3 ?_))
   rw [rdB,gE_at ht]
   cases he : sea w C t with
   | true => exact Ev.pos rfl (Ev.eq (j1 true) (by simp [lie,h2]))
   | false => exact Ev.neg (by simp) (Ev.neg (by omega) (Ev.eq (j1 false) (by simp [lie,h2])))
  ·refine Ev.neg h2 ?_
   by_cases h3 : k0 = 3
   ·refine Ev.pos h3 (Ev.pos b1 (Ev.pos b3 ?_))
    rw [rdB,gE_at ht]
    cases he : sea w C t with
    | true => exact Ev.pos rfl (Ev.eq (j1 false) (by simp [lie,h3]))
    | false =>
     refine Ev.neg (by simp) (Ev.pos b2 (Ev.eq (j1 _) ?_))
     rw [rdN,gS_at ht]
     by_cases hs : slope w C t = 0
     ·simp [lie,h3,hs]
     ·simp [lie,h3,hs]
   ·refine Ev.neg h3 (Ev.eq (j1 false) ?_)
    simp [lie,h1,h2,h3]

theorem places_eq (L : Land w h C) {t : Nat} (ht : t < w * h) : hinterlandref02_Places.f (w : Int) (h : Int) C (t : Int) = some (⟨((co w t : Nat) : Int), ((co w t + 1 : Nat) : Int), ((co w t + w + 2 : Nat) : Int), ((co w t + w + 1 : Nat) : Int)⟩ : S71) := by
 have:=L.w0
 have:=L.w1
 have hc:=co_lt L ht
 unfold hinterlandref02_Places.f
 rw [if_neg (by omega),idx_t L ht,(idx_2 (co w t) w (by omega) (by omega)).1,(idx_2 (co w t) w (by omega) (by omega)).2,sucw (co w t) (by omega)]
theorem sea_ev (L : Land w h C) {t : Nat} (ht : t < w * h) : Ev (fun k => hinterlandref02_Sea.f k (w : Int) (h : Int) C (t : Int)) (sea w C t) := by
 have hc:=co_lt L ht
 unfold hinterlandref02_Sea.f
 refine Ev.bindc (places_eq L ht) ?_
 have one : ∀ (i : Int) (n : Nat) (r : Bool),0 ≤ i ∧ i < 4 → ix71 (⟨((co w t : Nat) : Int),((co w t + 1 : Nat) : Int),((co w t + w + 2 : Nat) : Int),((co w t + w + 1 : Nat) : Int)⟩ : S71) i = (n : Int) → n < C.length → (¬ z C n ≤ 2 → r = false) →
   (z C n ≤ 2 → Ev (fun k => hinterlandref02_Sea.l0 k (⟨((co w t : Nat) : Int),((co w t + 1 : Nat) : Int),((co w t + w + 2 : Nat) : Int),((co w t + w + 1 : Nat) : Int)⟩ : S71) (i + 1) (w : Int) (h : Int) C) r) → Ev (fun k => hinterlandref02_Sea.l0 k (⟨((co w t : Nat) : Int),((co w t + 1 : Nat) : Int),((co w t + w + 2 : Nat) : Int),((co w t + w + 1 : Nat) : Int)⟩ : S71) i (w : Int) (h : Int) C) r:=by
  intro i n r hi hn hl hb hk
  refine Ev.step (fun k => by simp only [hinterlandref02_Sea.l0];rfl) ?_
  rw [hn,rdN,wrap_in (x:=i + 1) (by omega) (by omega)]
  refine Ev.pos hi.2 (Ev.pos hi.1 (Ev.pos (by omega) (Ev.pos (by omega) ?_)))
  by_cases h2 : z C n ≤ 2
  ·exact Ev.neg (by unfold z at h2;omega) (hk h2)
  ·exact Ev.pos (by unfold z at h2;omega) (Ev.eq (Ev.now _) (hb h2).symm)
 have hg:=hi4_ge (zk w C t 0) (zk w C t 1) (zk w C t 2) (zk w C t 3)
 have big : ∀ k,¬ zk w C t k ≤ 2 → (k = 0 ∨ k = 1 ∨ k = 2 ∨ k = 3) → sea w C t = false:=by
  intro k h1 h2
  unfold sea top
  rw [decide_eq_false]
  rcases h2 with rfl | rfl | rfl | rfl <;> omega
 refine one 0 (co w t) _ (by decide) rfl (by omega) (fun hb => big 0 hb (by simp)) fun h0 => ?_
 refine one 1 (co w t + 1) _ (by decide) rfl (by omega) (fun hb => big 1 hb (by simp)) fun h1 => ?_
 refine one 2 (co w t + w + 2) _ (by decide) rfl (by omega) (fun hb => big 2 hb (by simp)) fun h2 => ?_
 refine one 3 (co w t + w + 1) _ (by decide) rfl (by omega) (fun hb => big 3 hb (by simp)) fun h3 => ?_
 refine Ev.step (fun k => by simp only [hinterlandref02_Sea.l0];rfl) (Ev.neg (by decide) (Ev.eq (Ev.now _) ?_))
 have h0' : zk w C t 0 ≤ 2:=h0
 have h1' : zk w C t 1 ≤ 2:=h1
 have h2' : zk w C t 2 ≤ 2:=h2
 have h3' : zk w C t 3 ≤ 2:=h3
 unfold sea top
 rw [decide_eq_true]
 omega
theorem face_ev (L : Land w h C) {t : Nat} (ht : t < w * h) : Ev (fun k => hinterlandref02_Face.f k (w : Int) (h : Int) C (t : Int)) (slope w C t, base w C t) := by
 have hc:=co_lt L ht
 unfold hinterlandref02_Face.f
 refine Ev.bindc (places_eq L ht) (Ev.pos (by show (0 : Int) ≤ ((co w t : Nat) : Int);omega) (Ev.pos (by show ((co w t : Nat) : Int) < (C.length : Int);omega) ?_))
 obtain ⟨q,hq⟩ : ∃ q,q = (⟨((co w t : Nat) : Int),((co w t + 1 : Nat) : Int),((co w t + w + 2 : Nat) : Int),((co w t + w + 1 : Nat) : Int)⟩ : S71):=⟨_,rfl⟩
 have one : ∀ (i : Int) (n : Nat) (a b : Int) (r : Int × Int),0 ≤ i ∧ i < 4 → ix71 q i = (n : Int) → n < C.length →
   Ev (fun k => hinterlandref02_Face.l0 k (mn a (z C n)) (mx b (z C n)) q (i + 1) (w : Int) (h : Int) C ((co w t : Nat) : Int) ((co w t + 1 : Nat) : Int) ((co w t + w + 2 : Nat) : Int) ((co w t + w + 1 : Nat) : Int)) r → Ev (fun k => hinterlandref02_Face.l0 k a b q i (w : Int) (h : Int) C ((co w t : Nat) : Int) ((co w t + 1 : Nat) : Int) ((co w t + w + 2 : Nat) : Int) ((co w t + w + 1 : Nat) : Int)) r:=by
  intro i n a b r hi hn hl hk
  refine Ev.step (fun k => by simp only [hinterlandref02_Face.l0];rfl) ?_
  rw [hn,rdN,wrap_in (x:=i + 1) (by omega) (by omega)]
  exact Ev.pos hi.2 (Ev.pos hi.1 (Ev.pos (by omega) (Ev.pos (by omega) hk)))
 have two : ∀ (i : Int) (n : Nat) (a b s v : Int) (r : Int × Int),0 ≤ i ∧ i < 4 → ix71 q i = (n : Int) → n < C.length → 0 ≤ s ∧ s ≤ 100 → 0 ≤ v ∧ v ≤ 100 →
   Ev (fun k => hinterlandref02_Face.l1 k a b (s + bit (decide (z C n > a)) v) (v * 2) q (i + 1) (w : Int) (h : Int) C) r → Ev (fun k => hinterlandref02_Face.l1 k a b s v q i (w : Int) (h : Int) C) r:=by
  intro i n a b s v r hi hn hl hs hv hk
  refine Ev.step (fun k => by simp only [hinterlandref02_Face.l1];rfl) ?_
  rw [hn,rdN,wrap_in (x:=i + 1) (by omega) (by omega),wrap_in (x:=s + v) (by omega) (by omega),wrap_in (x:=v * 2) (by omega) (by omega)]
  refine Ev.pos hi.2 (Ev.pos hi.1 (Ev.pos (by omega) (Ev.pos (by omega) ?_)))
  by_cases hz : C.getD n 0 > a
  ·refine Ev.pos hz ?_
   rw [show bit (decide (z C n > a)) v = v by unfold z;rw [decide_eq_true hz];rfl] at hk
   exact hk
  ·refine Ev.neg hz ?_
   rw [show bit (decide (z C n > a)) v = 0 by unfold z;rw [decide_eq_false hz];rfl,Int.add_zero] at hk
   exact hk
 rw [rdN]
 change Ev (fun k => hinterlandref02_Face.l0 k (zk w C t 0) (zk w C t 0) (⟨((co w t : Nat) : Int),((co w t + 1 : Nat) : Int),((co w t + w + 2 : Nat) : Int),((co w t + w + 1 : Nat) : Int)⟩ : S71) 0 (w : Int) (h : Int) C ((co w t : Nat) : Int) ((co w t + 1 : Nat) : Int) ((co w t + w + 2 : Nat) : Int) ((co w t + w + 1 : Nat) : Int)) _
 rw [← hq]
 refine one 0 (co w t) _ _ _ (by decide) (by rw [hq];rfl) (by omega) ?_
 refine one 1 (co w t + 1) _ _ _ (by decide) (by rw [hq];rfl) (by omega) ?_
 refine one 2 (co w t + w + 2) _ _ _ (by decide) (by rw [hq];rfl) (by omega) ?_
 refine one 3 (co w t + w + 1) _ _ _ (by decide) (by rw [hq];rfl) (by omega) ?_
 have m0 : ∀ a : Int,mn a a = a:=fun a => by unfold mn;split <;> rfl
 have m1 : ∀ a : Int,mx a a = a:=fun a => by unfold mx;split <;> rfl
 change Ev (fun k => hinterlandref02_Face.l0 k (mn (mn (mn (mn (zk w C t 0) (zk w C t 0)) (zk w C t 1)) (zk w C t 2)) (zk w C t 3)) (mx (mx (mx (mx (zk w C t 0) (zk w C t 0)) (zk w C t 1)) (zk w C t 2)) (zk w C t 3)) q 4 (w : Int) (h : Int) C ((co w t : Nat) : Int) ((co w t + 1 : Nat) : Int) ((co w t + w + 2 : Nat) : Int) ((co w t + w + 1 : Nat) : Int)) _
 rw [m0,m1]
 change Ev (fun k => hinterlandref02_Face.l0 k (base w C t) (top w C t) q 4 (w : Int) (h : Int) C ((co w t : Nat) : Int) ((co w t + 1 : Nat) : Int) ((co w t + w + 2 : Nat) : Int) ((co w t + w + 1 : Nat) : Int)) _
 refine Ev.step (fun k => by simp only [hinterlandref02_Face.l0];rfl) (Ev.neg (by decide) ?_)
 rw [← hq]
 have B1:=bit_le (decide (z C (co w t) > base w C t)) 1 (by decide)
 have B2:=bit_le (decide (z C (co w t + 1) > base w C t)) (1 * 2) (by decide)
 have B3:=bit_le (decide (z C (co w t + w + 2) > base w C t)) (1 * 2 * 2) (by decide)
 have B4:=bit_le (decide (z C (co w t + w + 1) > base w C t)) (1 * 2 * 2 * 2) (by decide)
 refine two 0 (co w t) _ _ _ _ _ (by decide) (by rw [hq];rfl) (by omega) (by decide) (by decide) ?_
 refine two 1 (co w t + 1) _ _ _ _ _ (by decide) (by rw [hq];rfl) (by omega) (by omega) (by decide) ?_
 refine two 2 (co w t + w + 2) _ _ _ _ _ (by decide) (by rw [hq];rfl) (by omega) (by omega) (by decide) ?_
 refine two 3 (co w t + w + 1) _ _ _ _ _ (by decide) (by rw [hq];rfl) (by omega) (by omega) (by decide) ?_
 obtain ⟨t1,t2,t3⟩:=top_in L ht
 have b:=base_in L ht
 have zz : ∀ k,0 ≤ zk w C t k ∧ zk w C t k ≤ 15:=zk_in L ht
 have hz:=fun k => zz k
 have lo:=lo4_le (zk w C t 0) (zk w C t 1) (zk w C t 2) (zk w C t 3)
 have hi:=hi4_ge (zk w C t 0) (zk w C t 1) (zk w C t 2) (zk w C t 3)
 have e : (decide (zk w C t 0 > base w C t + 1) || decide (zk w C t 1 > base w C t + 1) || decide (zk w C t 2 > base w C t + 1) || decide (zk w C t 3 > base w C t + 1)) = decide (top w C t - base w C t = 2):=by
  have : (decide (zk w C t 0 > base w C t + 1) || decide (zk w C t 1 > base w C t + 1) || decide (zk w C t 2 > base w C t + 1) || decide (zk w C t 3 > base w C t + 1)) = decide (zk w C t 0 > base w C t + 1 ∨ zk w C t 1 > base w C t + 1 ∨ zk w C t 2 > base w C t + 1 ∨ zk w C t 3 > base w C t + 1):=by
   simp [Bool.or_assoc]
  rw [this]
  apply decide_eq_decide.2
  unfold top base at *
  omega
 refine Ev.step (fun k => by simp only [hinterlandref02_Face.l1];rfl) (Ev.neg (by decide) ?_)
 have sl : slope w C t = 0 + bit (decide (z C (co w t) > base w C t)) 1 + bit (decide (z C (co w t + 1) > base w C t)) (1 * 2) + bit (decide (z C (co w t + w + 2) > base w C t)) (1 * 2 * 2) + bit (decide (z C (co w t + w + 1) > base w C t)) (1 * 2 * 2 * 2) + bit (decide (top w C t - base w C t = 2)) 16:=by
  unfold slope
  rw [slp_eq,e,Int.zero_add]
  rfl
 rw [wrap_in (x:=top w C t - base w C t) (by omega) (by omega)]
 by_cases hd : top w C t - base w C t = 2
 ·refine Ev.pos hd (Ev.eq (Ev.now _) ?_)
  rw [show bit (decide (top w C t - base w C t = 2)) 16 = 16 by simp [bit,hd]] at sl
  rw [sl,wrap_in (by omega) (by omega)]
 ·refine Ev.neg hd (Ev.eq (Ev.now _) ?_)
  rw [show bit (decide (top w C t - base w C t = 2)) 16 = 0 by simp [bit,hd],Int.add_zero] at sl
  rw [sl]
theorem lies_ev (L : Land w h C) {t : Nat} (ht : t < w * h) (k0 : Int) : Ev (fun k => hinterlandref06_lies.f k (w : Int) (h : Int) C (t : Int) k0) (lie (sea w C t) (slope w C t) k0) := by
 unfold hinterlandref06_lies.f
 refine Ev.bind (face_ev L ht) (Ev.bind (sea_ev L ht) ?_)
 by_cases h1 : k0 = 1
 ·refine Ev.pos h1 (Ev.step (fun k => by simp only [hinterlandref06_lies.j0];rfl) (Ev.pos (by simp [h1]) ?_))
  cases he : sea w C t with
  | true => exact Ev.pos rfl (Ev.eq (Ev.now _) (by simp [lie,h1]))
  | false =>
   refine Ev.neg (by simp) (Ev.pos h1 ?_)
   by_cases hs : slope w C t = 0
   ·exact Ev.pos hs (Ev.neg (by omega) (Ev.eq (Ev.now _) (by simp [lie,h1,hs])))
   ·exact Ev.neg hs (Ev.eq (Ev.now _) (by simp [lie,h1,hs]))
 ·refine Ev.neg h1 (Ev.step (fun k => by simp only [hinterlandref06_lies.j0];rfl) ?_)
  by_cases h2 : k0 = 2
  ·refine Ev.pos (by simp [h2]) ?_
   cases he : sea w C t with
   | true => exact Ev.pos rfl (Ev.eq (Ev.now _) (by simp [lie,h2]))
   | false =>
    refine Ev.neg (by simp) (Ev.neg h1 (Ev.pos h2 (Ev.bindc (upper_eq _) ?_)))
    by_cases hi : inc (slope w C t)
    ·refine Ev.neg ?_ (Ev.eq (Ev.now _) (by simp [lie,h2,hi]))
     unfold inc at hi
     rcases hi with e | e | e | e <;> rw [e] <;> decide
    ·refine Ev.pos ?_ (Ev.eq (Ev.now _) (by simp [lie,h2,hi]))
     unfold inc at hi
     rw [if_neg (by omega),if_neg (by omega),if_neg (by omega),if_neg (by omega)];decide
  ·refine Ev.neg (by simp [h2]) ?_
   by_cases h3 : k0 = 3
   ·refine Ev.pos h3 ?_
    cases he : sea w C t with
    | true => exact Ev.pos rfl (Ev.eq (Ev.now _) (by simp [lie,h3]))
    | false =>
     refine Ev.neg (by simp) ?_
     by_cases hs : slope w C t = 0
     ·exact Ev.pos hs (Ev.eq (Ev.now _) (by simp [lie,h3,hs]))
     ·exact Ev.neg hs (Ev.eq (Ev.now _) (by simp [lie,h3,hs]))
   ·exact Ev.neg h3 (Ev.eq (Ev.now _) (by simp [lie,h1,h2,h3]))
end
end Go.Proofs.Ytiencnnkphipoaa.Pure
