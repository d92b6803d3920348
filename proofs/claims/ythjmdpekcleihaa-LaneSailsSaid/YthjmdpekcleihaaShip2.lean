/- What the reference's functions of layers 1 and 6 (lands, waters) come to, in plain words; the ways that both find. No conditions. -/
import Derived.Test.YthjmdpekcleihaaPx0
import Derived.Test.YthjmdpekcleihaaPx4
import Derived.Test.YthjmdpekcleihaaPx5
import Derived.Test.YthjmdpekcleihaaPx6
import Derived.Test.YthjmdpekcleihaaPx7
import Derived.Test.YthjmdpekcleihaaPx8
import Derived.Test.YthjmdpekcleihaaPx10
import Derived.Test.YthjmdpekcleihaaPx11
import Derived.Test.YthjmdpekcleihaaEvKit
import Derived.Test.YthjmdpekcleihaaVOpen
import Derived.Test.YthjmdpekcleihaaShip0
namespace Go.Proofs.Ythjmdpekcleihaa.Pure
set_option linter.unusedVariables false
set_option linter.unusedSimpArgs false
open Go.RowKit Go.Proofs.YthjmdpekcleihaaW.PrintWords Go.Proofs.YthjmdpekcleihaaW.PrintMore Go.Proofs.Ythjmdpekcleihaa.P Go.Proofs.Ythjmdpekcleihaa
section
variable {w h : Nat} {C K B : List Int}
end
section
variable {w h : Nat} {C K B : List Int}
theorem is_eq (L:Land w h C) (b:Int):hinterlandref02_Is.f (w:Int) (h:Int) C b = some (decide (0 ≤ b ∧ b < ((w * h:Nat):Int))) := by
 have hwh:w * h ≤ 32 * 32:=mulle L.w1 L.h1
 unfold hinterlandref02_Is.f
 rw [← Int.natCast_mul,wrap_in (by omega) (by omega)]
 by_cases hb:b ≥ 0
 ·rw [if_pos hb];congr 1;apply decide_eq_decide.2;omega
 ·rw [if_neg hb,decide_eq_false (by omega)]
end
theorem side_eq (n:Int):hinterlandref02_side.f n = some (decide (4 ≤ n ∧ n ≤ 32)) := by
 unfold hinterlandref02_side.f
 by_cases h:n ≥ 4
 ·rw [if_pos h];congr 1;apply decide_eq_decide.2;omega
 ·rw [if_neg h,decide_eq_false (by omega)]
theorem rapart_eq {a b:Int} (ha:0 ≤ a ∧ a ≤ 15) (hb:0 ≤ b ∧ b ≤ 15):∃ t,hinterlandref02_Apart.f a b = some t ∧ (t > 1 ↔ ¬ near a b) := by
 unfold hinterlandref02_Apart.f near
 rw [wrap_in (x:=a - b) (by omega) (by omega),wrap_in (x:=b - a) (by omega) (by omega)]
 by_cases h:a < b
 ·rw [if_pos h];exact ⟨_,rfl,by omega⟩
 ·rw [if_neg h];exact ⟨_,rfl,by omega⟩
def QAt (C : List Int) (w i : Nat) : Prop := (0 < i % (w + 1) → near (z C i) (z C (i - 1))) ∧ (w < i → near (z C i) (z C (i - (w + 1))))
theorem flat_q {w h:Nat} {C:List Int} (hl:C.length = (w + 1) * (h + 1)):Flat C w h ↔ ∀ i,0 ≤ i → i < C.length → QAt C w i := by
 have sm:∀ y:Nat,(y + 1) * (w + 1) = y * (w + 1) + (w + 1):=fun y=>Nat.succ_mul _ _
 have hl':C.length = h * (w + 1) + (w + 1):=by rw [hl,Nat.mul_comm,sm]
 constructor
 ·intro f i _ hi
  have hd:=Nat.div_add_mod i (w + 1)
  have hm:=Nat.mod_lt i (Nat.succ_pos w)
  obtain ⟨y,hy⟩:∃ y,y = i / (w + 1):=⟨_,rfl⟩
  obtain ⟨x,hx⟩:∃ x,x = i % (w + 1):=⟨_,rfl⟩
  rw [← hy,← hx,Nat.mul_comm] at hd
  rw [← hx] at hm
  have hyh:y ≤ h:=by
   apply Classical.byContradiction
   intro hn
   have:=Nat.mul_le_mul_right (w + 1) (show h + 1 ≤ y by omega)
   rw [sm] at this
   omega
  refine ⟨fun h0=>?_,fun h0=>?_⟩
  ·rw [← hx] at h0
   have:=(f y hyh (x - 1) (by omega)).1 (by omega)
   rw [show y * (w + 1) + (x - 1) + 1 = i by omega,show y * (w + 1) + (x - 1) = i - 1 by omega] at this
   exact near_symm this
  ·cases y with
   | zero=>omega
   | succ y =>
    have:=(f y (by omega) x (by omega)).2 (by omega)
    rw [hd,show y * (w + 1) + x = i - (w + 1) by rw [sm] at hd;omega] at this
    exact near_symm this
 ·intro q y hy x hx
  have hle:=Nat.mul_le_mul_right (w + 1) hy
  refine ⟨fun h0=>?_,fun h0=>?_⟩
  ·have:=(q (y * (w + 1) + x + 1) (Nat.zero_le _) (by omega)).1 (by
    rw [Nat.add_assoc,Nat.mul_comm,Nat.mul_add_mod,Nat.mod_eq_of_lt (by omega)];omega)
   rw [Nat.add_sub_cancel] at this
   exact near_symm this
  ·have h1:=Nat.mul_le_mul_right (w + 1) (show y + 1 ≤ h by omega)
   rw [sm] at h1
   have:=(q ((y + 1) * (w + 1) + x) (Nat.zero_le _) (by rw [sm];omega)).2 (by rw [sm];omega)
   rw [show (y + 1) * (w + 1) + x - (w + 1) = y * (w + 1) + x by rw [sm];omega] at this
   exact near_symm this
theorem ref_land_ev {W H:Int} {C:List Int} (hl:C.length ≤ 4000):Ev (fun k => hinterlandref02_Validate.f k W H C) (lcode W H C) := by
 unfold hinterlandref02_Validate.f
 have bad:¬ LShape W H C → ∀ q,q = true → Ev (fun k=>hinterlandref02_Validate.j0 k q W H C) (lcode W H C):=by
  intro h q hq
  refine Ev.eq (Ev.step (fun k=>by simp only [hinterlandref02_Validate.j0];rfl) (Ev.pos hq (Ev.now _))) (if_neg h).symm
 refine Ev.bindc (side_eq W) ?_
 by_cases hW:4 ≤ W ∧ W ≤ 32
 rotate_left
 ·exact Ev.neg (by simp [hW]) (bad (fun h=>hW h.1) _ rfl)
 refine Ev.pos (by simp [hW]) (Ev.bindc (side_eq H) ?_)
 by_cases hH:4 ≤ H ∧ H ≤ 32
 rotate_left
 ·exact Ev.neg (by simp [hH]) (bad (fun h=>hH h.2.1) _ rfl)
 refine Ev.pos (by simp [hH]) ?_
 obtain ⟨w,rfl⟩:=Int.eq_ofNat_of_zero_le (show 0 ≤ W by omega)
 obtain ⟨h,rfl⟩:=Int.eq_ofNat_of_zero_le (show 0 ≤ H by omega)
 have hm:(w + 1) * (h + 1) ≤ 40 * 40:=mulle (by omega) (by omega)
 have e:wrap64 (wrap64 ((w:Int) + 1) * wrap64 ((h:Int) + 1)) = (((w + 1) * (h + 1):Nat):Int):=by
  rw [sucw w (by omega),sucw h (by omega),← Int.natCast_mul,wrap_in (by omega) (by omega)]
 rw [e]
 by_cases l1:C.length = (w + 1) * (h + 1)
 rotate_left
 ·exact bad (fun hs=>l1 (area_nat hs.2.2)) _ (bne_iff_ne.2 (by omega))
 have hs:LShape (w:Int) (h:Int) C:=⟨⟨by omega,by omega⟩,⟨by omega,by omega⟩,by rw [l1];push_cast;rfl⟩
 rw [show ((C.length:Int) != (((w + 1) * (h + 1):Nat):Int)) = false from bne_eq_false_iff_eq.2 (by omega)]
 refine Ev.eq ?_ (if_pos hs).symm
 refine Ev.step (fun k=>by simp only [hinterlandref02_Validate.j0];rfl) (Ev.neg (by simp) ?_)
 have good1:∀ i,i < C.length → ZAt C i → ∀ r,Ev (fun k=>hinterlandref02_Validate.l0 k C (C.length:Int) ((i:Int) + 1) (w:Int) (h:Int) C) r → Ev (fun k=>hinterlandref02_Validate.l0 k C (C.length:Int) (i:Int) (w:Int) (h:Int) C) r:=by
  intro i hi p r hr
  unfold ZAt z at p
  refine Ev.step (fun k=>by simp only [hinterlandref02_Validate.l0];rfl) ?_
  rw [rdN,wrap_in (x:=(i:Int) + 1) (by omega) (by omega)]
  exact Ev.pos (by omega) (Ev.pos (by omega) (Ev.pos (by omega) (Ev.neg (by omega) (Ev.neg (by omega) hr))))
 have bad1:∀ i,i < C.length → ¬ ZAt C i → Ev (fun k=>hinterlandref02_Validate.l0 k C (C.length:Int) (i:Int) (w:Int) (h:Int) C) 1:=by
  intro i hi p
  unfold ZAt z at p
  refine Ev.step (fun k=>by simp only [hinterlandref02_Validate.l0];rfl) ?_
  rw [rdN]
  refine Ev.pos (by omega) (Ev.pos (by omega) (Ev.pos (by omega) ?_))
  by_cases q1:C.getD i 0 < 0
  ·exact Ev.pos q1 (Ev.now _)
  exact Ev.neg q1 (Ev.pos (by omega) (Ev.now _))
 by_cases g1:Zs C
 rotate_left
 ·exact Ev.eq (Ev.scan_some (g:=fun k i=>hinterlandref02_Validate.l0 k C (C.length:Int) i (w:Int) (h:Int) C) good1 bad1 C.length 0 (by omega) (not_all g1)) (if_neg g1).symm
 refine Ev.eq ?_ (if_pos g1).symm
 refine Ev.scan_all (g:=fun k i=>hinterlandref02_Validate.l0 k C (C.length:Int) i (w:Int) (h:Int) C) (Ev.step (fun k=>by simp only [hinterlandref02_Validate.l0];rfl) (Ev.neg (by omega) ?_)) good1 C.length 0 (by omega) g1
 simp only [Int.toNat_natCast]
 have zr:∀ j,j < C.length → 0 ≤ C.getD j 0 ∧ C.getD j 0 ≤ 15:=fun j hj=>g1 j (Nat.zero_le _) hj
 have tm:∀ i:Nat,Int.tmod (i:Int) (wrap64 ((w:Int) + 1)) = ((i % (w + 1):Nat):Int):=by
  intro i;rw [sucw w (by omega)];rfl
 have left:∀ i:Nat,0 < i % (w + 1) → wrap64 ((i:Int) - 1) = ((i - 1:Nat):Int) ∨ 100000 < i:=by
  intro i hi
  by_cases hb:i ≤ 100000
  ·left
   have:0 < i:=by cases i with | zero=>simp at hi | succ i=>omega
   rw [wrap_in (by omega) (by omega)];omega
  ·right;omega
 have up:∀ i:Nat,w < i → i ≤ 100000 → wrap64 (wrap64 ((i:Int) - (w:Int)) - 1) = ((i - (w + 1):Nat):Int):=by
  intro i hi hb
  rw [wrap_in (x:=(i:Int) - (w:Int)) (by omega) (by omega),wrap_in (by omega) (by omega)];omega
 have good2:∀ i,i < C.length → QAt C w i → ∀ r,Ev (fun k=>hinterlandref02_Validate.l1 k C (C.length:Int) ((i:Int) + 1) (w:Int) (h:Int) C) r → Ev (fun k=>hinterlandref02_Validate.l1 k C (C.length:Int) (i:Int) (w:Int) (h:Int) C) r:=by
  intro i hi ⟨p1,p2⟩ r hr
  refine Ev.step (fun k=>by simp only [hinterlandref02_Validate.l1];rfl) ?_
  rw [tm,wrap_in (x:=(i:Int) + 1) (by omega) (by omega)]
  refine Ev.pos (by omega) (Ev.pos (by omega) (Ev.pos (by omega) (Ev.neg (by rw [sucw w (by omega)];omega) ?_)))
  have more:Ev (fun k=>if (i:Int) > (w:Int) then (if 0 ≤ wrap64 (wrap64 ((i:Int) - (w:Int)) - 1) then (if wrap64 (wrap64 ((i:Int) - (w:Int)) - 1) < (C.length:Int) then ((hinterlandref02_Apart.f (rd C (i:Int)) (rd C (wrap64 (wrap64 ((i:Int) - (w:Int)) - 1)))).bind fun t=>if t > 1 then some 5 else hinterlandref02_Validate.l1 k C (C.length:Int) ((i:Int) + 1) (w:Int) (h:Int) C) else none) else none) else hinterlandref02_Validate.l1 k C (C.length:Int) ((i:Int) + 1) (w:Int) (h:Int) C) r:=by
   by_cases hw:w < i
   ·rw [up i hw (by omega),rdN,rdN]
    obtain ⟨t,ht,hiff⟩:=rapart_eq (zr i hi) (zr (i - (w + 1)) (by omega))
    exact Ev.pos (by omega) (Ev.pos (by omega) (Ev.pos (by omega) (Ev.bindc ht (Ev.neg (fun hc=>hiff.1 hc (p2 hw)) hr))))
   ·exact Ev.neg (by omega) hr
  by_cases hx:0 < i % (w + 1)
  ·rcases left i hx with e1 | e1
   ·rw [e1,rdN,rdN]
    rw [rdN] at more
    obtain ⟨t,ht,hiff⟩:=rapart_eq (zr i hi) (zr (i - 1) (by omega))
    exact Ev.pos (by omega) (Ev.pos (by omega) (Ev.pos (by omega) (Ev.bindc ht (Ev.neg (fun hc=>hiff.1 hc (p1 hx)) more))))
   ·omega
  ·exact Ev.neg (by omega) more
 have bad2:∀ i,i < C.length → ¬ QAt C w i → Ev (fun k=>hinterlandref02_Validate.l1 k C (C.length:Int) (i:Int) (w:Int) (h:Int) C) 5:=by
  intro i hi p
  refine Ev.step (fun k=>by simp only [hinterlandref02_Validate.l1];rfl) ?_
  rw [tm,wrap_in (x:=(i:Int) + 1) (by omega) (by omega)]
  refine Ev.pos (by omega) (Ev.pos (by omega) (Ev.pos (by omega) (Ev.neg (by rw [sucw w (by omega)];omega) ?_)))
  have more:¬ (w < i → near (z C i) (z C (i - (w + 1)))) → Ev (fun k=>if (i:Int) > (w:Int) then (if 0 ≤ wrap64 (wrap64 ((i:Int) - (w:Int)) - 1) then (if wrap64 (wrap64 ((i:Int) - (w:Int)) - 1) < (C.length:Int) then ((hinterlandref02_Apart.f (rd C (i:Int)) (rd C (wrap64 (wrap64 ((i:Int) - (w:Int)) - 1)))).bind fun t=>if t > 1 then some 5 else hinterlandref02_Validate.l1 k C (C.length:Int) ((i:Int) + 1) (w:Int) (h:Int) C) else none) else none) else hinterlandref02_Validate.l1 k C (C.length:Int) ((i:Int) + 1) (w:Int) (h:Int) C) 5:=by
   intro hc
   have hw:w < i:=Classical.byContradiction fun hn=>hc fun h1=>absurd h1 hn
   rw [up i hw (by omega),rdN,rdN]
   obtain ⟨t,ht,hiff⟩:=rapart_eq (zr i hi) (zr (i - (w + 1)) (by omega))
   exact Ev.pos (by omega) (Ev.pos (by omega) (Ev.pos (by omega) (Ev.bindc ht (Ev.pos (hiff.2 fun hn=>hc fun _=>hn) (Ev.now _)))))
  by_cases hx:0 < i % (w + 1)
  ·rcases left i hx with e1 | e1
   ·rw [e1,rdN,rdN]
    rw [rdN] at more
    obtain ⟨t,ht,hiff⟩:=rapart_eq (zr i hi) (zr (i - 1) (by omega))
    refine Ev.pos (by omega) (Ev.pos (by omega) (Ev.pos (by omega) (Ev.bindc ht ?_)))
    by_cases hn:near (z C i) (z C (i - 1))
    ·exact Ev.neg (fun hc=>hiff.1 hc hn) (more fun h2=>p ⟨fun _=>hn,h2⟩)
    ·exact Ev.pos (hiff.2 hn) (Ev.now _)
   ·omega
  ·exact Ev.neg (by omega) (more fun h2=>p ⟨fun h1=>absurd h1 hx,h2⟩)
 have fin2:Ev (fun k=>hinterlandref02_Validate.l1 k C (C.length:Int) ((C.length:Nat):Int) (w:Int) (h:Int) C) 0 :=
  Ev.step (fun k=>by simp only [hinterlandref02_Validate.l1];rfl) (Ev.neg (by omega) (Ev.now _))
 by_cases g2:Flat C w h
 ·rw [if_pos g2]
  exact Ev.scan_all (g:=fun k i=>hinterlandref02_Validate.l1 k C (C.length:Int) i (w:Int) (h:Int) C) fin2 good2 C.length 0 (by omega) ((flat_q l1).1 g2)
 ·rw [if_neg g2]
  exact Ev.scan_some (g:=fun k i=>hinterlandref02_Validate.l1 k C (C.length:Int) i (w:Int) (h:Int) C) good2 bad2 C.length 0 (by omega) (not_all fun hc=>g2 ((flat_q l1).2 hc))
theorem upper_eq (s:Int):hinterlandref06_upper.f s = some (if s = 6 then 0 else if s = 12 then 1 else if s = 9 then 2 else if s = 3 then 3 else -1) := by
 unfold hinterlandref06_upper.f
 by_cases h1:s = 6
 ·simp [h1]
 by_cases h2:s = 12
 ·simp [h2]
 by_cases h3:s = 9
 ·simp [h3]
 by_cases h4:s = 3
 ·simp [h4]
 simp [h1,h2,h3,h4]
section
variable {w h : Nat} {C : List Int}
theorem places_eq (L:Land w h C) {t:Nat} (ht:t < w * h):hinterlandref02_Places.f (w:Int) (h:Int) C (t:Int) = some (⟨((co w t:Nat):Int),((co w t + 1:Nat):Int),((co w t + w + 2:Nat):Int),((co w t + w + 1:Nat):Int)⟩:S126) := by
 have:=L.w0
 have:=L.w1
 have hc:=co_lt L ht
 unfold hinterlandref02_Places.f
 rw [if_neg (by omega),idx_t L ht,(idx_2 (co w t) w (by omega) (by omega)).1,(idx_2 (co w t) w (by omega) (by omega)).2,sucw (co w t) (by omega)]
theorem sea_ev (L:Land w h C) {t:Nat} (ht:t < w * h):Ev (fun k => hinterlandref02_Sea.f k (w:Int) (h:Int) C (t:Int)) (sea w C t) := by
 have hc:=co_lt L ht
 unfold hinterlandref02_Sea.f
 refine Ev.bindc (places_eq L ht) ?_
 have one:∀ (i:Int) (n:Nat) (r:Bool),0 ≤ i ∧ i < 4 → ix126 (⟨((co w t:Nat):Int),((co w t + 1:Nat):Int),((co w t + w + 2:Nat):Int),((co w t + w + 1:Nat):Int)⟩:S126) i = (n:Int) → n < C.length → (¬ z C n ≤ 2 → r = false) →
   (z C n ≤ 2 → Ev (fun k=>hinterlandref02_Sea.l0 k (⟨((co w t:Nat):Int),((co w t + 1:Nat):Int),((co w t + w + 2:Nat):Int),((co w t + w + 1:Nat):Int)⟩:S126) (i + 1) (w:Int) (h:Int) C) r) → Ev (fun k=>hinterlandref02_Sea.l0 k (⟨((co w t:Nat):Int),((co w t + 1:Nat):Int),((co w t + w + 2:Nat):Int),((co w t + w + 1:Nat):Int)⟩:S126) i (w:Int) (h:Int) C) r:=by
  intro i n r hi hn hl hb hk
  refine Ev.step (fun k=>by simp only [hinterlandref02_Sea.l0];rfl) ?_
  rw [hn,rdN,wrap_in (x:=i + 1) (by omega) (by omega)]
  refine Ev.pos hi.2 (Ev.pos hi.1 (Ev.pos (by omega) (Ev.pos (by omega) ?_)))
  by_cases h2:z C n ≤ 2
  ·exact Ev.neg (by unfold z at h2;omega) (hk h2)
  ·exact Ev.pos (by unfold z at h2;omega) (Ev.eq (Ev.now _) (hb h2).symm)
 have hg:=hi4_ge (zk w C t 0) (zk w C t 1) (zk w C t 2) (zk w C t 3)
 have big:∀ k,¬ zk w C t k ≤ 2 → (k = 0 ∨ k = 1 ∨ k = 2 ∨ k = 3) → sea w C t = false:=by
  intro k h1 h2
  unfold sea top
  rw [decide_eq_false]
  rcases h2 with rfl | rfl | rfl | rfl <;> omega
 refine one 0 (co w t) _ (by decide) rfl (by omega) (fun hb=>big 0 hb (by simp)) fun h0=>?_
 refine one 1 (co w t + 1) _ (by decide) rfl (by omega) (fun hb=>big 1 hb (by simp)) fun h1=>?_
 refine one 2 (co w t + w + 2) _ (by decide) rfl (by omega) (fun hb=>big 2 hb (by simp)) fun h2=>?_
 refine one 3 (co w t + w + 1) _ (by decide) rfl (by omega) (fun hb=>big 3 hb (by simp)) fun h3=>?_
 refine Ev.step (fun k=>by simp only [hinterlandref02_Sea.l0];rfl) (Ev.neg (by decide) (Ev.eq (Ev.now _) ?_))
 have h0':zk w C t 0 ≤ 2:=h0
 have h1':zk w C t 1 ≤ 2:=h1
 have h2':zk w C t 2 ≤ 2:=h2
 have h3':zk w C t 3 ≤ 2:=h3
 unfold sea top
 rw [decide_eq_true]
 omega
theorem face_ev (L:Land w h C) {t:Nat} (ht:t < w * h):Ev (fun k => hinterlandref02_Face.f k (w:Int) (h:Int) C (t:Int)) (slope w C t,base w C t) := by
 have hc:=co_lt L ht
 unfold hinterlandref02_Face.f
 refine Ev.bindc (places_eq L ht) (Ev.pos (by show (0:Int) ≤ ((co w t:Nat):Int);omega) (Ev.pos (by show ((co w t:Nat):Int) < (C.length:Int);omega) ?_))
 obtain ⟨q,hq⟩:∃ q,q = (⟨((co w t:Nat):Int),((co w t + 1:Nat):Int),((co w t + w + 2:Nat):Int),((co w t + w + 1:Nat):Int)⟩:S126):=⟨_,rfl⟩
 have one:∀ (i:Int) (n:Nat) (a b:Int) (r:Int × Int),0 ≤ i ∧ i < 4 → ix126 q i = (n:Int) → n < C.length →
   Ev (fun k=>hinterlandref02_Face.l0 k (mn a (z C n)) (mx b (z C n)) q (i + 1) (w:Int) (h:Int) C ((co w t:Nat):Int) ((co w t + 1:Nat):Int) ((co w t + w + 2:Nat):Int) ((co w t + w + 1:Nat):Int)) r → Ev (fun k=>hinterlandref02_Face.l0 k a b q i (w:Int) (h:Int) C ((co w t:Nat):Int) ((co w t + 1:Nat):Int) ((co w t + w + 2:Nat):Int) ((co w t + w + 1:Nat):Int)) r:=by
  intro i n a b r hi hn hl hk
  refine Ev.step (fun k=>by simp only [hinterlandref02_Face.l0];rfl) ?_
  rw [hn,rdN,wrap_in (x:=i + 1) (by omega) (by omega)]
  exact Ev.pos hi.2 (Ev.pos hi.1 (Ev.pos (by omega) (Ev.pos (by omega) hk)))
 have two:∀ (i:Int) (n:Nat) (a b s v:Int) (r:Int × Int),0 ≤ i ∧ i < 4 → ix126 q i = (n:Int) → n < C.length → 0 ≤ s ∧ s ≤ 100 → 0 ≤ v ∧ v ≤ 100 →
   Ev (fun k=>hinterlandref02_Face.l1 k a b (s + bit (decide (z C n > a)) v) (v * 2) q (i + 1) (w:Int) (h:Int) C) r → Ev (fun k=>hinterlandref02_Face.l1 k a b s v q i (w:Int) (h:Int) C) r:=by
  intro i n a b s v r hi hn hl hs hv hk
  refine Ev.step (fun k=>by simp only [hinterlandref02_Face.l1];rfl) ?_
  rw [hn,rdN,wrap_in (x:=i + 1) (by omega) (by omega),wrap_in (x:=s + v) (by omega) (by omega),wrap_in (x:=v * 2) (by omega) (by omega)]
  refine Ev.pos hi.2 (Ev.pos hi.1 (Ev.pos (by omega) (Ev.pos (by omega) ?_)))
  by_cases hz:C.getD n 0 > a
  ·refine Ev.pos hz ?_
   rw [show bit (decide (z C n > a)) v = v by unfold z;rw [decide_eq_true hz];rfl] at hk
   exact hk
  ·refine Ev.neg hz ?_
   rw [show bit (decide (z C n > a)) v = 0 by unfold z;rw [decide_eq_false hz];rfl,Int.add_zero] at hk
   exact hk
 rw [rdN]
 change Ev (fun k=>hinterlandref02_Face.l0 k (zk w C t 0) (zk w C t 0) (⟨((co w t:Nat):Int),((co w t + 1:Nat):Int),((co w t + w + 2:Nat):Int),((co w t + w + 1:Nat):Int)⟩:S126) 0 (w:Int) (h:Int) C ((co w t:Nat):Int) ((co w t + 1:Nat):Int) ((co w t + w + 2:Nat):Int) ((co w t + w + 1:Nat):Int)) _
 rw [← hq]
 refine one 0 (co w t) _ _ _ (by decide) (by rw [hq];rfl) (by omega) ?_
 refine one 1 (co w t + 1) _ _ _ (by decide) (by rw [hq];rfl) (by omega) ?_
 refine one 2 (co w t + w + 2) _ _ _ (by decide) (by rw [hq];rfl) (by omega) ?_
 refine one 3 (co w t + w + 1) _ _ _ (by decide) (by rw [hq];rfl) (by omega) ?_
 have m0:∀ a:Int,mn a a = a:=fun a=>by unfold mn;split <;> rfl
 have m1:∀ a:Int,mx a a = a:=fun a=>by unfold mx;split <;> rfl
 change Ev (fun k=>hinterlandref02_Face.l0 k (mn (mn (mn (mn (zk w C t 0) (zk w C t 0)) (zk w C t 1)) (zk w C t 2)) (zk w C t 3)) (mx (mx (mx (mx (zk w C t 0) (zk w C t 0)) (zk w C t 1)) (zk w C t 2)) (zk w C t 3)) q 4 (w:Int) (h:Int) C ((co w t:Nat):Int) ((co w t + 1:Nat):Int) ((co w t + w + 2:Nat):Int) ((co w t + w + 1:Nat):Int)) _
 rw [m0,m1]
 change Ev (fun k=>hinterlandref02_Face.l0 k (base w C t) (top w C t) q 4 (w:Int) (h:Int) C ((co w t:Nat):Int) ((co w t + 1:Nat):Int) ((co w t + w + 2:Nat):Int) ((co w t + w + 1:Nat):Int)) _
 refine Ev.step (fun k=>by simp only [hinterlandref02_Face.l0];rfl) (Ev.neg (by decide) ?_)
 rw [← hq]
 have B1:=bit_le (decide (z C (co w t) > base w C t)) 1 (by decide)
 have B2:=bit_le (decide (z C (co w t + 1) > base w C t)) (1 * 2) (by decide)
 have B3:=bit_le (decide (z C (co w t + w + 2) > base w C t)) (1 * 2 * 2) (by decide)
 have B4:=bit_le (decide (z C (co w t + w + 1) > base w C t)) (1 * 2 * 2 * 2) (by decide)
 refine two 0 (co w t) _ _ _ _ _ (by decide) (by rw [hq];rfl) (by omega) (by decide) (by decide) ?_
 refine two 1 (co w t + 1) _ _ _ _ _ (by decide) (by rw [hq];rfl) (by omega) (by omega) (by decide) ?_
 refine two 2 (co w t + w + 2) _ _ _ _ _ (by decide) (by rw [hq];rfl) (by omega) (by omega) (by decide) ?_
 refine two 3 (co w t + w + 1) _ _ _ _ _ (by decide) (by rw [hq];rfl) (by omega) (by omega) (by decide) ?_
 obtain ⟨t1,t2,t3⟩:=top_in L ht
 have b:=base_in L ht
 have zz:∀ k,0 ≤ zk w C t k ∧ zk w C t k ≤ 15:=zk_in L ht
 have hz:=fun k=>zz k
 have lo:=lo4_le (zk w C t 0) (zk w C t 1) (zk w C t 2) (zk w C t 3)
 have hi:=hi4_ge (zk w C t 0) (zk w C t 1) (zk w C t 2) (zk w C t 3)
 have e:(decide (zk w C t 0 > base w C t + 1) || decide (zk w C t 1 > base w C t + 1) || decide (zk w C t 2 > base w C t + 1) || decide (zk w C t 3 > base w C t + 1)) = decide (top w C t - base w C t = 2):=by
  have:(decide (zk w C t 0 > base w C t + 1) || decide (zk w C t 1 > base w C t + 1) || decide (zk w C t 2 > base w C t + 1) || decide (zk w C t 3 > base w C t + 1)) = decide (zk w C t 0 > base w C t + 1 ∨ zk w C t 1 > base w C t + 1 ∨ zk w C t 2 > base w C t + 1 ∨ zk w C t 3 > base w C t + 1):=by
   simp [Bool.or_assoc]
  rw [this]
  apply decide_eq_decide.2
  unfold top base at *
  omega
 refine Ev.step (fun k=>by simp only [hinterlandref02_Face.l1];rfl) (Ev.neg (by decide) ?_)
 have sl:slope w C t = 0 + bit (decide (z C (co w t) > base w C t)) 1 + bit (decide (z C (co w t + 1) > base w C t)) (1 * 2) + bit (decide (z C (co w t + w + 2) > base w C t)) (1 * 2 * 2) + bit (decide (z C (co w t + w + 1) > base w C t)) (1 * 2 * 2 * 2) + bit (decide (top w C t - base w C t = 2)) 16:=by
  unfold slope
  rw [slp_eq,e,Int.zero_add]
  rfl
 rw [wrap_in (x:=top w C t - base w C t) (by omega) (by omega)]
 by_cases hd:top w C t - base w C t = 2
 ·refine Ev.pos hd (Ev.eq (Ev.now _) ?_)
  rw [show bit (decide (top w C t - base w C t = 2)) 16 = 16 by simp [bit,hd]] at sl
  rw [sl,wrap_in (by omega) (by omega)]
 ·refine Ev.neg hd (Ev.eq (Ev.now _) ?_)
  rw [show bit (decide (top w C t - base w C t = 2)) 16 = 0 by simp [bit,hd],Int.add_zero] at sl
  rw [sl]
theorem lies_ev (L:Land w h C) {t:Nat} (ht:t < w * h) (k0:Int):Ev (fun k => hinterlandref06_lies.f k (w:Int) (h:Int) C (t:Int) k0) (lie (sea w C t) (slope w C t) k0) := by
 unfold hinterlandref06_lies.f
 refine Ev.bind (face_ev L ht) (Ev.bind (sea_ev L ht) ?_)
 by_cases h1:k0 = 1
 ·refine Ev.pos h1 (Ev.step (fun k=>by simp only [hinterlandref06_lies.j0];rfl) (Ev.pos (by simp [h1]) ?_))
  cases he:sea w C t with
  | true=>exact Ev.pos rfl (Ev.eq (Ev.now _) (by simp [lie,h1]))
  | false =>
   refine Ev.neg (by simp) (Ev.pos h1 ?_)
   by_cases hs:slope w C t = 0
   ·exact Ev.pos hs (Ev.neg (by omega) (Ev.eq (Ev.now _) (by simp [lie,h1,hs])))
   ·exact Ev.neg hs (Ev.eq (Ev.now _) (by simp [lie,h1,hs]))
 ·refine Ev.neg h1 (Ev.step (fun k=>by simp only [hinterlandref06_lies.j0];rfl) ?_)
  by_cases h2:k0 = 2
  ·refine Ev.pos (by simp [h2]) ?_
   cases he:sea w C t with
   | true=>exact Ev.pos rfl (Ev.eq (Ev.now _) (by simp [lie,h2]))
   | false =>
    refine Ev.neg (by simp) (Ev.neg h1 (Ev.pos h2 (Ev.bindc (upper_eq _) ?_)))
    by_cases hi:inc (slope w C t)
    ·refine Ev.neg ?_ (Ev.eq (Ev.now _) (by simp [lie,h2,hi]))
     unfold inc at hi
     rcases hi with e | e | e | e <;> rw [e] <;> decide
    ·refine Ev.pos ?_ (Ev.eq (Ev.now _) (by simp [lie,h2,hi]))
     unfold inc at hi
     rw [if_neg (by omega),if_neg (by omega),if_neg (by omega),if_neg (by omega)];decide
  ·refine Ev.neg (by simp [h2]) ?_
   by_cases h3:k0 = 3
   ·refine Ev.pos h3 ?_
    cases he:sea w C t with
    | true=>exact Ev.pos rfl (Ev.eq (Ev.now _) (by simp [lie,h3]))
    | false =>
     refine Ev.neg (by simp) ?_
     by_cases hs:slope w C t = 0
     ·exact Ev.pos hs (Ev.eq (Ev.now _) (by simp [lie,h3,hs]))
     ·exact Ev.neg hs (Ev.eq (Ev.now _) (by simp [lie,h3,hs]))
   ·exact Ev.neg h3 (Ev.eq (Ev.now _) (by simp [lie,h1,h2,h3]))
end
section
variable {w h : Nat} {C K B : List Int}
theorem ref_wet_ev (L:Land w h C) {t:Nat} (ht:t < w * h) (hK:K.length = w * h) (hk:KAt K t) (hm:MayAt w C K t):Ev (fun k => hinterlandref06_Wet.f k (w:Int) (h:Int) C K (t:Int)) (wet w C K t) := by
 unfold hinterlandref06_Wet.f
 refine Ev.pos (by omega) (Ev.pos (by omega) ?_)
 rw [rdN]
 unfold wet
 unfold MayAt at hm
 unfold KAt at hk
 by_cases h0:K.getD t 0 = 0
 ·refine Ev.pos h0 (Ev.bind (sea_ev L ht) (Ev.eq (Ev.now _) ?_))
  rw [h0]
  simp
 refine Ev.neg h0 ?_
 have e1:(sea w C t || (K.getD t 0 != 0)) = true:=by rw [show (K.getD t 0 != 0) = true from bne_iff_ne.2 h0];simp
 rw [e1]
 by_cases h1:K.getD t 0 = 1
 ·refine Ev.pos h1 (Ev.bind (sea_ev L ht) ?_)
  have:sea w C t = false:=by
   cases he:sea w C t with
   | false=>rfl
   | true=>rw [h1,he] at hm;simp [lie] at hm
  exact Ev.neg (by simp [this]) (Ev.now _)
 refine Ev.neg h1 ?_
 by_cases h2:K.getD t 0 = 2
 ·refine Ev.pos h2 (Ev.bind (sea_ev L ht) ?_)
  have:sea w C t = false:=by
   cases he:sea w C t with
   | false=>rfl
   | true=>rw [h2,he] at hm;simp [lie] at hm
  exact Ev.neg (by simp [this]) (Ev.now _)
 exact Ev.neg h2 (Ev.now _)
open Classical in
theorem rcheck4 (L:Land w h C) (hK:K.length = w * h) (hB:B.length ≤ 4000) (hin:InB B (w * h)) (hk:KOK K) (hm:May w C K):Ev (fun k => hinterlandref06_Validate.l4 k B (B.length:Int) 0 (w:Int) (h:Int) C K B) (if WetB w C K B then 0 else 9) := by
 have hend:Ev (fun k=>hinterlandref06_Validate.l4 k B (B.length:Int) (B.length:Int) (w:Int) (h:Int) C K B) 0:=Ev.step (fun k=>by simp only [hinterlandref06_Validate.l4];rfl) (Ev.neg (by omega) (Ev.now _))
 have val:∀ i,i < B.length → Ev (fun k=>hinterlandref06_Wet.f k (w:Int) (h:Int) C K (B.getD i 0)) (wet w C K (B.getD i 0).toNat):=by
  intro i hi
  obtain ⟨h1,h2⟩:=hin i (Nat.zero_le _) hi
  have hl:(B.getD i 0).toNat < w * h:=by omega
  have:=ref_wet_ev L hl hK (hk _ (Nat.zero_le _) (by omega)) (hm _ (Nat.zero_le _) (by omega))
  rw [Int.toNat_of_nonneg h1] at this
  exact this
 have good:∀ i,i < B.length → WetAt w C K B i → ∀ r,Ev (fun k=>hinterlandref06_Validate.l4 k B (B.length:Int) ((i:Int) + 1) (w:Int) (h:Int) C K B) r → Ev (fun k=>hinterlandref06_Validate.l4 k B (B.length:Int) (i:Int) (w:Int) (h:Int) C K B) r:=by
  intro i hi p r hr
  refine Ev.step (fun k=>by simp only [hinterlandref06_Validate.l4];rfl) ?_
  rw [rdN,wrap_in (x:=(i:Int) + 1) (by omega) (by omega)]
  exact Ev.pos (by omega) (Ev.pos (by omega) (Ev.pos (by omega) (Ev.bind (val i hi) (Ev.pos p hr))))
 have bad:∀ i,i < B.length → ¬ WetAt w C K B i → Ev (fun k=>hinterlandref06_Validate.l4 k B (B.length:Int) (i:Int) (w:Int) (h:Int) C K B) 9:=by
  intro i hi p
  refine Ev.step (fun k=>by simp only [hinterlandref06_Validate.l4];rfl) ?_
  rw [rdN]
  exact Ev.pos (by omega) (Ev.pos (by omega) (Ev.pos (by omega) (Ev.bind (val i hi) (Ev.neg p (Ev.now _)))))
 by_cases g:WetB w C K B
 ·rw [if_pos g]
  exact Ev.scan_all (g:=fun k i=>hinterlandref06_Validate.l4 k B (B.length:Int) i (w:Int) (h:Int) C K B) hend good B.length 0 (by omega) g
 ·rw [if_neg g]
  exact Ev.scan_some (g:=fun k i=>hinterlandref06_Validate.l4 k B (B.length:Int) i (w:Int) (h:Int) C K B) good bad B.length 0 (by omega) (not_all g)
open Classical in
theorem rcheck3 (L:Land w h C) (hK:K.length = w * h) (hB:B.length ≤ 4000) (hin:InB B (w * h)) (hk:KOK K):Ev (fun k => hinterlandref06_Validate.l3 k K (K.length:Int) 0 (w:Int) (h:Int) C K B) (if May w C K then (if WetB w C K B then 0 else 9) else 9) := by
 have hwh:w * h ≤ 32 * 32:=mulle L.w1 L.h1
 have hend:∀ r,Ev (fun k=>hinterlandref06_Validate.l4 k B (B.length:Int) 0 (w:Int) (h:Int) C K B) r → Ev (fun k=>hinterlandref06_Validate.l3 k K (K.length:Int) (K.length:Int) (w:Int) (h:Int) C K B) r:=fun r hr=>Ev.step (fun k=>by simp only [hinterlandref06_Validate.l3];rfl) (Ev.neg (by omega) hr)
 have good:∀ i,i < K.length → MayAt w C K i → ∀ r,Ev (fun k=>hinterlandref06_Validate.l3 k K (K.length:Int) ((i:Int) + 1) (w:Int) (h:Int) C K B) r → Ev (fun k=>hinterlandref06_Validate.l3 k K (K.length:Int) (i:Int) (w:Int) (h:Int) C K B) r:=by
  intro i hi p r hr
  refine Ev.step (fun k=>by simp only [hinterlandref06_Validate.l3];rfl) ?_
  rw [rdN,wrap_in (x:=(i:Int) + 1) (by omega) (by omega)]
  exact Ev.pos (by omega) (Ev.pos (by omega) (Ev.pos (by omega) (Ev.bind (lies_ev L (by omega) _) (Ev.pos p hr))))
 have bad:∀ i,i < K.length → ¬ MayAt w C K i → Ev (fun k=>hinterlandref06_Validate.l3 k K (K.length:Int) (i:Int) (w:Int) (h:Int) C K B) 9:=by
  intro i hi p
  refine Ev.step (fun k=>by simp only [hinterlandref06_Validate.l3];rfl) ?_
  rw [rdN]
  exact Ev.pos (by omega) (Ev.pos (by omega) (Ev.pos (by omega) (Ev.bind (lies_ev L (by omega) _) (Ev.neg p (Ev.now _)))))
 by_cases g:May w C K
 ·rw [if_pos g]
  exact Ev.scan_all (g:=fun k i=>hinterlandref06_Validate.l3 k K (K.length:Int) i (w:Int) (h:Int) C K B) (hend _ (rcheck4 L hK hB hin hk g)) good K.length 0 (by omega) g
 ·rw [if_neg g]
  exact Ev.scan_some (g:=fun k i=>hinterlandref06_Validate.l3 k K (K.length:Int) i (w:Int) (h:Int) C K B) good bad K.length 0 (by omega) (not_all g)
open Classical in
theorem rcheck2 (L:Land w h C) (hK:K.length = w * h) (hB:B.length ≤ 4000) (hk:KOK K):Ev (fun k => hinterlandref06_Validate.l2 k B (B.length:Int) 0 (w:Int) (h:Int) C K B) (if InB B (w * h) then (if May w C K then (if WetB w C K B then 0 else 9) else 9) else 2) := by
 have hwh:w * h ≤ 32 * 32:=mulle L.w1 L.h1
 have hend:∀ r,Ev (fun k=>hinterlandref06_Validate.l3 k K (K.length:Int) 0 (w:Int) (h:Int) C K B) r → Ev (fun k=>hinterlandref06_Validate.l2 k B (B.length:Int) (B.length:Int) (w:Int) (h:Int) C K B) r:=fun r hr=>Ev.step (fun k=>by simp only [hinterlandref06_Validate.l2];rfl) (Ev.neg (by omega) hr)
 have good:∀ i,i < B.length → InAt B (w * h) i → ∀ r,Ev (fun k=>hinterlandref06_Validate.l2 k B (B.length:Int) ((i:Int) + 1) (w:Int) (h:Int) C K B) r → Ev (fun k=>hinterlandref06_Validate.l2 k B (B.length:Int) (i:Int) (w:Int) (h:Int) C K B) r:=by
  intro i hi p r hr
  unfold InAt at p
  refine Ev.step (fun k=>by simp only [hinterlandref06_Validate.l2];rfl) ?_
  rw [rdN,wrap_in (x:=(i:Int) + 1) (by omega) (by omega)]
  exact Ev.pos (by omega) (Ev.pos (by omega) (Ev.pos (by omega) (Ev.bindc (is_eq L _) (Ev.pos (by rw [decide_eq_true_eq];exact p) hr))))
 have bad:∀ i,i < B.length → ¬ InAt B (w * h) i → Ev (fun k=>hinterlandref06_Validate.l2 k B (B.length:Int) (i:Int) (w:Int) (h:Int) C K B) 2:=by
  intro i hi p
  refine Ev.step (fun k=>by simp only [hinterlandref06_Validate.l2];rfl) ?_
  rw [rdN]
  exact Ev.pos (by omega) (Ev.pos (by omega) (Ev.pos (by omega) (Ev.bindc (is_eq L _) (Ev.neg (fun hc=>p (by rw [decide_eq_true_eq] at hc;exact hc)) (Ev.now _)))))
 by_cases g:InB B (w * h)
 ·rw [if_pos g]
  exact Ev.scan_all (g:=fun k i=>hinterlandref06_Validate.l2 k B (B.length:Int) i (w:Int) (h:Int) C K B) (hend _ (rcheck3 L hK hB g hk)) good B.length 0 (by omega) g
 ·rw [if_neg g]
  exact Ev.scan_some (g:=fun k i=>hinterlandref06_Validate.l2 k B (B.length:Int) i (w:Int) (h:Int) C K B) good bad B.length 0 (by omega) (not_all g)
open Classical in
theorem rcheck1 (L:Land w h C) (hK:K.length = w * h) (hB:B.length ≤ 4000) (hk:KOK K):Ev (fun k => hinterlandref06_Validate.l1 k 1 (w:Int) (h:Int) C K B) (if Inc B then (if InB B (w * h) then (if May w C K then (if WetB w C K B then 0 else 9) else 9) else 2) else 1) := by
 have hend:∀ r,Ev (fun k=>hinterlandref06_Validate.l2 k B (B.length:Int) 0 (w:Int) (h:Int) C K B) r → Ev (fun k=>hinterlandref06_Validate.l1 k ((max 1 B.length:Nat):Int) (w:Int) (h:Int) C K B) r:=fun r hr=>Ev.step (fun k=>by simp only [hinterlandref06_Validate.l1];rfl) (Ev.neg (by omega) hr)
 have pre:∀ i:Nat,1 ≤ i → i ≤ 4000 → wrap64 ((i:Int) - 1) = ((i - 1:Nat):Int):=by intro i h1 h2;rw [wrap_in (by omega) (by omega)];omega
 have good:∀ i,i < max 1 B.length → IncAt B i → 1 ≤ i → ∀ r,Ev (fun k=>hinterlandref06_Validate.l1 k ((i:Int) + 1) (w:Int) (h:Int) C K B) r → Ev (fun k=>hinterlandref06_Validate.l1 k (i:Int) (w:Int) (h:Int) C K B) r:=by
  intro i hi p p1 r hr
  unfold IncAt at p
  refine Ev.step (fun k=>by simp only [hinterlandref06_Validate.l1];rfl) ?_
  rw [pre i p1 (by omega),rdN,rdN,wrap_in (x:=(i:Int) + 1) (by omega) (by omega)]
  exact Ev.pos (by omega) (Ev.pos (by omega) (Ev.pos (by omega) (Ev.pos (by omega) (Ev.neg (by omega) hr))))
 have bad:∀ i,i < max 1 B.length → ¬ IncAt B i → 1 ≤ i → Ev (fun k=>hinterlandref06_Validate.l1 k (i:Int) (w:Int) (h:Int) C K B) 1:=by
  intro i hi p p1
  unfold IncAt at p
  refine Ev.step (fun k=>by simp only [hinterlandref06_Validate.l1];rfl) ?_
  rw [pre i p1 (by omega),rdN,rdN]
  exact Ev.pos (by omega) (Ev.pos (by omega) (Ev.pos (by omega) (Ev.pos (by omega) (Ev.pos (by omega) (Ev.now _)))))
 have go:∀ d i,1 ≤ i → i + d = max 1 B.length → Ev (fun k=>hinterlandref06_Validate.l1 k (i:Int) (w:Int) (h:Int) C K B) (if (∀ j,i ≤ j → j < max 1 B.length → IncAt B j) then (if InB B (w * h) then (if May w C K then (if WetB w C K B then 0 else 9) else 9) else 2) else 1):=by
  intro d
  induction d with
  | zero =>
   intro i h1 e
   rw [if_pos (fun j a b=>by omega)]
   rw [show i = max 1 B.length by omega]
   exact hend _ (rcheck2 L hK hB hk)
  | succ d ih =>
   intro i h1 e
   by_cases hp:IncAt B i
   ·refine good i (by omega) hp h1 _ (Ev.eq (by simpa using ih (i + 1) (by omega) (by omega)) ?_)
    have:(∀ j,i + 1 ≤ j → j < max 1 B.length → IncAt B j) ↔ (∀ j,i ≤ j → j < max 1 B.length → IncAt B j):=by
     constructor
     ·intro f j a b
      by_cases he:j = i
      ·rw [he];exact hp
      ·exact f j (by omega) b
     ·intro f j a b;exact f j (by omega) b
    simp only [this]
   ·rw [if_neg (fun f=>hp (f i (Nat.le_refl _) (by omega)))]
    exact bad i (by omega) hp h1
 exact go (max 1 B.length - 1) 1 (Nat.le_refl _) (by omega)
open Classical in
theorem rcheck0 (L:Land w h C) (hK:K.length = w * h) (hB:B.length ≤ 4000):Ev (fun k => hinterlandref06_Validate.l0 k K (K.length:Int) 0 (w:Int) (h:Int) C K B) (ucode w h C K B) := by
 have hwh:w * h ≤ 32 * 32:=mulle L.w1 L.h1
 unfold ucode
 rw [if_pos hK]
 have hend:∀ r,Ev (fun k=>hinterlandref06_Validate.l1 k 1 (w:Int) (h:Int) C K B) r → Ev (fun k=>hinterlandref06_Validate.l0 k K (K.length:Int) (K.length:Int) (w:Int) (h:Int) C K B) r:=fun r hr=>Ev.step (fun k=>by simp only [hinterlandref06_Validate.l0];rfl) (Ev.neg (by omega) hr)
 have good:∀ i,i < K.length → KAt K i → ∀ r,Ev (fun k=>hinterlandref06_Validate.l0 k K (K.length:Int) ((i:Int) + 1) (w:Int) (h:Int) C K B) r → Ev (fun k=>hinterlandref06_Validate.l0 k K (K.length:Int) (i:Int) (w:Int) (h:Int) C K B) r:=by
  intro i hi p r hr
  unfold KAt at p
  refine Ev.step (fun k=>by simp only [hinterlandref06_Validate.l0];rfl) ?_
  rw [rdN,wrap_in (x:=(i:Int) + 1) (by omega) (by omega)]
  exact Ev.pos (by omega) (Ev.pos (by omega) (Ev.pos (by omega) (Ev.neg (by omega) (Ev.neg (by omega) hr))))
 have bad:∀ i,i < K.length → ¬ KAt K i → Ev (fun k=>hinterlandref06_Validate.l0 k K (K.length:Int) (i:Int) (w:Int) (h:Int) C K B) 1:=by
  intro i hi p
  unfold KAt at p
  refine Ev.step (fun k=>by simp only [hinterlandref06_Validate.l0];rfl) ?_
  rw [rdN]
  refine Ev.pos (by omega) (Ev.pos (by omega) (Ev.pos (by omega) ?_))
  by_cases q:K.getD i 0 < 0
  ·exact Ev.pos q (Ev.now _)
  ·exact Ev.neg q (Ev.pos (by omega) (Ev.now _))
 by_cases g:KOK K
 ·rw [if_pos g]
  exact Ev.scan_all (g:=fun k i=>hinterlandref06_Validate.l0 k K (K.length:Int) i (w:Int) (h:Int) C K B) (hend _ (rcheck1 L hK hB g)) good K.length 0 (by omega) g
 ·rw [if_neg g]
  exact Ev.scan_some (g:=fun k i=>hinterlandref06_Validate.l0 k K (K.length:Int) i (w:Int) (h:Int) C K B) good bad K.length 0 (by omega) (not_all g)
end
theorem ref_validate_ev {W H:Int} {C K B:List Int} (hC:C.length ≤ 4000) (hB:B.length ≤ 4000):Ev (fun k => hinterlandref06_Validate.f k W H C K B) (wcode W H C K B) := by
 unfold hinterlandref06_Validate.f
 refine Ev.bind (ref_land_ev hC) ?_
 by_cases e:lcode W H C = 0
 ·refine Ev.pos e ?_
  obtain ⟨w,h,rfl,rfl,L⟩:=land_of e
  have hwh:w * h ≤ 32 * 32:=mulle L.w1 L.h1
  have ew:wcode (w:Int) (h:Int) C K B = ucode w h C K B:=by unfold wcode;rw [if_pos e];simp
  rw [ew]
  have ee:wrap64 ((w:Int) * (h:Int)) = ((w * h:Nat):Int):=by rw [← Int.natCast_mul,wrap_in (by omega) (by omega)]
  rw [ee]
  by_cases hK:K.length = w * h
  ·exact Ev.pos (by omega) (rcheck0 L hK hB)
  ·refine Ev.neg (by omega) (Ev.eq (Ev.now _) ?_)
   unfold ucode
   rw [if_neg hK]
 ·have ew:wcode W H C K B = lcode W H C:=by unfold wcode;rw [if_neg e]
  rw [ew]
  exact Ev.neg e (Ev.now _)
section
variable {w h : Nat} {C K B : List Int}
theorem bey0 (w h t:Nat):bey w h t 0 = if t % w + 1 < w then ((t + 1:Nat):Int) else -1 := rfl
theorem bey1 (w h t:Nat):bey w h t 1 = if t / w + 1 < h then ((t + w:Nat):Int) else -1 := rfl
theorem bey2 (w h t:Nat):bey w h t 2 = if 0 < t % w then ((t - 1:Nat):Int) else -1 := rfl
theorem bey3 (w h t:Nat):bey w h t 3 = if 0 < t / w then ((t - w:Nat):Int) else -1 := rfl
theorem ref_beyond_eq (L:Land w h C) {t:Nat} (ht:t < w * h) {s:Int} (hs:0 ≤ s ∧ s ≤ 3):hinterlandref02_Beyond.f (w:Int) (h:Int) (t:Int) s = some (bey w h t s) := by
 obtain ⟨h1,h2,h3⟩:=tile ht
 have:=L.w0
 have:=L.w1
 have:=L.h1
 have e1:Int.tdiv (t:Int) (w:Int) = ((t / w:Nat):Int):=rfl
 have e2:Int.tmod (t:Int) (w:Int) = ((t % w:Nat):Int):=rfl
 have hb:t / w * w ≤ 32 * 32:=mulle (by omega) (by omega)
 have hyw:0 < t / w → w ≤ t / w * w:=fun q=>by have:=Nat.mul_le_mul_right w (show 1 ≤ t / w by omega);rw [Nat.one_mul] at this;exact this
 have my:((t / w * w:Nat):Int) = ((t / w:Nat):Int) * (w:Int):=by push_cast;rfl
 rcases (by omega:s = 0 ∨ s = 1 ∨ s = 2 ∨ s = 3) with rfl | rfl | rfl | rfl
 ·rw [bey0]
  unfold hinterlandref02_Beyond.f
  rw [e1,e2,if_neg (by omega),if_pos (show (0:Int) = 0 from rfl)]
  clear e1 e2
  generalize t / w = y at h1 h3 hb hyw my ⊢
  generalize t % w = x at h2 h3 ⊢
  rw [wrap_in (x:=(y:Int)) (by omega) (by omega),wrap_in (x:=(x:Int) + 1) (by omega) (by omega),if_neg (by omega),if_neg (by omega)]
  by_cases q:x + 1 < w
  ·rw [if_pos q,if_neg (by omega),if_neg (by omega),← my,wrap_in (x:=((y * w:Nat):Int)) (by omega) (by omega),wrap_in (by omega) (by omega)];congr 1;omega
  ·rw [if_neg q,if_pos (by omega)]
 ·rw [bey1]
  unfold hinterlandref02_Beyond.f
  rw [e1,e2,if_neg (by omega),if_neg (show ¬ (1:Int) = 0 by decide),if_pos (show (1:Int) = 1 from rfl)]
  clear e1 e2
  generalize t / w = y at h1 h3 hb hyw my ⊢
  generalize t % w = x at h2 h3 ⊢
  rw [wrap_in (x:=(y:Int)) (by omega) (by omega),wrap_in (x:=(y:Int) + 1) (by omega) (by omega),if_neg (by omega),if_neg (by omega),if_neg (by omega)]
  by_cases q:y + 1 < h
  ·rw [if_pos q,if_neg (by omega),Int.add_mul,← my,wrap_in (x:=((y * w:Nat):Int) + 1 * (w:Int)) (by omega) (by omega),wrap_in (by omega) (by omega)];congr 1;omega
  ·rw [if_neg q,if_pos (by omega)]
 ·rw [bey2]
  unfold hinterlandref02_Beyond.f
  rw [e1,e2,if_neg (by omega),if_neg (show ¬ (2:Int) = 0 by decide),if_neg (show ¬ (2:Int) = 1 by decide),if_pos (show (2:Int) = 2 from rfl)]
  clear e1 e2
  generalize t / w = y at h1 h3 hb hyw my ⊢
  generalize t % w = x at h2 h3 ⊢
  rw [wrap_in (x:=(y:Int)) (by omega) (by omega),wrap_in (x:=(x:Int) - 1) (by omega) (by omega)]
  by_cases q:0 < x
  ·rw [if_pos q,if_neg (by omega),if_neg (by omega),if_neg (by omega),if_neg (by omega),← my,wrap_in (x:=((y * w:Nat):Int)) (by omega) (by omega),wrap_in (by omega) (by omega)];congr 1;omega
  ·rw [if_neg q,if_pos (by omega)]
 ·rw [bey3]
  unfold hinterlandref02_Beyond.f
  rw [e1,e2,if_neg (by omega),if_neg (show ¬ (3:Int) = 0 by decide),if_neg (show ¬ (3:Int) = 1 by decide),if_neg (show ¬ (3:Int) = 2 by decide),if_pos (show (3:Int) = 3 from rfl)]
  clear e1 e2
  generalize t / w = y at h1 h3 hb hyw my ⊢
  generalize t % w = x at h2 h3 ⊢
  rw [wrap_in (x:=(y:Int)) (by omega) (by omega),wrap_in (x:=(y:Int) - 1) (by omega) (by omega),if_neg (by omega)]
  by_cases q:0 < y
  ·have:=hyw q
   rw [if_pos q,if_neg (by omega),if_neg (by omega),if_neg (by omega),Int.sub_mul,← my,wrap_in (x:=((y * w:Nat):Int) - 1 * (w:Int)) (by omega) (by omega),wrap_in (by omega) (by omega)];congr 1;omega
  ·rw [if_neg q,if_pos (by omega)]
end
section
variable {w h : Nat} {C K B : List Int}
theorem depth_ev (L:Land w h C) {t:Nat} (ht:t < w * h):Ev (fun k => hinterlandref06_Depth.f k (w:Int) (h:Int) C (t:Int)) (level w C t) := by
 unfold hinterlandref06_Depth.f level
 refine Ev.bind (sea_ev L ht) ?_
 cases sea w C t with
 | true=>exact Ev.pos rfl (Ev.now _)
 | false=>exact Ev.neg (by simp) (Ev.bind (face_ev L ht) (Ev.now _))
theorem lock_inc (U:Waters w h C K B) {t:Nat} (ht:t < w * h) (k:K.getD t 0 = 2):inc (slope w C t) := by
 have:=U.may t (Nat.zero_le _) (by rw [U.len];exact ht)
 unfold MayAt lie at this
 rw [k] at this
 cases he:sea w C t with
 | true=>rw [he] at this;simp at this
 | false =>
  rw [he] at this
  by_cases hi:inc (slope w C t)
  ·exact hi
  ·simp [hi] at this
theorem up_inc {s:Int} (hi:inc s):hinterlandref06_upper.f s = some (upp s) := by
 rw [upper_eq]
 unfold inc at hi
 unfold upp
 rcases hi with rfl | rfl | rfl | rfl <;> rfl
theorem meets_ev (U:Waters w h C K B) {t:Nat} (ht:t < w * h) {s:Int} (hs:0 ≤ s ∧ s ≤ 3):Ev (fun k => hinterlandref06_Meets.f k (w:Int) (h:Int) C K B (t:Int) s) (if join w h C K t s = true then bey w h t s else -1) := by
 have L:=U.land
 have hK:=U.len
 have wv:∀ {u:Nat},u < w * h → Ev (fun k=>hinterlandref06_Wet.f k (w:Int) (h:Int) C K (u:Int)) (wet w C K u):=fun hu=>ref_wet_ev L hu hK (U.kinds _ (Nat.zero_le _) (by omega)) (U.may _ (Nat.zero_le _) (by omega))
 unfold hinterlandref06_Meets.f
 refine Ev.bindc (ref_beyond_eq L ht hs) ?_
 obtain ⟨b1,b2⟩:=bey_lt ht s
 have no:∀ q,q = true → Ev (fun k=>hinterlandref06_Meets.j0 k (t:Int) s (bey w h t s) q (w:Int) (h:Int) C K B) (-1):=fun q hq=>Ev.step (fun k=>by simp only [hinterlandref06_Meets.j0];rfl) (Ev.pos hq (Ev.now _))
 by_cases q0:bey w h t s < 0
 ·rw [join_no1 q0];exact Ev.pos q0 (no _ rfl)
 refine Ev.neg q0 ?_
 obtain ⟨b,hb⟩:=Int.eq_ofNat_of_zero_le (show 0 ≤ bey w h t s by omega)
 have hbl:b < w * h:=by omega
 rw [hb] at no ⊢
 refine Ev.bind (wv ht) ?_
 by_cases w1:wet w C K t = true
 rotate_left
 ·rw [join_no2 w1];exact Ev.neg w1 (no _ rfl)
 refine Ev.pos w1 (Ev.bind (wv hbl) ?_)
 by_cases w2:wet w C K b = true
 rotate_left
 ·rw [join_no3 hb w2];exact no _ (by simp [w2])
 rw [join_yes hb w1 w2]
 refine Ev.step (fun k=>by simp only [hinterlandref06_Meets.j0];rfl) (Ev.neg (by simp [w2]) (Ev.pos (by omega) (Ev.pos (by omega) ?_)))
 rw [rdN,rdN]
 have fin:∀ (lock oth:Nat) (rise:Int),lock < w * h → oth < w * h → 0 ≤ rise ∧ rise ≤ 1 → Ev (fun k=>hinterlandref06_Meets.j2 k (b:Int) (lock:Int) (oth:Int) rise (w:Int) (h:Int) C) (if level w C oth = level w C lock + rise then (b:Int) else -1):=by
  intro lock oth rise hl ho hr
  have:=level_in L hl
  refine Ev.step (fun k=>by simp only [hinterlandref06_Meets.j2];rfl) (Ev.bind (depth_ev L ho) (Ev.bind (depth_ev L hl) ?_))
  rw [wrap_in (x:=level w C lock + rise) (by omega) (by omega)]
  exact Ev.both (fun _=>Ev.now _) (fun _=>Ev.now _)
 have lk:∀ (lock oth:Nat) (a:Int),lock < w * h → oth < w * h → 0 ≤ a ∧ a ≤ 3 → K.getD lock 0 = 2 → Ev (fun k=>hinterlandref06_Meets.j1 k (b:Int) (lock:Int) (oth:Int) a (w:Int) (h:Int) C K B) (if thru w C lock a (level w C oth) = true then (b:Int) else -1):=by
  intro lock oth a hl ho ha hk
  have hi:=lock_inc U hl hk
  have hu:=upp_in (slope w C lock)
  refine Ev.step (fun k=>by simp only [hinterlandref06_Meets.j1];rfl) (Ev.pos (by omega) (Ev.pos (by omega) ?_))
  rw [rdN]
  refine Ev.pos hk (Ev.bind (face_ev L hl) (Ev.bindc (up_inc hi) ?_))
  unfold thru
  generalize upp (slope w C lock) = u at hu ⊢
  by_cases p:Int.tmod a 2 = Int.tmod u 2
  ·refine Ev.pos p ?_
   by_cases pu:a = u
   ·rw [if_pos pu]
    refine Ev.pos pu (Ev.eq (fin lock oth 1 hl ho (by decide)) ?_)
    by_cases q:level w C oth = level w C lock + 1
    ·rw [if_pos q,if_pos (by simp [q])]
    ·rw [if_neg q,if_neg (by simp [q])]
   ·rw [if_neg pu]
    have e:a = Int.tmod (u + 2) 4:=by
     rcases (by omega:a = 0 ∨ a = 1 ∨ a = 2 ∨ a = 3) with rfl | rfl | rfl | rfl <;> rcases (by omega:u = 0 ∨ u = 1 ∨ u = 2 ∨ u = 3) with rfl | rfl | rfl | rfl <;> revert p pu <;> decide
    rw [if_pos e]
    refine Ev.neg pu (Ev.eq (fin lock oth 0 hl ho (by decide)) ?_)
    rw [Int.add_zero]
    by_cases q:level w C oth = level w C lock
    ·rw [if_pos q,if_pos (by simp [q])]
    ·rw [if_neg q,if_neg (by simp [q])]
  ·have e:a ≠ u ∧ a ≠ Int.tmod (u + 2) 4:=by
    rcases (by omega:a = 0 ∨ a = 1 ∨ a = 2 ∨ a = 3) with rfl | rfl | rfl | rfl <;> rcases (by omega:u = 0 ∨ u = 1 ∨ u = 2 ∨ u = 3) with rfl | rfl | rfl | rfl <;> revert p <;> decide
   rw [if_neg e.1,if_neg e.2]
   exact Ev.neg p (Ev.eq (Ev.now _) (by simp))
 by_cases k2:K.getD b 0 = 2
 ·refine Ev.pos k2 (Ev.pos (by omega) (Ev.pos (by omega) ?_))
  by_cases k1:K.getD t 0 = 2
  ·exact Ev.pos k1 (Ev.eq (Ev.now _) (by rw [if_pos k1,if_pos k2];simp))
  ·refine Ev.neg k1 ?_
   rw [wrap_in (x:=s + 2) (by omega) (by omega)]
   exact Ev.eq (lk b t _ hbl ht (back2 hs).1 k2) (by rw [if_neg k1,if_pos k2])
 ·refine Ev.neg k2 ?_
  by_cases k1:K.getD t 0 = 2
  ·exact Ev.eq (lk t b s ht hbl hs k1) (by rw [if_pos k1,if_neg k2])
  ·refine Ev.eq ?_ (show (if (level w C t == level w C b) = true then (b:Int) else -1) = _ by rw [if_neg k1,if_neg k2])
   refine Ev.step (fun k=>by simp only [hinterlandref06_Meets.j1];rfl) (Ev.pos (by omega) (Ev.pos (by omega) ?_))
   rw [rdN]
   refine Ev.neg k1 (Ev.eq (fin t b 0 ht hbl (by decide)) ?_)
   rw [Int.add_zero]
   by_cases q:level w C t = level w C b
   ·rw [if_pos q.symm,if_pos (by simp [q])]
   ·rw [if_neg (fun hc=>q hc.symm),if_neg (by simp [q])]
end
section
variable {w h : Nat} {C K B : List Int} {to_ : Nat}
theorem pick_both (U:Waters w h C K B) {L line:List Int} {m:List (Int × Int)} (hL:Lab w h C K to_ L line) (hT:Tells w h L m) {a:Nat} (ha:a < w * h) (d:Int) (hd:L.getD a 0 = d ∧ 1 ≤ d) (o:List Int) (hlim:d ≤ 5000)
  (next:∀ b:Nat,b < w * h → L.getD b 0 = d - 1 → ∃ r:List Int × Int,r.1.length ≤ 8000 ∧ Ev (fun k=>water_Sail.l3 k (b:Int) (d - 1) (o ++ [(b:Int)]) K B (w:Int) (h:Int) (gS w h C) (gB w h C) (gE w h C) m) r ∧ Ev (fun k=>hinterlandref06_Sail.l3 k (to_:Int) L (o ++ [(b:Int)]) (b:Int) (w:Int) (h:Int) C K B) r) (ho:o.length ≤ 6000) :
  ∀ n s:Nat,s + n = 4 → ∀ best:Int,((best = -1 ∧ ∃ s':Int,(s:Int) ≤ s' ∧ s' ≤ 3 ∧ join w h C K a s' = true ∧ L.getD (bey w h a s').toNat 0 = d - 1) ∨ (∃ b:Nat,best = (b:Int) ∧ b < w * h ∧ L.getD b 0 = d - 1)) →
   ∃ r:List Int × Int,r.1.length ≤ 8000 ∧ Ev (fun k=>water_Sail.l4 k (a:Int) d o best (s:Int) K B (w:Int) (h:Int) (gS w h C) (gB w h C) (gE w h C) m) r ∧ Ev (fun k=>hinterlandref06_Sail.l4 k (to_:Int) L o (a:Int) best (s:Int) (w:Int) (h:Int) C K B) r
 | 0,s,e,best,hb=>by
  rcases hb with ⟨_,s',h1,h2,_⟩ | ⟨b,rfl,hbl,hv⟩
  ·omega
  obtain ⟨r,r0,r1,r2⟩:=next b hbl hv
  refine ⟨r,r0,Ev.step (fun k=>by simp only [water_Sail.l4];rfl) (Ev.neg (by omega) (Ev.pos (by omega) ?_)),Ev.step (fun k=>by simp only [hinterlandref06_Sail.l4];rfl) (Ev.neg (by omega) (Ev.pos (by omega) r2))⟩
  rw [wrap_in (x:=d - 1) (by omega) (by omega)]
  exact r1
 | n + 1,s,e,best,hb=>by
  have hs:0 ≤ (s:Int) ∧ (s:Int) ≤ 3:=by omega
  have hlen:=hL.len
  have hwh:w * h ≤ 32 * 32:=mulle U.land.w1 U.land.h1
  have go:=fun best hb=>pick_both U hL hT ha d hd o hlim next ho n (s + 1) (by omega) best hb
  have w1:wrap64 ((s:Int) + 1) = ((s + 1:Nat):Int):=by rw [wrap_in (by omega) (by omega)];omega
  have w2:wrap64 (d - 1) = d - 1:=wrap_in (by omega) (by omega)
  by_cases hj:join w h C K a (s:Int) = true
  rotate_left
  ·have hb':(best = -1 ∧ ∃ s':Int,((s + 1:Nat):Int) ≤ s' ∧ s' ≤ 3 ∧ join w h C K a s' = true ∧ L.getD (bey w h a s').toNat 0 = d - 1) ∨ (∃ b:Nat,best = (b:Int) ∧ b < w * h ∧ L.getD b 0 = d - 1):=by
    rcases hb with ⟨q,s',h1,h2,h3,h4⟩ | q
    ·refine .inl ⟨q,s',?_,h2,h3,h4⟩
     by_cases e2:s' = (s:Int)
     ·rw [e2] at h3;exact absurd h3 hj
     ·omega
    ·exact .inr q
   obtain ⟨r,r0,r1,r2⟩:=go best hb'
   refine ⟨r,r0,Ev.step (fun k=>by simp only [water_Sail.l4];rfl) (Ev.pos (by omega) (Ev.bind (join_ev U ha hs) (Ev.neg hj ?_))),Ev.step (fun k=>by simp only [hinterlandref06_Sail.l4];rfl) (Ev.pos (by omega) (Ev.bind (meets_ev U ha hs) ?_))⟩
   ·rw [w1];exact r1
   ·rw [if_neg hj]
    exact Ev.neg (by decide) (Ev.step (fun k=>by simp only [hinterlandref06_Sail.j7];rfl) (Ev.neg (by simp) (by rw [w1];exact r2)))
  have b0:=(join_back ha hs hj).1
  obtain ⟨b,hbe⟩:=Int.eq_ofNat_of_zero_le b0
  have hbe':bey w h a (s:Int) = (b:Int):=hbe
  have hbl:b < w * h:=by have:=(bey_lt ha (s:Int)).1;omega
  have tb:=hT b hbl
  have lb:=hL.low b hbl
  have ca:=hL.cap b hbl
  have la:=hL.all
  -- the two walks,by what is found
  have P1:∀ r:List Int × Int,(∀ best2:Int,best2 = (if L.getD b 0 = d - 1 ∧ (best < 0 ∨ (b:Int) < best) then (b:Int) else best) → Ev (fun k=>water_Sail.l4 k (a:Int) d o best2 ((s + 1:Nat):Int) K B (w:Int) (h:Int) (gS w h C) (gB w h C) (gE w h C) m) r) → Ev (fun k=>water_Sail.l4 k (a:Int) d o best (s:Int) K B (w:Int) (h:Int) (gS w h C) (gB w h C) (gE w h C) m) r:=by
   intro r hr
   refine Ev.step (fun k=>by simp only [water_Sail.l4];rfl) (Ev.pos (by omega) (Ev.bind (join_ev U ha hs) (Ev.pos hj (Ev.bind (beyond_ev U.land ha hs _ _ _) ?_))))
   rw [hbe',w1,w2]
   by_cases q0:0 ≤ L.getD b 0
   ·refine Ev.pos (by rw [tb.1];exact decide_eq_true q0) ?_
    rw [tb.2 q0]
    by_cases q1:L.getD b 0 = d - 1
    ·refine Ev.pos q1 ?_
     by_cases q2:best < 0
     ·exact Ev.pos q2 (hr _ (by rw [if_pos ⟨q1,.inl q2⟩]))
     ·refine Ev.neg q2 ?_
      by_cases q3:(b:Int) < best
      ·exact Ev.pos q3 (hr _ (by rw [if_pos ⟨q1,.inr q3⟩]))
      ·exact Ev.neg q3 (hr _ (by rw [if_neg (fun q=>by rcases q.2 with q | q <;> omega)]))
    ·exact Ev.neg q1 (hr _ (by rw [if_neg (fun q=>q1 q.1)]))
   ·exact Ev.neg (by rw [tb.1];simp only [decide_eq_true_eq];exact q0) (hr _ (by rw [if_neg (fun q=>by omega)]))
  have P2:∀ r:List Int × Int,(∀ best2:Int,best2 = (if L.getD b 0 = d - 1 ∧ (best < 0 ∨ (b:Int) < best) then (b:Int) else best) → Ev (fun k=>hinterlandref06_Sail.l4 k (to_:Int) L o (a:Int) best2 ((s + 1:Nat):Int) (w:Int) (h:Int) C K B) r) → Ev (fun k=>hinterlandref06_Sail.l4 k (to_:Int) L o (a:Int) best (s:Int) (w:Int) (h:Int) C K B) r:=by
   intro r hr
   have j7t:∀ q:Bool,Ev (fun k=>hinterlandref06_Sail.l4 k (to_:Int) L o (a:Int) (if q = true then (b:Int) else best) ((s + 1:Nat):Int) (w:Int) (h:Int) C K B) r → Ev (fun k=>hinterlandref06_Sail.j7 k (to_:Int) L o (a:Int) best (b:Int) (s:Int) q (w:Int) (h:Int) C K B) r:=by
    intro q hq
    refine Ev.step (fun k=>by simp only [hinterlandref06_Sail.j7];rfl) ?_
    rw [w1]
    cases q with
    | true=>exact Ev.pos rfl (by simpa using hq)
    | false=>exact Ev.neg (by simp) (by simpa using hq)
   refine Ev.step (fun k=>by simp only [hinterlandref06_Sail.l4];rfl) (Ev.pos (by omega) (Ev.bind (meets_ev U ha hs) ?_))
   rw [if_pos hj,hbe']
   refine Ev.pos (by omega) (Ev.pos (by omega) (Ev.pos (by omega) (Ev.pos (by omega) (Ev.pos (by omega) ?_))))
   rw [rdN,rdN,hd.1,w2]
   by_cases q1:L.getD b 0 = d - 1
   ·refine Ev.pos q1 ?_
    by_cases q2:best < 0
    ·exact Ev.pos q2 (j7t true (hr _ (by rw [if_pos rfl,if_pos ⟨q1,.inl q2⟩])))
    ·refine Ev.neg q2 (j7t _ (hr _ ?_))
     by_cases q3:(b:Int) < best
     ·rw [if_pos (decide_eq_true q3),if_pos ⟨q1,.inr q3⟩]
     ·rw [if_neg (by simp only [decide_eq_true_eq];exact q3),if_neg (fun q=>by rcases q.2 with q | q <;> omega)]
   ·exact Ev.neg q1 (j7t false (hr _ (by rw [if_neg (by simp),if_neg (fun q=>q1 q.1)])))
  have hb':((if L.getD b 0 = d - 1 ∧ (best < 0 ∨ (b:Int) < best) then (b:Int) else best) = -1 ∧ ∃ s':Int,((s + 1:Nat):Int) ≤ s' ∧ s' ≤ 3 ∧ join w h C K a s' = true ∧ L.getD (bey w h a s').toNat 0 = d - 1) ∨ (∃ b':Nat,(if L.getD b 0 = d - 1 ∧ (best < 0 ∨ (b:Int) < best) then (b:Int) else best) = (b':Int) ∧ b' < w * h ∧ L.getD b' 0 = d - 1):=by
   by_cases q:L.getD b 0 = d - 1 ∧ (best < 0 ∨ (b:Int) < best)
   ·rw [if_pos q];exact .inr ⟨b,rfl,hbl,q.1⟩
   ·rw [if_neg q]
    rcases hb with ⟨q1,s',h1,h2,h3,h4⟩ | q1
    ·refine .inl ⟨q1,s',?_,h2,h3,h4⟩
     by_cases e2:s' = (s:Int)
     ·rw [e2,hbe',Int.toNat_natCast] at h4
      exact absurd ⟨h4,.inl (by omega)⟩ q
     ·omega
    ·exact .inr q1
  obtain ⟨r,r0,r1,r2⟩:=go _ hb'
  exact ⟨r,r0,P1 r (fun _ e2=>by rw [e2];exact r1),P2 r (fun _ e2=>by rw [e2];exact r2)⟩
theorem path_both (U:Waters w h C K B) {L line:List Int} {m:List (Int × Int)} (hL:Lab w h C K to_ L line) (hT:Tells w h L m):∀ n:Nat,∀ a:Nat,a < w * h → L.getD a 0 = (n:Int) → ∀ o:List Int,o.length + n ≤ 2000 →
  ∃ r:List Int × Int,r.1.length ≤ 8000 ∧ Ev (fun k=>water_Sail.l3 k (a:Int) (n:Int) o K B (w:Int) (h:Int) (gS w h C) (gB w h C) (gE w h C) m) r ∧ Ev (fun k=>hinterlandref06_Sail.l3 k (to_:Int) L o (a:Int) (w:Int) (h:Int) C K B) r
 | 0,a,ha,hv,o,ho=>by
  have e:a = to_:=by
   rcases hL.from_ a ha (by omega) with q | q
   ·exact q
   ·omega
  exact ⟨(o,0),by show o.length ≤ 8000;omega,Ev.step (fun k=>by simp only [water_Sail.l3];rfl) (Ev.neg (by omega) (Ev.now _)),Ev.step (fun k=>by simp only [hinterlandref06_Sail.l3];rfl) (Ev.pos (by omega) (Ev.now _))⟩
 | n + 1,a,ha,hv,o,ho=>by
  have hne:a ≠ to_:=fun e=>by rw [e,hL.goal.2] at hv;omega
  have par:∃ s':Int,((0:Nat):Int) ≤ s' ∧ s' ≤ 3 ∧ join w h C K a s' = true ∧ L.getD (bey w h a s').toNat 0 = ((n + 1:Nat):Int) - 1:=by
   rcases hL.from_ a ha (by omega) with q | ⟨_,s',q1,q2,q3⟩
   ·exact absurd q hne
   ·exact ⟨s',q1.1,q1.2,q2,by rw [q3,hv]⟩
  obtain ⟨r,r0,r1,r2⟩:=pick_both U hL hT ha ((n + 1:Nat):Int) ⟨hv,by omega⟩ o (by omega) (fun b hb hbv=>by
   have:=path_both U hL hT n b hb (by omega) (o ++ [(b:Int)]) (by simp;omega)
   rw [show ((n + 1:Nat):Int) - 1 = (n:Int) by omega]
   exact this) (by omega) 4 0 (by omega) (-1) (.inl ⟨rfl,par⟩)
  exact ⟨r,r0,Ev.step (fun k=>by simp only [water_Sail.l3];rfl) (Ev.pos (by omega) r1),Ev.step (fun k=>by simp only [hinterlandref06_Sail.l3];rfl) (Ev.neg (by omega) r2)⟩
theorem spread_sides {N:Nat} (U:Waters w h C K B) {from_:Int} {p:Nat} (hp:p < w * h) (i:Nat)
  (next:∀ (L:List Int) (m:List (Int × Int)) (line:List Int),Lab w h C K to_ L line → Tells w h L m → i < line.length → line.getD i 0 = (p:Int) → ∀ M:Nat,2 * unl L + (line.length - i) ≤ M + 1 → M < N → ∃ r:List Int × Int,r.1.length ≤ 8000 ∧ Ev (fun k=>water_Sail.l1 k from_ (line.drop (i + 1)) K B (w:Int) (h:Int) (gS w h C) (gB w h C) (gE w h C) m) r ∧ Ev (fun k=>hinterlandref06_Sail.l1 k from_ (to_:Int) L line ((i + 1:Nat):Int) (w:Int) (h:Int) C K B) r) :
  ∀ n s:Nat,s + n = 4 → ∀ (L:List Int) (m:List (Int × Int)) (line:List Int),Lab w h C K to_ L line → Tells w h L m → i < line.length → line.getD i 0 = (p:Int) → 2 * unl L + (line.length - i) ≤ N →
   ∃ r:List Int × Int,r.1.length ≤ 8000 ∧ Ev (fun k=>water_Sail.l2 k from_ (line.drop i) (s:Int) K B (w:Int) (h:Int) (gS w h C) (gB w h C) (gE w h C) m) r ∧ Ev (fun k=>hinterlandref06_Sail.l2 k from_ (to_:Int) L line (i:Int) (s:Int) (w:Int) (h:Int) C K B) r
 | 0,s,e,L,m,line,hL,hT,hi,hq,hN=>by
  have hwh:w * h ≤ 32 * 32:=mulle U.land.w1 U.land.h1
  have:=hL.all
  obtain ⟨r,r0,r1,r2⟩:=next L m line hL hT hi hq (2 * unl L + (line.length - i) - 1) (by omega) (by omega)
  refine ⟨r,r0,Ev.step (fun k=>by simp only [water_Sail.l2];rfl) (Ev.neg (by omega) (Ev.pos (by rw [List.length_drop];omega) ?_)),Ev.step (fun k=>by simp only [hinterlandref06_Sail.l2];rfl) (Ev.neg (by omega) ?_)⟩
  ·rw [List.drop_drop];exact r1
  ·rw [wrap_in (x:=(i:Int) + 1) (by omega) (by omega)];exact r2
 | n + 1,s,e,L,m,line,hL,hT,hi,hq,hN=>by
  have hwh:w * h ≤ 32 * 32:=mulle U.land.w1 U.land.h1
  have hs:0 ≤ (s:Int) ∧ (s:Int) ≤ 3:=by omega
  have hall:=hL.all
  have w1:wrap64 ((s:Int) + 1) = ((s + 1:Nat):Int):=by rw [wrap_in (by omega) (by omega)];omega
  have q0:rd (line.drop i) 0 = (p:Int):=by
   rw [show (0:Int) = ((0:Nat):Int) from rfl,rdN]
   rw [List.getD_eq_getElem?_getD,List.getElem?_drop,← List.getD_eq_getElem?_getD]
   exact hq
  have pl:0 ≤ L.getD p 0:=by
   have hmem:(p:Int) ∈ line:=by
    rw [← hq,List.getD_eq_getElem?_getD,List.getElem?_eq_getElem hi]
    exact List.getElem_mem hi
   obtain ⟨t,e1,_,e3⟩:=hL.line_in _ hmem
   rw [show p = t by omega];exact e3
  have s4:(s:Int) < 4:=Int.lt_of_le_of_lt hs.2 (by decide)
  have dl:0 < ((line.drop i).length:Int):=by rw [List.length_drop];exact Int.natCast_pos.2 (Nat.sub_pos_of_lt hi)
  have il:(i:Int) < (line.length:Int):=Int.ofNat_lt.2 hi
  have i0:0 ≤ (i:Int):=Int.natCast_nonneg i
  have skip:=fun _:Unit=>spread_sides U hp i next n (s + 1) (by omega) L m line hL hT hi hq hN
  by_cases hj:join w h C K p (s:Int) = true
  rotate_left
  ·obtain ⟨r,r0,r1,r2⟩:=skip ()
   refine ⟨r,r0,Ev.step (fun k=>by simp only [water_Sail.l2];rfl) (Ev.pos s4 (Ev.pos dl ?_)),Ev.step (fun k=>by simp only [hinterlandref06_Sail.l2];rfl) (Ev.pos s4 (Ev.pos i0 (Ev.pos il ?_)))⟩
   ·rw [q0,w1];exact Ev.bind (join_ev U hp hs) (Ev.neg hj r1)
   ·rw [rdN,hq]
    refine Ev.bind (meets_ev U hp hs) ?_
    rw [if_neg hj]
    exact Ev.neg (by decide) (Ev.step (fun k=>by simp only [hinterlandref06_Sail.j4];rfl) (Ev.neg (by simp) (by rw [w1];exact r2)))
  have b0:=(join_back hp hs hj).1
  obtain ⟨b,hbe⟩:=Int.eq_ofNat_of_zero_le b0
  have hbe':bey w h p (s:Int) = (b:Int):=hbe
  have hbl:b < w * h:=by have:=(bey_lt hp (s:Int)).1;omega
  have tb:=hT b hbl
  have hlen:=hL.len
  by_cases q1:0 ≤ L.getD b 0
  ·obtain ⟨r,r0,r1,r2⟩:=skip ()
   refine ⟨r,r0,Ev.step (fun k=>by simp only [water_Sail.l2];rfl) (Ev.pos s4 (Ev.pos dl ?_)),Ev.step (fun k=>by simp only [hinterlandref06_Sail.l2];rfl) (Ev.pos s4 (Ev.pos i0 (Ev.pos il ?_)))⟩
   ·rw [q0,w1]
    refine Ev.bind (join_ev U hp hs) (Ev.pos hj (Ev.bind (beyond_ev U.land hp hs _ _ _) ?_))
    rw [hbe']
    exact Ev.pos (by rw [tb.1];exact decide_eq_true q1) r1
   ·rw [rdN,hq]
    refine Ev.bind (meets_ev U hp hs) ?_
    rw [if_pos hj,hbe']
    refine Ev.pos (by omega) (Ev.pos (by omega) (Ev.pos (by omega) (Ev.step (fun k=>by simp only [hinterlandref06_Sail.j4];rfl) (Ev.neg ?_ (by rw [w1];exact r2)))))
    rw [rdN];simp only [decide_eq_true_eq];omega
  ·have hL2:=hL.step hp pl hs hj hbe' hbl (by omega)
   have hT2:Tells w h (L.set b (L.getD p 0 + 1)) (mpPut (b:Int) (L.getD p 0 + 1) m):=hT.step hlen hbl (by omega)
   have hu:=unl_set L b (L.getD p 0 + 1) (by omega) (by omega) (by omega)
   have hcap:=hL.cap p hp
   obtain ⟨r,r0,r1,r2⟩:=spread_sides U hp i next n (s + 1) (by omega) _ _ _ hL2 hT2 (by simp;omega) (by rw [List.getD_eq_getElem?_getD,List.getElem?_append_left hi,← List.getD_eq_getElem?_getD];exact hq) (by rw [List.length_append,List.length_singleton];omega)
   have w3:wrap64 (L.getD p 0 + 1) = L.getD p 0 + 1:=wrap_in (by omega) (by omega)
   refine ⟨r,r0,Ev.step (fun k=>by simp only [water_Sail.l2];rfl) (Ev.pos s4 (Ev.pos dl ?_)),Ev.step (fun k=>by simp only [hinterlandref06_Sail.l2];rfl) (Ev.pos s4 (Ev.pos i0 (Ev.pos il ?_)))⟩
   ·rw [q0,w1]
    refine Ev.bind (join_ev U hp hs) (Ev.pos hj (Ev.bind (beyond_ev U.land hp hs _ _ _) ?_))
    rw [hbe',(hT p hp).2 pl,w3]
    refine Ev.neg (by rw [tb.1];simp only [decide_eq_true_eq];exact q1) (Ev.pos (by rw [List.length_drop];omega) ?_)
    rw [List.drop_append_of_le_length (by omega)] at r1
    exact r1
   ·rw [rdN,hq]
    refine Ev.bind (meets_ev U hp hs) ?_
    rw [if_pos hj,hbe']
    refine Ev.pos (by omega) (Ev.pos (by omega) (Ev.pos (by omega) (Ev.step (fun k=>by simp only [hinterlandref06_Sail.j4];rfl) (Ev.pos ?_ ?_))))
    ·rw [rdN];simp only [decide_eq_true_eq];omega
    ·rw [rdN,hq,rdN,w3,w1]
     exact Ev.pos (by omega) (Ev.pos (by omega) (Ev.pos (by omega) (Ev.pos (by omega) (Ev.pos (by omega) (Ev.pos (by omega) (Ev.pos (by omega) r2))))))
theorem spread_both (U:Waters w h C K B) {a:Nat} (ha:a < w * h):∀ (N:Nat) (L:List Int) (m:List (Int × Int)) (line:List Int) (i:Nat),Lab w h C K to_ L line → Tells w h L m → i ≤ line.length → 2 * unl L + (line.length - i) ≤ N →
   ∃ r:List Int × Int,r.1.length ≤ 8000 ∧ Ev (fun k=>water_Sail.l1 k (a:Int) (line.drop i) K B (w:Int) (h:Int) (gS w h C) (gB w h C) (gE w h C) m) r ∧ Ev (fun k=>hinterlandref06_Sail.l1 k (a:Int) (to_:Int) L line (i:Int) (w:Int) (h:Int) C K B) r:=by
 intro N
 induction N using Nat.strongRecOn with
 | ind N IH =>
  intro L m line i hL hT hi hN
  have hwh:w * h ≤ 32 * 32:=mulle U.land.w1 U.land.h1
  have hall:=hL.all
  by_cases hlt:i < line.length
  ·have hmem:line.getD i 0 ∈ line:=by
    rw [List.getD_eq_getElem?_getD,List.getElem?_eq_getElem hlt]
    exact List.getElem_mem hlt
   obtain ⟨p,hq,hp,_⟩:=hL.line_in _ hmem
   obtain ⟨r,r0,r1,r2⟩:=spread_sides (N:=N) U (from_:=(a:Int)) hp i (fun L m line hL hT hi' hq' M hM hMN=>by
    have:=IH M hMN L m line (i + 1) hL hT (by omega) (by omega)
    exact this) 4 0 (by omega) L m line hL hT hlt hq hN
   exact ⟨r,r0,Ev.step (fun k=>by simp only [water_Sail.l1];rfl) (Ev.pos (by rw [List.length_drop];omega) r1),Ev.step (fun k=>by simp only [hinterlandref06_Sail.l1];rfl) (Ev.pos (by omega) r2)⟩
  ·have ta:=hT a ha
   have hlen:=hL.len
   have hlow:=hL.low a ha
   by_cases q:0 ≤ L.getD a 0
   ·obtain ⟨n,hn⟩:=Int.eq_ofNat_of_zero_le q
    have hcap:=hL.cap a ha
    obtain ⟨r,r0,r1,r2⟩:=path_both U hL hT n a ha hn [(a:Int)] (by simp;omega)
    refine ⟨r,r0,Ev.step (fun k=>by simp only [water_Sail.l1];rfl) (Ev.neg (by rw [List.length_drop];omega) (Ev.pos (by rw [ta.1];exact decide_eq_true q) ?_)),Ev.step (fun k=>by simp only [hinterlandref06_Sail.l1];rfl) (Ev.neg (by omega) (Ev.pos (by omega) (Ev.pos (by omega) (Ev.neg (by rw [rdN];omega) r2))))⟩
    rw [ta.2 q,hn];exact r1
   ·exact ⟨([],2),by simp,Ev.step (fun k=>by simp only [water_Sail.l1];rfl) (Ev.neg (by rw [List.length_drop];omega) (Ev.neg (by rw [ta.1];simp only [decide_eq_true_eq];exact q) (Ev.now _))),Ev.step (fun k=>by simp only [hinterlandref06_Sail.l1];rfl) (Ev.neg (by omega) (Ev.pos (by omega) (Ev.pos (by omega) (Ev.pos (by rw [rdN];omega) (Ev.now _)))))⟩
end
section
variable {w h : Nat} {C K B : List Int}
theorem fill_start {from_ to_:Int} {r:List Int × Int} {t:Nat} (e:to_ = (t:Int)) (ht:t < w * h) (hwh:w * h ≤ 2000)
  (k:Ev (fun k=>hinterlandref06_Sail.l1 k from_ to_ ((List.replicate (w * h) (-1)).set t 0) [to_] 0 (w:Int) (h:Int) C K B) r) :
  ∀ d i:Nat,i + d = w * h → ∀ L:List Int,L.length = w * h → (∀ j,j < i → L.getD j 0 = -1) → Ev (fun k=>hinterlandref06_Sail.l0 k from_ to_ L ((w * h:Nat):Int) (i:Int) (w:Int) (h:Int) C K B) r
 | 0,i,e2,L,hl,hL=>by
  refine Ev.step (fun k=>by simp only [hinterlandref06_Sail.l0];rfl) (Ev.neg (by omega) (Ev.pos (by omega) (Ev.pos (by omega) ?_)))
  have:L = List.replicate (w * h) (-1):=list_ext (by simpa using hl) (fun j hj=>by rw [hL j (by omega),rep_at _ _ _ (by omega)])
  rw [this,show to_.toNat = t by omega]
  exact k
 | d + 1,i,e2,L,hl,hL=>by
  refine Ev.step (fun k=>by simp only [hinterlandref06_Sail.l0];rfl) (Ev.pos (by omega) (Ev.pos (by omega) (Ev.pos (by omega) ?_)))
  rw [wrap_in (x:=(i:Int) + 1) (by omega) (by omega),Int.toNat_natCast]
  exact fill_start e ht hwh k d (i + 1) (by omega) _ (by simpa using hl) (fun j hj=>by
   rw [set_at]
   by_cases q:i = j
   ·rw [if_pos ⟨q,by omega⟩]
   ·rw [if_neg (fun q2=>q q2.1)];exact hL j (by omega))
end
theorem sail_both {W H:Int} {C K B:List Int} {a b:Int} (hC:C.length ≤ 4000) (hB:B.length ≤ 4000):∃ r:List Int × Int,r.1.length ≤ 8000 ∧ Ev (fun k => water_Sail.f k W H C K B a b) r ∧ Ev (fun k => hinterlandref06_Sail.f k W H C K B a b) r := by
 unfold water_Sail.f hinterlandref06_Sail.f
 by_cases hw:wcode W H C K B = 0
 rotate_left
 ·refine ⟨([],wcode W H C K B),by simp,Ev.bind (check_ev hC hB) ?_,Ev.bind (ref_validate_ev hC hB) (Ev.neg hw (Ev.now _))⟩
  by_cases l:lcode W H C = 0
  ·simp only [if_pos l];exact Ev.neg hw (Ev.now _)
  ·simp only [if_neg l];exact Ev.neg hw (Ev.now _)
 have hw':=hw
 obtain ⟨w,h,rfl,rfl,U⟩:=waters_of hw
 have hKl:=U.len
 have hwh:w * h ≤ 32 * 32:=mulle U.land.w1 U.land.h1
 have hwv:∀ {u:Nat},u < w * h → Ev (fun k=>hinterlandref06_Wet.f k (w:Int) (h:Int) C K (u:Int)) (wet w C K u):=fun hu=>ref_wet_ev U.land hu hKl (U.kinds _ (Nat.zero_le _) (by omega)) (U.may _ (Nat.zero_le _) (by omega))
 have P:∀ r,Ev (fun k=>water_Sail.l0 k a b (⟨a,b⟩:S107) 0 K B (w:Int) (h:Int) (gS w h C) (gB w h C) (gE w h C)) r → Ev (fun k=>(water_check.f k (w:Int) (h:Int) C K B).bind fun g=>if g.2.2.2.2.2 = 0 then water_Sail.l0 k a b (⟨a,b⟩:S107) 0 K B g.1 g.2.1 g.2.2.1 g.2.2.2.1 g.2.2.2.2.1 else some (([]:List Int),g.2.2.2.2.2)) r:=by
  intro r hr
  refine Ev.bind (check_ev hC hB) ?_
  simp only [if_pos (of_land U.land),Int.toNat_natCast]
  exact Ev.pos hw' hr
 have no:∀ q,q = true → Ev (fun k=>hinterlandref06_Sail.j0 k a b q (w:Int) (h:Int) C K B) ([],2):=fun q hq=>Ev.step (fun k=>by simp only [hinterlandref06_Sail.j0];rfl) (Ev.pos hq (Ev.now _))
 by_cases qa:0 ≤ a ∧ a < ((w * h:Nat):Int)
 rotate_left
 ·refine ⟨([],2),by simp,P _ ?_,Ev.bind (ref_validate_ev hC hB) (Ev.pos hw' (Ev.bindc (is_eq U.land a) (Ev.neg (fun hc=>qa (of_decide_eq_true hc)) (no _ rfl))))⟩
  refine Ev.step (fun k=>by simp only [water_Sail.l0];rfl) (Ev.pos (by decide) (Ev.pos (by decide) ?_))
  change Ev (fun k=>if a < 0 then some ([],2) else if a ≥ (K.length:Int) then some ([],2) else _) _
  by_cases q0:a < 0
  ·exact Ev.pos q0 (Ev.now _)
  ·exact Ev.neg q0 (Ev.pos (by omega) (Ev.now _))
 obtain ⟨na,rfl⟩:=Int.eq_ofNat_of_zero_le qa.1
 have hna:na < w * h:=by omega
 have first:∀ r,Ev (fun k=>if wet w C K na = true then water_Sail.l0 k (na:Int) b (⟨(na:Int),b⟩:S107) 1 K B (w:Int) (h:Int) (gS w h C) (gB w h C) (gE w h C) else some ([],2)) r → Ev (fun k=>water_Sail.l0 k (na:Int) b (⟨(na:Int),b⟩:S107) 0 K B (w:Int) (h:Int) (gS w h C) (gB w h C) (gE w h C)) r:=by
  intro r hr
  refine Ev.step (fun k=>by simp only [water_Sail.l0];rfl) (Ev.pos (by decide) (Ev.pos (by decide) (Ev.neg (show ¬ (na:Int) < 0 by omega) (Ev.neg (show ¬ (na:Int) ≥ (K.length:Int) by omega) ?_))))
  refine Ev.bindc (show water_ground_wet.f (w:Int) (h:Int) (gS w h C) (gB w h C) (gE w h C) K B (na:Int) = some (wet w C K na) from wet_lt hKl hna) ?_
  rw [wrap_in (x:=(0:Int) + 1) (by decide) (by decide)]
  exact hr
 by_cases qb:0 ≤ b ∧ b < ((w * h:Nat):Int)
 rotate_left
 ·refine ⟨([],2),by simp,P _ (first _ ?_),Ev.bind (ref_validate_ev hC hB) (Ev.pos hw' (Ev.bindc (is_eq U.land _) (Ev.pos (decide_eq_true qa) (Ev.bindc (is_eq U.land b) (Ev.neg (fun hc=>qb (of_decide_eq_true hc)) (no _ rfl))))))⟩
  by_cases wa:wet w C K na = true
  ·refine Ev.pos wa (Ev.step (fun k=>by simp only [water_Sail.l0];rfl) (Ev.pos (by decide) (Ev.pos (by decide) ?_)))
   change Ev (fun k=>if b < 0 then some ([],2) else if b ≥ (K.length:Int) then some ([],2) else _) _
   by_cases q0:b < 0
   ·exact Ev.pos q0 (Ev.now _)
   ·exact Ev.neg q0 (Ev.pos (by omega) (Ev.now _))
  ·exact Ev.neg wa (Ev.now _)
 obtain ⟨nb,rfl⟩:=Int.eq_ofNat_of_zero_le qb.1
 have hnb:nb < w * h:=by omega
 have ref1:∀ r,(Ev (fun k=>if wet w C K na = true then (hinterlandref06_Wet.f k (w:Int) (h:Int) C K (nb:Int)).bind fun t=>hinterlandref06_Sail.j0 k (na:Int) (nb:Int) (!t) (w:Int) (h:Int) C K B else hinterlandref06_Sail.j0 k (na:Int) (nb:Int) true (w:Int) (h:Int) C K B) r) → Ev (fun k=>(hinterlandref06_Validate.f k (w:Int) (h:Int) C K B).bind fun t=>if t = 0 then (hinterlandref02_Is.f (w:Int) (h:Int) C (na:Int)).bind fun t=>if t = true then (hinterlandref02_Is.f (w:Int) (h:Int) C (nb:Int)).bind fun t=>if t = true then (hinterlandref06_Wet.f k (w:Int) (h:Int) C K (na:Int)).bind fun t=>if t = true then (hinterlandref06_Wet.f k (w:Int) (h:Int) C K (nb:Int)).bind fun t=>hinterlandref06_Sail.j0 k (na:Int) (nb:Int) (!t) (w:Int) (h:Int) C K B else hinterlandref06_Sail.j0 k (na:Int) (nb:Int) true (w:Int) (h:Int) C K B else hinterlandref06_Sail.j0 k (na:Int) (nb:Int) true (w:Int) (h:Int) C K B else hinterlandref06_Sail.j0 k (na:Int) (nb:Int) true (w:Int) (h:Int) C K B else some (([]:List Int),t)) r:=by
  intro r hr
  exact Ev.bind (ref_validate_ev hC hB) (Ev.pos hw' (Ev.bindc (is_eq U.land _) (Ev.pos (decide_eq_true qa) (Ev.bindc (is_eq U.land _) (Ev.pos (decide_eq_true qb) (Ev.bind (hwv hna) hr))))))
 by_cases wa:wet w C K na = true
 rotate_left
 ·exact ⟨([],2),by simp,P _ (first _ (Ev.neg wa (Ev.now _))),ref1 _ (Ev.neg wa (no _ rfl))⟩
 have second:∀ r,Ev (fun k=>if wet w C K nb = true then water_Sail.l0 k (na:Int) (nb:Int) (⟨(na:Int),(nb:Int)⟩:S107) 2 K B (w:Int) (h:Int) (gS w h C) (gB w h C) (gE w h C) else some ([],2)) r → Ev (fun k=>water_Sail.l0 k (na:Int) (nb:Int) (⟨(na:Int),(nb:Int)⟩:S107) 1 K B (w:Int) (h:Int) (gS w h C) (gB w h C) (gE w h C)) r:=by
  intro r hr
  refine Ev.step (fun k=>by simp only [water_Sail.l0];rfl) (Ev.pos (by decide) (Ev.pos (by decide) (Ev.neg (show ¬ (nb:Int) < 0 by omega) (Ev.neg (show ¬ (nb:Int) ≥ (K.length:Int) by omega) ?_))))
  refine Ev.bindc (show water_ground_wet.f (w:Int) (h:Int) (gS w h C) (gB w h C) (gE w h C) K B (nb:Int) = some (wet w C K nb) from wet_lt hKl hnb) ?_
  rw [wrap_in (x:=(1:Int) + 1) (by decide) (by decide)]
  exact hr
 by_cases wb:wet w C K nb = true
 rotate_left
 ·exact ⟨([],2),by simp,P _ (first _ (Ev.pos wa (second _ (Ev.neg wb (Ev.now _))))),ref1 _ (Ev.pos wa (Ev.bind (hwv hnb) (no _ (by simp [wb]))))⟩
 obtain ⟨hL,hT⟩:=lab_start (w:=w) (h:=h) (C:=C) (K:=K) hnb
 obtain ⟨r,r0,r1,r2⟩:=spread_both U hna _ _ _ _ 0 hL hT (by simp) (Nat.le_refl _)
 refine ⟨r,r0,P _ (first _ (Ev.pos wa (second _ (Ev.pos wb (Ev.step (fun k=>by simp only [water_Sail.l0];rfl) (Ev.neg (by decide) r1)))))),ref1 _ (Ev.pos wa (Ev.bind (hwv hnb) ?_))⟩
 refine Ev.step (fun k=>by simp only [hinterlandref06_Sail.j0];rfl) (Ev.neg (by simp [wb]) (Ev.pos (by omega) (Ev.pos (by omega) (Ev.bindc rfl ?_))))
 rw [Int.toNat_natCast,hKl]
 rw [show ((List.replicate (w * h) (0:Int)).length:Int) = ((w * h:Nat):Int) by simp]
 exact fill_start rfl hnb (by omega) r2 (w * h) 0 (by omega) _ (by simp) (fun j hj=>by omega)

end Go.Proofs.Ythjmdpekcleihaa.Pure
