/- What the functions of layer 6 (waters) come to, in plain words: lands and tiles, in the document. No conditions. -/
import Derived.Test.YtiencnnkphipoaaPx0
import Derived.Test.YtiencnnkphipoaaPx8
import Derived.Test.YtiencnnkphipoaaPx9
import Derived.Test.YtiencnnkphipoaaPx10
import Derived.Test.YtiencnnkphipoaaWater3
namespace Go.Proofs.Ytiencnnkphipoaa.Pure
set_option linter.unusedVariables false
set_option linter.unusedSimpArgs false
open Go.RowKit Go.Proofs.YtiencnnkphipoaaW.PrintWords Go.Proofs.YtiencnnkphipoaaW.PrintMore Go.Proofs.Ytiencnnkphipoaa.P Go.Proofs.Ytiencnnkphipoaa

theorem side_eq (n : Int) : hinterlandref02_side.f n = some (decide (4 ≤ n ∧ n ≤ 32)) := by
 unfold hinterlandref02_side.f
 by_cases h : n ≥ 4
 ·rw [if_pos h];congr 1;apply decide_eq_decide.2;omega
 ·rw [if_neg h,decide_eq_false (by omega)]
theorem rapart_eq {a b : Int} (ha : 0 ≤ a ∧ a ≤ 15) (hb : 0 ≤ b ∧ b ≤ 15) : ∃ t, hinterlandref02_Apart.f a b = some t ∧ (t > 1 ↔ ¬ near a b) := by
 unfold hinterlandref02_Apart.f near
 rw [wrap_in (x:=a - b) (by omega) (by omega),wrap_in (x:=b - a) (by omega) (by omega)]
 by_cases h : a < b
 ·rw [if_pos h];exact ⟨_,rfl,by omega⟩
 ·rw [if_neg h];exact ⟨_,rfl,by omega⟩
def QAt (C : List Int) (w i : Nat) : Prop := (0 < i % (w + 1) → near (z C i) (z C (i - 1))) ∧ (w < i → near (z C i) (z C (i - (w + 1))))
theorem flat_q {w h : Nat} {C : List Int} (hl : C.length = (w + 1) * (h + 1)) : Flat C w h ↔ ∀ i, 0 ≤ i → i < C.length → QAt C w i := by
 have sm : ∀ y : Nat,(y + 1) * (w + 1) = y * (w + 1) + (w + 1):=fun y => Nat.succ_mul _ _
 have hl' : C.length = h * (w + 1) + (w + 1):=by rw [hl,Nat.mul_comm,sm]
 constructor
 ·intro f i _ hi
  have hd:=Nat.div_add_mod i (w + 1)
  have hm:=Nat.mod_lt i (Nat.succ_pos w)
  obtain ⟨y,hy⟩ : ∃ y,y = i / (w + 1):=⟨_,rfl⟩
  obtain ⟨x,hx⟩ : ∃ x,x = i % (w + 1):=⟨_,rfl⟩
  rw [← hy,← hx,Nat.mul_comm] at hd
  rw [← hx] at hm
  have hyh : y ≤ h:=by
   apply Classical.byContradiction
   intro hn
   have:=Nat.mul_le_mul_right (w + 1) (show h + 1 ≤ y by omega)
   rw [sm] at this
   omega
  refine ⟨fun h0 => ?_,fun h0 => ?_⟩
  ·rw [← hx] at h0
   have:=(f y hyh (x - 1) (by omega)).1 (by omega)
   rw [show y * (w + 1) + (x - 1) + 1 = i by omega,show y * (w + 1) + (x - 1) = i - 1 by omega] at this
   exact near_symm this
  ·cases y with
   | zero => omega
   | succ y =>
    have:=(f y (by omega) x (by omega)).2 (by omega)
    rw [hd,show y * (w + 1) + x = i - (w + 1) by rw [sm] at hd;omega] at this
    exact near_symm this
 ·intro q y hy x hx
  have hle:=Nat.mul_le_mul_right (w + 1) hy
  refine ⟨fun h0 => ?_,fun h0 => ?_⟩
  ·have:=(q (y * (w + 1) + x + 1) (Nat.zero_le _) (by omega)).1 (by
    rw [Nat.add_assoc,Nat.mul_comm,Nat.mul_add_mod,Nat.mod_eq_of_lt (by omega)];omega)
   rw [Nat.add_sub_cancel] at this
   exact near_symm this
  ·have h1:=Nat.mul_le_mul_right (w + 1) (show y + 1 ≤ h by omega)
   rw [sm] at h1
   have:=(q ((y + 1) * (w + 1) + x) (Nat.zero_le _) (by rw [sm];omega)).2 (by rw [sm];omega)
   rw [show (y + 1) * (w + 1) + x - (w + 1) = y * (w + 1) + x by rw [sm];omega] at this
   exact near_symm this
theorem ref_land_ev {W H : Int} {C : List Int} (hl : C.length ≤ 4000) : Ev (fun k => hinterlandref02_Validate.f k W H C) (lcode W H C) := by
 unfold hinterlandref02_Validate.f
 have bad : ¬ LShape W H C → ∀ q,q = true → Ev (fun k => hinterlandref02_Validate.j0 k q W H C) (lcode W H C):=by
  intro h q hq
  refine Ev.eq (Ev.step (fun k => by simp only [hinterlandref02_Validate.j0];rfl) (Ev.pos hq (Ev.now _))) (if_neg h).symm
 refine Ev.bindc (side_eq W) ?_
 by_cases hW : 4 ≤ W ∧ W ≤ 32
 rotate_left
 ·exact Ev.neg (by simp [hW]) (bad (fun h => hW h.1) _ rfl)
 refine Ev.pos (by simp [hW]) (Ev.bindc (side_eq H) ?_)
 by_cases hH : 4 ≤ H ∧ H ≤ 32
 rotate_left
 ·exact Ev.neg (by simp [hH]) (bad (fun h => hH h.2.1) _ rfl)
 refine Ev.pos (by simp [hH]) ?_
 obtain ⟨w,rfl⟩:=Int.eq_ofNat_of_zero_le (show 0 ≤ W by omega)
 obtain ⟨h,rfl⟩:=Int.eq_ofNat_of_zero_le (show 0 ≤ H by omega)
 have hm : (w + 1) * (h + 1) ≤ 40 * 40:=mulle (by omega) (by omega)
 have e : wrap64 (wrap64 ((w : Int) + 1) * wrap64 ((h : Int) + 1)) = (((w + 1) * (h + 1) : Nat) : Int):=by
  rw [sucw w (by omega),sucw h (by omega),← Int.natCast_mul,wrap_in (by omega) (by omega)]
 rw [e]
 by_cases l1 : C.length = (w + 1) * (h + 1)
 rotate_left
 ·exact bad (fun hs => l1 (area_nat hs.2.2)) _ (bne_iff_ne.2 (by omega))
 have hs : LShape (w : Int) (h : Int) C:=⟨⟨by omega,by omega⟩,⟨by omega,by omega⟩,by rw [l1];push_cast;rfl⟩
 rw [show ((C.length : Int) != (((w + 1) * (h + 1) : Nat) : Int)) = false from bne_eq_false_iff_eq.2 (by omega)]
 refine Ev.eq ?_ (if_pos hs).symm
 refine Ev.step (fun k => by simp only [hinterlandref02_Validate.j0];rfl) (Ev.neg (by simp) ?_)
 have good1 : ∀ i,i < C.length → ZAt C i → ∀ r,Ev (fun k => hinterlandref02_Validate.l0 k C (C.length : Int) ((i : Int) + 1) (w : Int) (h : Int) C) r → Ev (fun k => hinterlandref02_Validate.l0 k C (C.length : Int) (i : Int) (w : Int) (h : Int) C) r:=by
  intro i hi p r hr
  unfold ZAt z at p
  refine Ev.step (fun k => by simp only [hinterlandref02_Validate.l0];rfl) ?_
  rw [rdN,wrap_in (x:=(i : Int) + 1) (by omega) (by omega)]
  exact Ev.pos (by omega) (Ev.pos (by omega) (Ev.pos (by omega) (Ev.neg (by omega) (Ev.neg (by omega) hr))))
 have bad1 : ∀ i,i < C.length → ¬ ZAt C i → Ev (fun k => hinterlandref02_Validate.l0 k C (C.length : Int) (i : Int) (w : Int) (h : Int) C) 1:=by
  intro i hi p
  unfold ZAt z at p
  refine Ev.step (fun k => by simp only [hinterlandref02_Validate.l0];rfl) ?_
  rw [rdN]
  refine Ev.pos (by omega) (Ev.pos (by omega) (Ev.pos (by omega) ?_))
  by_cases q1 : C.getD i 0 < 0
  ·exact Ev.pos q1 (Ev.now _)
  exact Ev.neg q1 (Ev.pos (by omega) (Ev.now _))
 by_cases g1 : Zs C
 rotate_left
 ·exact Ev.eq (Ev.scan_some (g:=fun k i => hinterlandref02_Validate.l0 k C (C.length : Int) i (w : Int) (h : Int) C) good1 bad1 C.length 0 (by omega) (not_all g1)) (if_neg g1).symm
 refine Ev.eq ?_ (if_pos g1).symm
 refine Ev.scan_all (g:=fun k i => hinterlandref02_Validate.l0 k C (C.length : Int) i (w : Int) (h : Int) C) (Ev.step (fun k => by simp only [hinterlandref02_Validate.l0];rfl) (Ev.neg (by omega) ?_)) good1 C.length 0 (by omega) g1
 simp only [Int.toNat_natCast]
 have zr : ∀ j,j < C.length → 0 ≤ C.getD j 0 ∧ C.getD j 0 ≤ 15:=fun j hj => g1 j (Nat.zero_le _) hj
 have tm : ∀ i : Nat,Int.tmod (i : Int) (wrap64 ((w : Int) + 1)) = ((i % (w + 1) : Nat) : Int):=by
  intro i;rw [sucw w (by omega)];rfl
 have left : ∀ i : Nat,0 < i % (w + 1) → wrap64 ((i : Int) - 1) = ((i - 1 : Nat) : Int) ∨ 100000 < i:=by
  intro i hi
  by_cases hb : i ≤ 100000
  ·left
   have : 0 < i:=by cases i with | zero => simp at hi | succ i => omega
   rw [wrap_in (by omega) (by omega)];omega
  ·right;omega
 have up : ∀ i : Nat,w < i → i ≤ 100000 → wrap64 (wrap64 ((i : Int) - (w : Int)) - 1) = ((i - (w + 1) : Nat) : Int):=by
  intro i hi hb
  rw [wrap_in (x:=(i : Int) - (w : Int)) (by omega) (by omega),wrap_in (by omega) (by omega)];omega
 have good2 : ∀ i,i < C.length → QAt C w i → ∀ r,Ev (fun k => hinterlandref02_Validate.l1 k C (C.length : Int) ((i : Int) + 1) (w : Int) (h : Int) C) r → Ev (fun k => hinterlandref02_Validate.l1 k C (C.length : Int) (i : Int) (w : Int) (h : Int) C) r:=by
  intro i hi ⟨p1,p2⟩ r hr
  refine Ev.step (fun k => by simp only [hinterlandref02_Validate.l1];rfl) ?_
  rw [tm,wrap_in (x:=(i : Int) + 1) (by omega) (by omega)]
  refine Ev.pos (by omega) (Ev.pos (by omega) (Ev.pos (by omega) (Ev.neg (by rw [sucw w (by omega)];omega) ?_)))
  have more : Ev (fun k => if (i : Int) > (w : Int) then (if 0 ≤ wrap64 (wrap64 ((i : Int) - (w : Int)) - 1) then (if wrap64 (wrap64 ((i : Int) - (w : Int)) - 1) < (C.length : Int) then ((hinterlandref02_Apart.f (rd C (i : Int)) (rd C (wrap64 (wrap64 ((i : Int) - (w : Int)) - 1)))).bind fun t => if t > 1 then some 5 else hinterlandref02_Validate.l1 k C (C.length : Int) ((i : Int) + 1) (w : Int) (h : Int) C) else none) else none) else hinterlandref02_Validate.l1 k C (C.length : Int) ((i : Int) + 1) (w : Int) (h : Int) C) r:=by
   by_cases hw : w < i
   ·rw [up i hw (by omega),rdN,rdN]
    obtain ⟨t,ht,hiff⟩:=rapart_eq (zr i hi) (zr (i - (w + 1)) (by omega))
    exact Ev.pos (by omega) (Ev.pos (by omega) (Ev.pos (by omega) (Ev.bindc ht (Ev.neg (fun hc => hiff.1 hc (p2 hw)) hr))))
   ·exact Ev.neg (by omega) hr
  by_cases hx : 0 < i % (w + 1)
  ·rcases left i hx with e1 | e1
   ·rw [e1,rdN,rdN]
    rw [rdN] at more
    obtain ⟨t,ht,hiff⟩:=rapart_eq (zr i hi) (zr (i - 1) (by omega))
    exact Ev.pos (by omega) (Ev.pos (by omega) (Ev.pos (by omega) (Ev.bindc ht (Ev.neg (fun hc => hiff.1 hc (p1 hx)) more))))
   ·omega
  ·exact Ev.neg (by omega) more
 have bad2 : ∀ i,i < C.length → ¬ QAt C w i → Ev (fun k => hinterlandref02_Validate.l1 k C (C.length : Int) (i : Int) (w : Int) (h : Int) C) 5:=by
  intro i hi p
  refine Ev.step (fun k => by simp only [hinterlandref02_Validate.l1];rfl) ?_
  rw [tm,wrap_in (x:=(i : Int) + 1) (by omega) (by omega)]
  refine Ev.pos (by omega) (Ev.pos (by omega) (Ev.pos (by omega) (Ev.neg (by rw [sucw w (by omega)];omega) ?_)))
  have more : ¬ (w < i → near (z C i) (z C (i - (w + 1)))) → Ev (fun k => if (i : Int) > (w : Int) then (if 0 ≤ wrap64 (wrap64 ((i : Int) - (w : Int)) - 1) then (if wrap64 (wrap64 ((i : Int) - (w : Int)) - 1) < (C.length : Int) then ((hinterlandref02_Apart.f (rd C (i : Int)) (rd C (wrap64 (wrap64 ((i : Int) - (w : Int)) - 1)))).bind fun t => if t > 1 then some 5 else hinterlandref02_Validate.l1 k C (C.length : Int) ((i : Int) + 1) (w : Int) (h : Int) C) else none) else none) else hinterlandref02_Validate.l1 k C (C.length : Int) ((i : Int) + 1) (w : Int) (h : Int) C) 5:=by
   intro hc
   have hw : w < i:=Classical.byContradiction fun hn => hc fun h1 => absurd h1 hn
   rw [up i hw (by omega),rdN,rdN]
   obtain ⟨t,ht,hiff⟩:=rapart_eq (zr i hi) (zr (i - (w + 1)) (by omega))
   exact Ev.pos (by omega) (Ev.pos (by omega) (Ev.pos (by omega) (Ev.bindc ht (Ev.pos (hiff.2 fun hn => hc fun _ => hn) (Ev.now _)))))
  by_cases hx : 0 < i % (w + 1)
  ·rcases left i hx with e1 | e1
   ·rw [e1,rdN,rdN]
    rw [rdN] at more
    obtain ⟨t,ht,hiff⟩:=rapart_eq (zr i hi) (zr (i - 1) (by omega))
    refine Ev.pos (by omega) (Ev.pos (by omega) (Ev.pos (by omega) (Ev.bindc ht ?_)))
    by_cases hn : near (z C i) (z C (i - 1))
    ·exact Ev.neg (fun hc => hiff.1 hc hn) (more fun h2 => p ⟨fun _ => hn,h2⟩)
    ·exact Ev.pos (hiff.2 hn) (Ev.now _)
   ·omega
  ·exact Ev.neg (by omega) (more fun h2 => p ⟨fun h1 => absurd h1 hx,h2⟩)
 have fin2 : Ev (fun k => hinterlandref02_Validate.l1 k C (C.length : Int) ((C.length : Nat) : Int) (w : Int) (h : Int) C) 0 :=
  Ev.step (fun k => by simp only [hinterlandref02_Validate.l1];rfl) (Ev.neg (by omega) (Ev.now _))
 by_cases g2 : Flat C w h
 ·rw [if_pos g2]
  exact Ev.scan_all (g:=fun k i => hinterlandref02_Validate.l1 k C (C.length : Int) i (w : Int) (h : Int) C) fin2 good2 C.length 0 (by omega) ((flat_q l1).1 g2)
 ·rw [if_neg g2]
  exact Ev.scan_some (g:=fun k i => hinterlandref02_Validate.l1 k C (C.length : Int) i (w : Int) (h : Int) C) good2 bad2 C.length 0 (by omega) (not_all fun hc => g2 ((flat_q l1).2 hc))

theorem upper_eq (s : Int) : hinterlandref06_upper.f s = some (if s = 6 then 0 else if s = 12 then 1 else if s = 9 then 2 else if s = 3 then 3 else -1) := by
 unfold hinterlandref06_upper.f
 by_cases h1 : s = 6
 ·simp [h1]
 by_cases h2 : s = 12
 ·simp [h2]
 by_cases h3 : s = 9
 ·simp [h3]
 by_cases h4 : s = 3
 ·simp [h4]
 simp [h1,h2,h3,h4]

section
variable {w h : Nat} {C : List Int}
theorem places_eq (L : Land w h C) {t : Nat} (ht : t < w * h) : hinterlandref02_Places.f (w : Int) (h : Int) C (t : Int) = some (⟨((co w t : Nat) : Int), ((co w t + 1 : Nat) : Int), ((co w t + w + 2 : Nat) : Int), ((co w t + w + 1 : Nat) : Int)⟩ : S71) := by
 have:=L.w0
 have:=L.w1
 have hc:=co_lt L ht
 unfold hinterlandref02_Places.f
 rw [if_neg (by omega),idx_t L ht,(idx_2 (co w t) w (by omega) (by omega)).1,(idx_2 (co w t) w (by omega) (by omega)).2,sucw (co w t) (by omega)]
theorem sea_ev (L : Land w h C) {t : Nat} (ht : t < w * h) : Ev (fun k => hinterlandref02_Sea.f k (w : Int) (h : Int) C (t : Int)) (sea w C t) := by
 have hc:=co_lt L ht
 unfold hinterlandref02_Sea.f
 refine Ev.bindc (places_eq L ht) ?_
 have one : ∀ (i : Int) (n : Nat) (r : Bool),0 ≤ i ∧ i < 4 → ix71 (⟨((co w t : Nat) : Int),((co w t + 1 : Nat) : Int),((co w t + w + 2 : Nat) : Int),((co w t + w + 1 : Nat) : Int)⟩ : S71) i = (n : Int) → n < C.length → (¬ z C n ≤ 2 → r = false) →
   (z C n ≤ 2 → Ev (fun k => hinterlandref02_Sea.l0 k (⟨((co w t : Nat) : Int),((co w t + 1 : Nat) : Int),((co w t + w + 2 : Nat) : Int),((co w t + w + 1 : Nat) : Int)⟩ : S71) (i + 1) (w : Int) (h : Int) C) r) → Ev (fun k => hinterlandref02_Sea.l0 k (⟨((co w t : Nat) : Int),((co w t + 1 : Nat) : Int),((co w t + w + 2 : Nat) : Int),((co w t + w + 1 : Nat) : Int)⟩ : S71) i (w : Int) (h : Int) C) r:=by
  intro i n r hi hn hl hb hk
  refine Ev.step (fun k => by simp only [hinterlandref02_Sea.l0];rfl) ?_
  rw [hn,rdN,wrap_in (x:=i + 1) (by omega) (by omega)]
  refine Ev.pos hi.2 (Ev.pos hi.1 (Ev.pos (by omega) (Ev.pos (by omega) ?_)))
  by_cases h2 : z C n ≤ 2
  ·exact Ev.neg (by unfold z at h2;omega) (hk h2)
  ·exact Ev.pos (by unfold z at h2;omega) (Ev.eq (Ev.now _) (hb h2).symm)
 have hg:=hi4_ge (zk w C t 0) (zk w C t 1) (zk w C t 2) (zk w C t 3)
 have big : ∀ k,¬ zk w C t k ≤ 2 → (k = 0 ∨ k = 1 ∨ k = 2 ∨ k = 3) → sea w C t = false:=by
  intro k h1 h2
  unfold sea top
  rw [decide_eq_false]
  rcases h2 with rfl | rfl | rfl | rfl <;> omega
 refine one 0 (co w t) _ (by decide) rfl (by omega) (fun hb => big 0 hb (by simp)) fun h0 => ?_
 refine one 1 (co w t + 1) _ (by decide) rfl (by omega) (fun hb => big 1 hb (by simp)) fun h1 => ?_
 refine one 2 (co w t + w + 2) _ (by decide) rfl (by omega) (fun hb => big 2 hb (by simp)) fun h2 => ?_
 refine one 3 (co w t + w + 1) _ (by decide) rfl (by omega) (fun hb => big 3 hb (by simp)) fun h3 => ?_
 refine Ev.step (fun k => by simp only [hinterlandref02_Sea.l0];rfl) (Ev.neg (by decide) (Ev.eq (Ev.now _) ?_))
 have h0' : zk w C t 0 ≤ 2:=h0
 have h1' : zk w C t 1 ≤ 2:=h1
 have h2' : zk w C t 2 ≤ 2:=h2
 have h3' : zk w C t 3 ≤ 2:=h3
 unfold sea top
 rw [decide_eq_true]
 omega
theorem face_ev (L : Land w h C) {t : Nat} (ht : t < w * h) : Ev (fun k => hinterlandref02_Face.f k (w : Int) (h : Int) C (t : Int)) (slope w C t, base w C t) := by
 have hc:=co_lt L ht
 unfold hinterlandref02_Face.f
 refine Ev.bindc (places_eq L ht) (Ev.pos (by show (0 : Int) ≤ ((co w t : Nat) : Int);omega) (Ev.pos (by show ((co w t : Nat) : Int) < (C.length : Int);omega) ?_))
 obtain ⟨q,hq⟩ : ∃ q,q = (⟨((co w t : Nat) : Int),((co w t + 1 : Nat) : Int),((co w t + w + 2 : Nat) : Int),((co w t + w + 1 : Nat) : Int)⟩ : S71):=⟨_,rfl⟩
 have one : ∀ (i : Int) (n : Nat) (a b : Int) (r : Int × Int),0 ≤ i ∧ i < 4 → ix71 q i = (n : Int) → n < C.length →
   Ev (fun k => hinterlandref02_Face.l0 k (mn a (z C n)) (mx b (z C n)) q (i + 1) (w : Int) (h : Int) C ((co w t : Nat) : Int) ((co w t + 1 : Nat) : Int) ((co w t + w + 2 : Nat) : Int) ((co w t + w + 1 : Nat) : Int)) r → Ev (fun k => hinterlandref02_Face.l0 k a b q i (w : Int) (h : Int) C ((co w t : Nat) : Int) ((co w t + 1 : Nat) : Int) ((co w t + w + 2 : Nat) : Int) ((co w t + w + 1 : Nat) : Int)) r:=by
  intro i n a b r hi hn hl hk
  refine Ev.step (fun k => by simp only [hinterlandref02_Face.l0];rfl) ?_
  rw [hn,rdN,wrap_in (x:=i + 1) (by omega) (by omega)]
  exact Ev.pos hi.2 (Ev.pos hi.1 (Ev.pos (by omega) (Ev.pos (by omega) hk)))
 have two : ∀ (i : Int) (n : Nat) (a b s v : Int) (r : Int × Int),0 ≤ i ∧ i < 4 → ix71 q i = (n : Int) → n < C.length → 0 ≤ s ∧ s ≤ 100 → 0 ≤ v ∧ v ≤ 100 →
   Ev (fun k => hinterlandref02_Face.l1 k a b (s + bit (decide (z C n > a)) v) (v * 2) q (i + 1) (w : Int) (h : Int) C) r → Ev (fun k => hinterlandref02_Face.l1 k a b s v q i (w : Int) (h : Int) C) r:=by
  intro i n a b s v r hi hn hl hs hv hk
  refine Ev.step (fun k => by simp only [hinterlandref02_Face.l1];rfl) ?_
  rw [hn,rdN,wrap_in (x:=i + 1) (by omega) (by omega),wrap_in (x:=s + v) (by omega) (by omega),wrap_in (x:=v * 2) (by omega) (by omega)]
  refine Ev.pos hi.2 (Ev.pos hi.1 (Ev.pos (by omega) (Ev.pos (by omega) ?_)))
  by_cases hz : C.getD n 0 > a
  ·refine Ev.pos hz ?_
   rw [show bit (decide (z C n > a)) v = v by unfold z;rw [decide_eq_true hz];rfl] at hk
   exact hk
  ·refine Ev.neg hz ?_
   rw [show bit (decide (z C n > a)) v = 0 by unfold z;rw [decide_eq_false hz];rfl,Int.add_zero] at hk
   exact hk
 rw [rdN]
 change Ev (fun k => hinterlandref02_Face.l0 k (zk w C t 0) (zk w C t 0) (⟨((co w t : Nat) : Int),((co w t + 1 : Nat) : Int),((co w t + w + 2 : Nat) : Int),((co w t + w + 1 : Nat) : Int)⟩ : S71) 0 (w : Int) (h : Int) C ((co w t : Nat) : Int) ((co w t + 1 : Nat) : Int) ((co w t + w + 2 : Nat) : Int) ((co w t + w + 1 : Nat) : Int)) _
 rw [← hq]
 refine one 0 (co w t) _ _ _ (by decide) (by rw [hq];rfl) (by omega) ?_
 refine one 1 (co w t + 1) _ _ _ (by decide) (by rw [hq];rfl) (by omega) ?_
 refine one 2 (co w t + w + 2) _ _ _ (by decide) (by rw [hq];rfl) (by omega) ?_
 refine one 3 (co w t + w + 1) _ _ _ (by decide) (by rw [hq];rfl) (by omega) ?_
 have m0 : ∀ a : Int,mn a a = a:=fun a => by unfold mn;split <;> rfl
 have m1 : ∀ a : Int,mx a a = a:=fun a => by unfold mx;split <;> rfl
 change Ev (fun k => hinterlandref02_Face.l0 k (mn (mn (mn (mn (zk w C t 0) (zk w C t 0)) (zk w C t 1)) (zk w C t 2)) (zk w C t 3)) (mx (mx (mx (mx (zk w C t 0) (zk w C t 0)) (zk w C t 1)) (zk w C t 2)) (zk w C t 3)) q 4 (w : Int) (h : Int) C ((co w t : Nat) : Int) ((co w t + 1 : Nat) : Int) ((co w t + w + 2 : Nat) : Int) ((co w t + w + 1 : Nat) : Int)) _
 rw [m0,m1]
 change Ev (fun k => hinterlandref02_Face.l0 k (base w C t) (top w C t) q 4 (w : Int) (h : Int) C ((co w t : Nat) : Int) ((co w t + 1 : Nat) : Int) ((co w t + w + 2 : Nat) : Int) ((co w t + w + 1 : Nat) : Int)) _
 refine Ev.step (fun k => by simp only [hinterlandref02_Face.l0];rfl) (Ev.neg (by decide) ?_)
 rw [← hq]
 have B1:=bit_le (decide (z C (co w t) > base w C t)) 1 (by decide)
 have B2:=bit_le (decide (z C (co w t + 1) > base w C t)) (1 * 2) (by decide)
 have B3:=bit_le (decide (z C (co w t + w + 2) > base w C t)) (1 * 2 * 2) (by decide)
 have B4:=bit_le (decide (z C (co w t + w + 1) > base w C t)) (1 * 2 * 2 * 2) (by decide)
 refine two 0 (co w t) _ _ _ _ _ (by decide) (by rw [hq];rfl) (by omega) (by decide) (by decide) ?_
 refine two 1 (co w t + 1) _ _ _ _ _ (by decide) (by rw [hq];rfl) (by omega) (by omega) (by decide) ?_
 refine two 2 (co w t + w + 2) _ _ _ _ _ (by decide) (by rw [hq];rfl) (by omega) (by omega) (by decide) ?_
 refine two 3 (co w t + w + 1) _ _ _ _ _ (by decide) (by rw [hq];rfl) (by omega) (by omega) (by decide) ?_
 obtain ⟨t1,t2,t3⟩:=top_in L ht
 have b:=base_in L ht
 have zz : ∀ k,0 ≤ zk w C t k ∧ zk w C t k ≤ 15:=zk_in L ht
 have hz:=fun k => zz k
 have lo:=lo4_le (zk w C t 0) (zk w C t 1) (zk w C t 2) (zk w C t 3)
 have hi:=hi4_ge (zk w C t 0) (zk w C t 1) (zk w C t 2) (zk w C t 3)
 have e : (decide (zk w C t 0 > base w C t + 1) || decide (zk w C t 1 > base w C t + 1) || decide (zk w C t 2 > base w C t + 1) || decide (zk w C t 3 > base w C t + 1)) = decide (top w C t - base w C t = 2):=by
  have : (decide (zk w C t 0 > base w C t + 1) || decide (zk w C t 1 > base w C t + 1) || decide (zk w C t 2 > base w C t + 1) || decide (zk w C t 3 > base w C t + 1)) = decide (zk w C t 0 > base w C t + 1 ∨ zk w C t 1 > base w C t + 1 ∨ zk w C t 2 > base w C t + 1 ∨ zk w C t 3 > base w C t + 1):=by
   simp [Bool.or_assoc]
  rw [this]
  apply decide_eq_decide.2
  unfold top base at *
  omega
 refine Ev.step (fun k => by simp only [hinterlandref02_Face.l1];rfl) (Ev.neg (by decide) ?_)
 have sl : slope w C t = 0 + bit (decide (z C (co w t) > base w C t)) 1 + bit (decide (z C (co w t + 1) > base w C t)) (1 * 2) + bit (decide (z C (co w t + w + 2) > base w C t)) (1 * 2 * 2) + bit (decide (z C (co w t + w + 1) > base w C t)) (1 * 2 * 2 * 2) + bit (decide (top w C t - base w C t = 2)) 16:=by
  unfold slope
  rw [slp_eq,e,Int.zero_add]
  rfl
 rw [wrap_in (x:=top w C t - base w C t) (by omega) (by omega)]
 by_cases hd : top w C t - base w C t = 2
 ·refine Ev.pos hd (Ev.eq (Ev.now _) ?_)
  rw [show bit (decide (top w C t - base w C t = 2)) 16 = 16 by simp [bit,hd]] at sl
  rw [sl,wrap_in (by omega) (by omega)]
 ·refine Ev.neg hd (Ev.eq (Ev.now _) ?_)
  rw [show bit (decide (top w C t - base w C t = 2)) 16 = 0 by simp [bit,hd],Int.add_zero] at sl
  rw [sl]
theorem lies_ev (L : Land w h C) {t : Nat} (ht : t < w * h) (k0 : Int) : Ev (fun k => hinterlandref06_lies.f k (w : Int) (h : Int) C (t : Int) k0) (lie (sea w C t) (slope w C t) k0) := by
 unfold hinterlandref06_lies.f
 refine Ev.bind (face_ev L ht) (Ev.bind (sea_ev L ht) ?_)
 by_cases h1 : k0 = 1
 ·refine Ev.pos h1 (Ev.step (fun k => by simp only [hinterlandref06_lies.j0];rfl) (Ev.pos (by simp [h1]) ?_))
  cases he : sea w C t with
  | true => exact Ev.pos rfl (Ev.eq (Ev.now _) (by simp [lie,h1]))
  | false =>
   refine Ev.neg (by simp) (Ev.pos h1 ?_)
   by_cases hs : slope w C t = 0
   ·exact Ev.pos hs (Ev.neg (by omega) (Ev.eq (Ev.now _) (by simp [lie,h1,hs])))
   ·exact Ev.neg hs (Ev.eq (Ev.now _) (by simp [lie,h1,hs]))
 ·refine Ev.neg h1 (Ev.step (fun k => by simp only [hinterlandref06_lies.j0];rfl) ?_)
  by_cases h2 : k0 = 2
  ·refine Ev.pos (by simp [h2]) ?_
   cases he : sea w C t with
   | true => exact Ev.pos rfl (Ev.eq (Ev.now _) (by simp [lie,h2]))
   | false =>
    refine Ev.neg (by simp) (Ev.neg h1 (Ev.pos h2 (Ev.bindc (upper_eq _) ?_)))
    by_cases hi : inc (slope w C t)
    ·refine Ev.neg ?_ (Ev.eq (Ev.now _) (by simp [lie,h2,hi]))
     unfold inc at hi
     rcases hi with e | e | e | e <;> rw [e] <;> decide
    ·refine Ev.pos ?_ (Ev.eq (Ev.now _) (by simp [lie,h2,hi]))
     unfold inc at hi
     rw [if_neg (by omega),if_neg (by omega),if_neg (by omega),if_neg (by omega)];decide
  ·refine Ev.neg (by simp [h2]) ?_
   by_cases h3 : k0 = 3
   ·refine Ev.pos h3 ?_
    cases he : sea w C t with
    | true => exact Ev.pos rfl (Ev.eq (Ev.now _) (by simp [lie,h3]))
    | false =>
     refine Ev.neg (by simp) ?_
     by_cases hs : slope w C t = 0
     ·exact Ev.pos hs (Ev.eq (Ev.now _) (by simp [lie,h3,hs]))
     ·exact Ev.neg hs (Ev.eq (Ev.now _) (by simp [lie,h3,hs]))
   ·exact Ev.neg h3 (Ev.eq (Ev.now _) (by simp [lie,h1,h2,h3]))
end
end Go.Proofs.Ytiencnnkphipoaa.Pure
