/- What the functions of layer 6 (waters) come to, in plain words: which tiles are joined. No conditions. -/
import Derived.Test.YtiencnnkphipoaaPx0
import Derived.Test.YtiencnnkphipoaaPx5
import Derived.Test.YtiencnnkphipoaaPx6
import Derived.Test.YtiencnnkphipoaaWater3
namespace Go.Proofs.Ytiencnnkphipoaa.Pure
set_option linter.unusedVariables false
set_option linter.unusedSimpArgs false
open Go.RowKit Go.Proofs.YtiencnnkphipoaaW.PrintWords Go.Proofs.YtiencnnkphipoaaW.PrintMore Go.Proofs.Ytiencnnkphipoaa.P Go.Proofs.Ytiencnnkphipoaa

def bey (w h t : Nat) (s : Int) : Int :=
 if s = 0 then (if t % w + 1 < w then ((t + 1 : Nat) : Int) else -1)
 else if s = 1 then (if t / w + 1 < h then ((t + w : Nat) : Int) else -1)
 else if s = 2 then (if 0 < t % w then ((t - 1 : Nat) : Int) else -1)
 else (if 0 < t / w then ((t - w : Nat) : Int) else -1)
def level (w : Nat) (C : List Int) (t : Nat) : Int := if sea w C t then 2 else base w C t
def upp (s : Int) : Int := if s = 6 then 0 else if s = 12 then 1 else if s = 9 then 2 else 3
def thru (w : Nat) (C : List Int) (t : Nat) (s l : Int) : Bool := if s = upp (slope w C t) then l == level w C t + 1 else if s = Int.tmod (upp (slope w C t) + 2) 4 then l == level w C t else false
def join (w h : Nat) (C K : List Int) (t : Nat) (s : Int) : Bool :=
 if bey w h t s < 0 then false else if wet w C K t = true then (if wet w C K (bey w h t s).toNat = true then
  (if K.getD t 0 = 2 then (if K.getD (bey w h t s).toNat 0 = 2 then false else thru w C t s (level w C (bey w h t s).toNat))
   else if K.getD (bey w h t s).toNat 0 = 2 then thru w C (bey w h t s).toNat (Int.tmod (s + 2) 4) (level w C t) else level w C t == level w C (bey w h t s).toNat)
  else false) else false
theorem upp_in (s : Int) : 0 ≤ upp s ∧ upp s ≤ 3 := by
 unfold upp
 repeat' split
 all_goals decide
section
variable {w h : Nat} {C K B : List Int}
theorem bey_lt {t : Nat} (ht : t < w * h) (s : Int) : bey w h t s < ((w * h : Nat) : Int) ∧ -1 ≤ bey w h t s := by
 obtain ⟨h1,h2,h3⟩:=tile ht
 have e : (t / w + 1) * w = t / w * w + w:=Nat.succ_mul _ _
 have down : t / w + 1 < h → t + w < w * h:=by
  intro q
  have h4:=Nat.mul_le_mul_right w (show t / w + 1 + 1 ≤ h by omega)
  rw [Nat.succ_mul,e,Nat.mul_comm h w] at h4
  omega
 have left : t % w + 1 < w → t + 1 < w * h:=by
  intro q
  have h4:=Nat.mul_le_mul_right w (show t / w + 1 ≤ h by omega)
  rw [e,Nat.mul_comm h w] at h4
  omega
 unfold bey
 by_cases s0 : s = 0
 ·rw [if_pos s0]
  by_cases q : t % w + 1 < w
  ·have:=left q;rw [if_pos q];omega
  ·rw [if_neg q];omega
 rw [if_neg s0]
 by_cases s1 : s = 1
 ·rw [if_pos s1]
  by_cases q : t / w + 1 < h
  ·have:=down q;rw [if_pos q];omega
  ·rw [if_neg q];omega
 rw [if_neg s1]
 by_cases s2 : s = 2
 ·rw [if_pos s2]
  split <;> omega
 rw [if_neg s2]
 split <;> omega
theorem beyond_ev (L : Land w h C) {t : Nat} (ht : t < w * h) {s : Int} (hs : 0 ≤ s ∧ s ≤ 3) (S Bb : List Int) (E : List Bool) : Ev (fun k => water_ground_beyond.f k (w : Int) (h : Int) S Bb E (t : Int) s) (bey w h t s) := by
 obtain ⟨h1,h2,h3⟩:=tile ht
 have:=L.w0
 have:=L.w1
 have:=L.h1
 have e1 : Int.tdiv (t : Int) (w : Int) = ((t / w : Nat) : Int):=rfl
 have e2 : Int.tmod (t : Int) (w : Int) = ((t % w : Nat) : Int):=rfl
 unfold water_ground_beyond.f bey
 rw [e1,e2]
 clear e1 e2
 have hb : t / w * w ≤ 32 * 32:=mulle (by omega) (by omega)
 generalize t / w = y at h1 h3 hb ⊢
 generalize t % w = x at h2 h3 ⊢
 have j : ∀ (a b : Int),-1 ≤ a ∧ a ≤ 40 → -1 ≤ b ∧ b ≤ 40 → Ev (fun k => water_ground_beyond.j0 k a b (w : Int) (h : Int) S Bb E) (if 0 ≤ a ∧ a < (w : Int) ∧ 0 ≤ b ∧ b < (h : Int) then b * (w : Int) + a else -1):=by
  intro a b ha hb
  have j1 : ∀ q : Bool,Ev (fun k => water_ground_beyond.j1 k a b q (w : Int) (h : Int) S Bb E) (if q = true then -1 else wrap64 (wrap64 (b * (w : Int)) + a)):=fun q => Ev.step (fun k => by simp only [water_ground_beyond.j1] <;> rfl) (Ev.both (fun _ => Ev.now _) (fun _ => Ev.now _))
  refine Ev.step (fun k => by simp only [water_ground_beyond.j0];rfl) ?_
  by_cases q1 : a < 0
  ·exact Ev.pos q1 (Ev.eq (j1 true) (by rw [if_pos rfl,if_neg (by omega)]))
  refine Ev.neg q1 ?_
  by_cases q2 : a ≥ (w : Int)
  ·exact Ev.pos q2 (Ev.eq (j1 true) (by rw [if_pos rfl,if_neg (by omega)]))
  refine Ev.neg q2 ?_
  by_cases q3 : b < 0
  ·exact Ev.pos q3 (Ev.eq (j1 true) (by rw [if_pos rfl,if_neg (by omega)]))
  refine Ev.neg q3 (Ev.eq (j1 _) ?_)
  by_cases q4 : b ≥ (h : Int)
  ·rw [if_pos (decide_eq_true q4),if_neg (by omega)]
  ·rw [if_neg (by simp only [decide_eq_true_eq];omega),if_pos (by omega)]
   have : b * (w : Int) ≤ 40 * 40:=Int.mul_le_mul (by omega) (by omega) (by omega) (by omega)
   have h0 : 0 ≤ b * (w : Int):=Int.mul_nonneg (by omega) (by omega)
   rw [wrap_in (x:=b * (w : Int)) (by omega) (by omega),wrap_in (by omega) (by omega)]
 refine Ev.neg (by omega) ?_
 rw [wrap_in (x:=(y : Int)) (by omega) (by omega),wrap_in (x:=(x : Int) + 1) (by omega) (by omega),wrap_in (x:=(y : Int) + 1) (by omega) (by omega),wrap_in (x:=(x : Int) - 1) (by omega) (by omega),wrap_in (x:=(y : Int) - 1) (by omega) (by omega)]
 have my : ((y * w : Nat) : Int) = (y : Int) * (w : Int):=by push_cast;rfl
 by_cases s0 : s = 0
 ·rw [if_pos s0]
  refine Ev.pos s0 (Ev.eq (j _ _ (by omega) (by omega)) ?_)
  by_cases q : x + 1 < w
  ·rw [if_pos q,if_pos (by omega),← my];omega
  ·rw [if_neg q,if_neg (by omega)]
 rw [if_neg s0]
 refine Ev.neg s0 ?_
 by_cases s1 : s = 1
 ·rw [if_pos s1]
  refine Ev.pos s1 (Ev.eq (j _ _ (by omega) (by omega)) ?_)
  by_cases q : y + 1 < h
  ·rw [if_pos q,if_pos (by omega),Int.add_mul,← my];omega
  ·rw [if_neg q,if_neg (by omega)]
 rw [if_neg s1]
 refine Ev.neg s1 ?_
 by_cases s2 : s = 2
 ·rw [if_pos s2]
  refine Ev.pos s2 (Ev.eq (j _ _ (by omega) (by omega)) ?_)
  by_cases q : 0 < x
  ·rw [if_pos q,if_pos (by omega),← my];omega
  ·rw [if_neg q,if_neg (by omega)]
 rw [if_neg s2]
 refine Ev.neg s2 (Ev.eq (j _ _ (by omega) (by omega)) ?_)
 by_cases q : 0 < y
 ·have hy : w ≤ y * w:=by have:=Nat.mul_le_mul_right w (show 1 ≤ y by omega);rw [Nat.one_mul] at this;exact this
  rw [if_pos q,if_pos (by omega),Int.sub_mul,← my];omega
 ·rw [if_neg q,if_neg (by omega)]
theorem bey_back {t : Nat} (ht : t < w * h) {s : Int} (hs : 0 ≤ s ∧ s ≤ 3) (hb : 0 ≤ bey w h t s) : bey w h (bey w h t s).toNat (Int.tmod (s + 2) 4) = (t : Int) := by
 obtain ⟨h1,h2,h3⟩:=tile ht
 have hw : 0 < w:=by omega
 have nx : ∀ y x : Nat,x < w → (y * w + x) / w = y ∧ (y * w + x) % w = x:=by
  intro y x hx
  rw [Nat.mul_comm,Nat.mul_add_div hw,Nat.mul_add_mod,Nat.div_eq_of_lt hx,Nat.mod_eq_of_lt hx]
  exact ⟨by omega,rfl⟩
 generalize hy : t / w = y at h1 h3
 generalize hx : t % w = x at h2 h3
 have hyw : 0 < y → w ≤ y * w:=fun q => by have:=Nat.mul_le_mul_right w (show 1 ≤ y by omega);rw [Nat.one_mul] at this;exact this
 rcases (by omega : s = 0 ∨ s = 1 ∨ s = 2 ∨ s = 3) with rfl | rfl | rfl | rfl
 ·unfold bey at hb ⊢
  rw [hx] at hb ⊢
  by_cases q : x + 1 < w
  ·have e:=nx y (x + 1) q
   rw [← Nat.add_assoc,h3] at e
   simp [q,e.1,e.2]
  ·simp [q] at hb
 ·unfold bey at hb
  rw [hy] at hb
  by_cases q : y + 1 < h
  ·have e:=nx (y + 1) x h2
   rw [Nat.succ_mul,show y * w + w + x = t + w by omega] at e
   clear hb
   have hbv : bey w h t 1 = ((t + w : Nat) : Int):=by unfold bey;rw [if_neg (by decide),if_pos rfl,hy,if_pos q]
   change bey w h (bey w h t 1).toNat 3 = _
   rw [hbv,Int.toNat_natCast]
   unfold bey
   rw [if_neg (by decide),if_neg (by decide),if_neg (by decide),e.1,if_pos (by omega)]
   omega
  ·simp [q] at hb
 ·unfold bey at hb ⊢
  rw [hx] at hb ⊢
  by_cases q : 0 < x
  ·have e:=nx y (x - 1) (by omega)
   rw [show y * w + (x - 1) = t - 1 by omega] at e
   simp [q,e.1,e.2,show x - 1 + 1 < w by omega]
   omega
  ·simp [q] at hb
 ·unfold bey at hb ⊢
  rw [hy] at hb ⊢
  by_cases q : 0 < y
  ·have:=hyw q
   have e:=nx (y - 1) x h2
   rw [Nat.sub_mul,Nat.one_mul,show y * w - w + x = t - w by omega] at e
   simp [q,e.1,e.2,show y - 1 + 1 < h by omega]
   omega
  ·simp [q] at hb
theorem level_eq (L : Land w h C) {t : Nat} (ht : t < w * h) : water_ground_level.f (w : Int) (h : Int) (gS w h C) (gB w h C) (gE w h C) (t : Int) = some (level w C t) := by
 obtain ⟨l1,l2,l3⟩:=g_len (w:=w) (h:=h) (C:=C)
 unfold water_ground_level.f level
 rw [if_pos (by omega),if_pos (by omega),rdB,gE_at ht,rdN,gB_at ht]
 cases he : sea w C t with
 | true => simp
 | false => rw [if_neg (by simp),if_pos (by omega)];simp
theorem level_in (L : Land w h C) {t : Nat} (ht : t < w * h) : 0 ≤ level w C t ∧ level w C t ≤ 15 := by
 have:=base_in L ht
 unfold level
 split <;> omega
theorem upp_eq (s : Int) : water_upper.f s = some (upp s) := by
 unfold water_upper.f upp
 repeat' split
 all_goals rfl
theorem thru_eq (L : Land w h C) {t : Nat} (ht : t < w * h) (s l : Int) : water_ground_through.f (w : Int) (h : Int) (gS w h C) (gB w h C) (gE w h C) (t : Int) s l = some (thru w C t s l) := by
 obtain ⟨l1,l2,l3⟩:=g_len (w:=w) (h:=h) (C:=C)
 have hl:=level_in L ht
 have hu:=upp_in (slope w C t)
 unfold water_ground_through.f thru
 rw [if_pos (by omega),if_pos (by omega),rdN,gS_at ht,upp_eq]
 simp only [Option.bind_some,level_eq L ht]
 rw [wrap_in (x:=level w C t + 1) (by omega) (by omega),wrap_in (x:=upp (slope w C t) + 2) (by omega) (by omega)]
 by_cases q1 : s = upp (slope w C t)
 ·simp [q1]
 ·rw [if_neg q1,if_neg q1]
  by_cases q2 : s = Int.tmod (upp (slope w C t) + 2) 4
  ·simp [q2]
  ·simp [q2]
theorem join_no1 {t : Nat} {s : Int} (q : bey w h t s < 0) : join w h C K t s = false := by unfold join; rw [if_pos q]
theorem join_no2 {t : Nat} {s : Int} (w1 : ¬ wet w C K t = true) : join w h C K t s = false := by
 unfold join
 by_cases q : bey w h t s < 0
 ·rw [if_pos q]
 ·rw [if_neg q,if_neg w1]
theorem join_no3 {t b : Nat} {s : Int} (hb : bey w h t s = (b : Int)) (w2 : ¬ wet w C K b = true) : join w h C K t s = false := by
 unfold join
 rw [hb,if_neg (by omega),Int.toNat_natCast,if_neg w2]
 split <;> rfl
theorem join_yes {t b : Nat} {s : Int} (hb : bey w h t s = (b : Int)) (w1 : wet w C K t = true) (w2 : wet w C K b = true) : join w h C K t s = if K.getD t 0 = 2 then (if K.getD b 0 = 2 then false else thru w C t s (level w C b)) else if K.getD b 0 = 2 then thru w C b (Int.tmod (s + 2) 4) (level w C t) else level w C t == level w C b := by
 unfold join
 rw [hb,if_neg (by omega),Int.toNat_natCast,if_pos w1,if_pos w2]
theorem join_ev (U : Waters w h C K B) {t : Nat} (ht : t < w * h) {s : Int} (hs : 0 ≤ s ∧ s ≤ 3) : Ev (fun k => water_ground_joined.f k (w : Int) (h : Int) (gS w h C) (gB w h C) (gE w h C) K B (t : Int) s) (join w h C K t s) := by
 have L:=U.land
 have hK:=U.len
 unfold water_ground_joined.f
 refine Ev.bind (beyond_ev L ht hs _ _ _) ?_
 obtain ⟨b1,b2⟩:=bey_lt ht s
 by_cases q0 : bey w h t s < 0
 ·rw [join_no1 q0];exact Ev.pos q0 (Ev.now _)
 refine Ev.neg q0 ?_
 obtain ⟨b,hb⟩:=Int.eq_ofNat_of_zero_le (show 0 ≤ bey w h t s by omega)
 rw [hb]
 have hbl : b < w * h:=by omega
 refine Ev.bindc (wet_lt hK ht) ?_
 by_cases w1 : wet w C K t = true
 rotate_left
 ·rw [join_no2 w1];exact Ev.neg w1 (Ev.now _)
 refine Ev.pos w1 (Ev.bindc (wet_lt hK hbl) ?_)
 by_cases w2 : wet w C K b = true
 rotate_left
 ·rw [join_no3 hb w2];exact Ev.neg w2 (Ev.now _)
 rw [join_yes hb w1 w2]
 refine Ev.pos w2 (Ev.pos (by omega) (Ev.pos (by omega) (Ev.pos (by omega) (Ev.pos (by omega) ?_))))
 rw [rdN,rdN]
 by_cases k1 : K.getD t 0 = 2
 ·refine Ev.eq (Ev.pos k1 ?_) (if_pos k1).symm
  by_cases k2 : K.getD b 0 = 2
  ·exact Ev.eq (Ev.pos k2 (Ev.now _)) (if_pos k2).symm
  ·exact Ev.eq (Ev.neg k2 (Ev.bindc (level_eq L hbl) (Ev.bindc (thru_eq L ht _ _) (Ev.now _)))) (if_neg k2).symm
 ·refine Ev.eq (Ev.neg k1 ?_) (if_neg k1).symm
  by_cases k2 : K.getD b 0 = 2
  ·refine Ev.eq ?_ (if_pos k2).symm
   rw [wrap_in (x:=s + 2) (by omega) (by omega)]
   exact Ev.pos k2 (Ev.bindc (level_eq L ht) (Ev.bindc (thru_eq L hbl _ _) (Ev.now _)))
  ·exact Ev.eq (Ev.neg k2 (Ev.bindc (level_eq L ht) (Ev.bindc (level_eq L hbl) (Ev.now _)))) (if_neg k2).symm
theorem back2 {s : Int} (hs : 0 ≤ s ∧ s ≤ 3) : (0 ≤ Int.tmod (s + 2) 4 ∧ Int.tmod (s + 2) 4 ≤ 3) ∧ Int.tmod (Int.tmod (s + 2) 4 + 2) 4 = s := by
 rcases (by omega : s = 0 ∨ s = 1 ∨ s = 2 ∨ s = 3) with rfl | rfl | rfl | rfl <;> decide
theorem join_back {t : Nat} (ht : t < w * h) {s : Int} (hs : 0 ≤ s ∧ s ≤ 3) (hj : join w h C K t s = true) : 0 ≤ bey w h t s ∧ join w h C K (bey w h t s).toNat (Int.tmod (s + 2) 4) = true := by
 obtain ⟨b1,b2⟩:=bey_lt ht s
 unfold join at hj
 by_cases q0 : bey w h t s < 0
 ·rw [if_pos q0] at hj;cases hj
 refine ⟨by omega,?_⟩
 have hbk:=bey_back ht hs (by omega)
 rw [if_neg q0] at hj
 unfold join
 rw [hbk,if_neg (by omega),Int.toNat_natCast]
 by_cases w1 : wet w C K t = true
 rotate_left
 ·rw [if_neg w1] at hj;cases hj
 rw [if_pos w1] at hj ⊢
 by_cases w2 : wet w C K (bey w h t s).toNat = true
 rotate_left
 ·rw [if_neg w2] at hj;cases hj
 rw [if_pos w2] at hj ⊢
 rw [(back2 hs).2]
 by_cases k1 : K.getD t 0 = 2
 ·rw [if_pos k1] at hj
  by_cases k2 : K.getD (bey w h t s).toNat 0 = 2
  ·rw [if_pos k2] at hj;cases hj
  ·rw [if_neg k2] at hj;rw [if_neg k2,if_pos k1];exact hj
 ·rw [if_neg k1] at hj
  by_cases k2 : K.getD (bey w h t s).toNat 0 = 2
  ·rw [if_pos k2] at hj;rw [if_pos k2,if_neg k1];exact hj
  ·rw [if_neg k2] at hj;rw [if_neg k2,if_neg k1]
   have:=eq_of_beq hj
   rw [this];simp
end
open Classical in
noncomputable def acode (W H : Int) (C K B : List Int) (t : Int) : Int := if wcode W H C K B = 0 then (if 0 ≤ t ∧ t < W * H then 0 else 2) else wcode W H C K B
theorem acode_zero {W H : Int} {C K B : List Int} {t : Int} (e : acode W H C K B t = 0) : ∃ w h n : Nat, W = (w : Int) ∧ H = (h : Int) ∧ t = (n : Int) ∧ n < w * h ∧ Waters w h C K B := by
 unfold acode at e
 by_cases hw : wcode W H C K B = 0
 ·rw [if_pos hw] at e
  by_cases ht : 0 ≤ t ∧ t < W * H
  ·obtain ⟨w,h,rfl,rfl,U⟩:=waters_of hw
   obtain ⟨n,rfl⟩:=Int.eq_ofNat_of_zero_le ht.1
   exact ⟨w,h,n,rfl,rfl,rfl,by have:=ht.2;rw [← Int.natCast_mul] at this;omega,U⟩
  ·rw [if_neg ht] at e;exact absurd e (by decide)
 ·rw [if_neg hw] at e;exact absurd e hw
theorem of_acode {w h n : Nat} {C K B : List Int} (U : Waters w h C K B) (hn : n < w * h) : acode (w : Int) (h : Int) C K B (n : Int) = 0 := by
 unfold acode
 rw [if_pos (of_waters U),if_pos (by rw [← Int.natCast_mul];omega)]
open Classical in
theorem at_ev {W H : Int} {C K B : List Int} {t : Int} (hC : C.length ≤ 4000) (hB : B.length ≤ 4000) : Ev (fun k => water_at.f k W H C K B t) (if lcode W H C = 0 then gr W.toNat H.toNat C (acode W H C K B t) else (0, 0, [], [], [], acode W H C K B t)) := by
 unfold water_at.f
 refine Ev.bind (check_ev hC hB) ?_
 have j : ∀ (e : Int) (q : Bool) a b c d f,Ev (fun k => water_at.j0 k e q a b c d f) (a,b,c,d,f,if q = true then 2 else e):=by
  intro e q a b c d f
  refine Ev.step (fun k => by simp only [water_at.j0];rfl) ?_
  by_cases hq : q = true
  ·simp only [if_pos hq];exact Ev.now _
  ·simp only [if_neg hq];exact Ev.now _
 by_cases e : lcode W H C = 0
 ·simp only [if_pos e]
  by_cases hw : wcode W H C K B = 0
  ·have hw':=hw
   obtain ⟨w,h,rfl,rfl,U⟩:=waters_of hw
   have hwh : w * h ≤ 32 * 32:=mulle U.land.w1 U.land.h1
   refine Ev.pos hw' ?_
   have ee : wrap64 ((w : Int) * (h : Int)) = ((w * h : Nat) : Int):=by rw [← Int.natCast_mul,wrap_in (by omega) (by omega)]
   have ac : acode (w : Int) (h : Int) C K B t = if 0 ≤ t ∧ t < ((w * h : Nat) : Int) then 0 else 2:=by unfold acode;rw [if_pos hw',← Int.natCast_mul]
   rw [ac,ee]
   by_cases t0 : t < 0
   ·refine Ev.pos t0 (Ev.eq (j _ _ _ _ _ _ _) ?_)
    rw [if_pos rfl,if_neg (by omega)];rfl
   ·refine Ev.neg t0 (Ev.eq (j _ _ _ _ _ _ _) ?_)
    by_cases t1 : t ≥ ((w * h : Nat) : Int)
    ·rw [if_pos (decide_eq_true t1),if_neg (by omega)];rfl
    ·rw [if_neg (by simp only [decide_eq_true_eq];omega),if_pos (by omega)]
     unfold gr
     rw [hw']
  ·have ac : acode W H C K B t = wcode W H C K B:=by unfold acode;rw [if_neg hw]
   rw [ac]
   exact Ev.neg hw (Ev.eq (j _ _ _ _ _ _ _) rfl)
 ·simp only [if_neg e]
  have hw : wcode W H C K B ≠ 0:=by unfold wcode;rw [if_neg e];exact e
  have ac : acode W H C K B t = wcode W H C K B:=by unfold acode;rw [if_neg hw]
  rw [ac]
  exact Ev.neg hw (Ev.eq (j _ _ _ _ _ _ _) rfl)
noncomputable def joinedR (W H : Int) (C K B : List Int) (t s : Int) : Bool × Int := if acode W H C K B t = 0 then (if 0 ≤ s ∧ s ≤ 3 then (join W.toNat H.toNat C K t.toNat s, 0) else (false, 1)) else (false, acode W H C K B t)
theorem joined_ev {W H : Int} {C K B : List Int} {t s : Int} (hC : C.length ≤ 4000) (hB : B.length ≤ 4000) : Ev (fun k => water_Joined.f k W H C K B t s) (joinedR W H C K B t s) := by
 unfold water_Joined.f joinedR
 refine Ev.bind (at_ev hC hB) ?_
 by_cases e : acode W H C K B t = 0
 ·have e':=e
  obtain ⟨w,h,n,rfl,rfl,rfl,hn,U⟩:=acode_zero e
  rw [if_pos e']
  simp only [if_pos (of_land U.land),Int.toNat_natCast]
  refine Ev.pos e' ?_
  by_cases s0 : s < 0
  ·rw [if_neg (by omega)];exact Ev.pos s0 (Ev.now _)
  refine Ev.neg s0 ?_
  by_cases s1 : s > 3
  ·rw [if_neg (by omega)];exact Ev.pos s1 (Ev.now _)
  rw [if_pos (by omega)]
  exact Ev.neg s1 (Ev.bind (join_ev U hn (by omega)) (Ev.now _))
 ·rw [if_neg e]
  by_cases l : lcode W H C = 0
  ·simp only [if_pos l];exact Ev.neg e (Ev.now _)
  ·simp only [if_neg l];exact Ev.neg e (Ev.now _)
end Go.Proofs.Ytiencnnkphipoaa.Pure
