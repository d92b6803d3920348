/- What the functions of layer 6 (waters) come to, in plain words: the slope, the base and the sea of each tile of a right land. No conditions. -/
import Derived.Test.YtiencnnkphipoaaPx0
import Derived.Test.YtiencnnkphipoaaPx3
import Derived.Test.YtiencnnkphipoaaWater0
namespace Go.Proofs.Ytiencnnkphipoaa.Pure
set_option linter.unusedVariables false
set_option linter.unusedSimpArgs false
open Go.RowKit Go.Proofs.YtiencnnkphipoaaW.PrintWords Go.Proofs.YtiencnnkphipoaaW.PrintMore Go.Proofs.Ytiencnnkphipoaa.P Go.Proofs.Ytiencnnkphipoaa

def co (w t : Nat) : Nat := t / w * (w + 1) + t % w
def lo4 (a b c d : Int) : Int := mn (mn (mn a b) c) d
def hi4 (a b c d : Int) : Int := mx (mx (mx a b) c) d
def stp (s a x i : Int) : Int := if x > a then (if x > a + 1 then Go.bits .or .i64 (Go.bits .or .i64 s (shl .i64 1 i)) 16 else Go.bits .or .i64 s (shl .i64 1 i)) else (if x > a + 1 then Go.bits .or .i64 s 16 else s)
def slp (a z0 z1 z2 z3 : Int) : Int := stp (stp (stp (stp 0 a z0 0) a z1 1) a z2 2) a z3 3
def bit (b : Bool) (v : Int) : Int := if b then v else 0
def stB (s : Int) (b d : Bool) (i : Int) : Int := if b then (if d then Go.bits .or .i64 (Go.bits .or .i64 s (shl .i64 1 i)) 16 else Go.bits .or .i64 s (shl .i64 1 i)) else (if d then Go.bits .or .i64 s 16 else s)
theorem stp_B (s a x i : Int) : stp s a x i = stB s (decide (x > a)) (decide (x > a + 1)) i := by
 unfold stp stB
 by_cases h1 : x > a <;> by_cases h2 : x > a + 1 <;> simp [h1,h2]
theorem slB : ∀ b0 d0 b1 d1 b2 d2 b3 d3 : Bool, stB (stB (stB (stB 0 b0 d0 0) b1 d1 1) b2 d2 2) b3 d3 3 = bit b0 1 + bit b1 2 + bit b2 4 + bit b3 8 + bit (d0 || d1 || d2 || d3) 16 := by decide +kernel
theorem slp_eq (a z0 z1 z2 z3 : Int) : slp a z0 z1 z2 z3 = bit (decide (z0 > a)) 1 + bit (decide (z1 > a)) 2 + bit (decide (z2 > a)) 4 + bit (decide (z3 > a)) 8 + bit (decide (z0 > a + 1) || decide (z1 > a + 1) || decide (z2 > a + 1) || decide (z3 > a + 1)) 16 := by
 unfold slp
 rw [stp_B,stp_B,stp_B,stp_B,slB]
theorem bit_le (b : Bool) (v : Int) (h : 0 ≤ v) : 0 ≤ bit b v ∧ bit b v ≤ v := by cases b <;> simp [bit] <;> omega
theorem lo4_le (a b c d : Int) : lo4 a b c d ≤ a ∧ lo4 a b c d ≤ b ∧ lo4 a b c d ≤ c ∧ lo4 a b c d ≤ d ∧ (lo4 a b c d = a ∨ lo4 a b c d = b ∨ lo4 a b c d = c ∨ lo4 a b c d = d) := by
 unfold lo4 mn;repeat' split
 all_goals omega
theorem hi4_ge (a b c d : Int) : a ≤ hi4 a b c d ∧ b ≤ hi4 a b c d ∧ c ≤ hi4 a b c d ∧ d ≤ hi4 a b c d ∧ (hi4 a b c d = a ∨ hi4 a b c d = b ∨ hi4 a b c d = c ∨ hi4 a b c d = d) := by
 unfold hi4 mx;repeat' split
 all_goals omega

section
variable (w : Nat) (C : List Int) (t : Nat)
def zk (k : Nat) : Int := match k with | 0 => z C (co w t) | 1 => z C (co w t + 1) | 2 => z C (co w t + w + 2) | _ => z C (co w t + w + 1)
def base (w : Nat) (C : List Int) (t : Nat) : Int := lo4 (zk w C t 0) (zk w C t 1) (zk w C t 2) (zk w C t 3)
def top (w : Nat) (C : List Int) (t : Nat) : Int := hi4 (zk w C t 0) (zk w C t 1) (zk w C t 2) (zk w C t 3)
def slope (w : Nat) (C : List Int) (t : Nat) : Int := slp (base w C t) (zk w C t 0) (zk w C t 1) (zk w C t 2) (zk w C t 3)
def sea (w : Nat) (C : List Int) (t : Nat) : Bool := decide (top w C t ≤ 2)
end

structure Land (w h : Nat) (C : List Int) : Prop where
 w0 : 4 ≤ w
 w1 : w ≤ 32
 h0 : 4 ≤ h
 h1 : h ≤ 32
 len : C.length = (w + 1) * (h + 1)
 zs : Zs C
 flat : Flat C w h
theorem land_of {W H : Int} {C : List Int} (e : lcode W H C = 0) : ∃ w h : Nat, W = (w : Int) ∧ H = (h : Int) ∧ Land w h C := by
 obtain ⟨⟨hW,hH,hl⟩,hz,hf⟩:=lcode_zero.1 e
 obtain ⟨w,rfl⟩:=Int.eq_ofNat_of_zero_le (show 0 ≤ W by omega)
 obtain ⟨h,rfl⟩:=Int.eq_ofNat_of_zero_le (show 0 ≤ H by omega)
 exact ⟨w,h,rfl,rfl,by omega,by omega,by omega,by omega,area_nat hl,hz,by simpa using hf⟩
theorem of_land {w h : Nat} {C : List Int} (L : Land w h C) : lcode (w : Int) (h : Int) C = 0 := by
 have:=L.w0
 have:=L.w1
 have:=L.h0
 have:=L.h1
 exact lcode_zero.2 ⟨⟨⟨by omega,by omega⟩,⟨by omega,by omega⟩,by rw [L.len];push_cast;rfl⟩,L.zs,by simpa using L.flat⟩

section
variable {w h : Nat} {C : List Int}
theorem tile {t : Nat} (ht : t < w * h) : t / w < h ∧ t % w < w ∧ t / w * w + t % w = t := by
 have hw : 0 < w:=by
  rcases Nat.eq_zero_or_pos w with rfl | hp
  ·simp at ht
  ·exact hp
 exact ⟨by rw [Nat.div_lt_iff_lt_mul hw,Nat.mul_comm];exact ht,Nat.mod_lt _ hw,by rw [Nat.mul_comm];exact Nat.div_add_mod t w⟩
theorem co_lt (L : Land w h C) {t : Nat} (ht : t < w * h) : co w t + w + 2 < C.length ∧ co w t + w + 2 ≤ 2000 := by
 obtain ⟨h1,h2,_⟩:=tile ht
 have:=L.w1
 have:=L.h1
 have e : (w + 1) * (h + 1) = h * (w + 1) + (w + 1):=by rw [Nat.mul_comm,Nat.succ_mul]
 have h3:=Nat.mul_le_mul_right (w + 1) (show t / w + 1 ≤ h by omega)
 rw [Nat.succ_mul] at h3
 have h4 : h * (w + 1) ≤ 32 * 33:=mulle L.h1 (by omega)
 rw [L.len,e]
 unfold co
 omega
theorem zk_in (L : Land w h C) {t : Nat} (ht : t < w * h) (k : Nat) : 0 ≤ zk w C t k ∧ zk w C t k ≤ 15 := by
 have hc:=co_lt L ht
 match k with
 | 0 => exact L.zs _ (Nat.zero_le _) (by omega)
 | 1 => exact L.zs _ (Nat.zero_le _) (by omega)
 | 2 => exact L.zs _ (Nat.zero_le _) (by omega)
 | k + 3 => exact L.zs _ (Nat.zero_le _) (by omega)
theorem zk_near (L : Land w h C) {t : Nat} (ht : t < w * h) : near (zk w C t 0) (zk w C t 1) ∧ near (zk w C t 0) (zk w C t 3) ∧ near (zk w C t 1) (zk w C t 2) ∧ near (zk w C t 3) (zk w C t 2) := by
 obtain ⟨h1,h2,_⟩:=tile ht
 have e : (t / w + 1) * (w + 1) = t / w * (w + 1) + (w + 1):=Nat.succ_mul _ _
 have p:=L.flat (t / w) (by omega) (t % w) (by omega)
 have q:=L.flat (t / w) (by omega) (t % w + 1) (by omega)
 have s:=L.flat (t / w + 1) (by omega) (t % w) (by omega)
 refine ⟨p.1 h2,?_,?_,?_⟩
 ·have:=p.2 h1
  rw [e,show t / w * (w + 1) + (w + 1) + t % w = t / w * (w + 1) + t % w + w + 1 by omega] at this
  exact this
 ·have:=q.2 h1
  rw [e,show t / w * (w + 1) + (w + 1) + (t % w + 1) = t / w * (w + 1) + t % w + w + 2 by omega,← Nat.add_assoc] at this
  exact this
 ·have:=s.1 h2
  rw [e,show t / w * (w + 1) + (w + 1) + t % w = t / w * (w + 1) + t % w + w + 1 by omega] at this
  exact this
theorem base_in (L : Land w h C) {t : Nat} (ht : t < w * h) : 0 ≤ base w C t ∧ base w C t ≤ 15 := by
 have h0:=zk_in L ht 0
 have h1:=zk_in L ht 1
 have h2:=zk_in L ht 2
 have h3:=zk_in L ht 3
 have:=lo4_le (zk w C t 0) (zk w C t 1) (zk w C t 2) (zk w C t 3)
 unfold base
 omega
theorem top_in (L : Land w h C) {t : Nat} (ht : t < w * h) : base w C t ≤ top w C t ∧ top w C t ≤ base w C t + 2 ∧ top w C t ≤ 15 := by
 have h0:=zk_in L ht 0
 have h1:=zk_in L ht 1
 have h2:=zk_in L ht 2
 have h3:=zk_in L ht 3
 obtain ⟨n1,n2,n3,n4⟩:=zk_near L ht
 unfold near at n1 n2 n3 n4
 have:=lo4_le (zk w C t 0) (zk w C t 1) (zk w C t 2) (zk w C t 3)
 have:=hi4_ge (zk w C t 0) (zk w C t 1) (zk w C t 2) (zk w C t 3)
 unfold base top
 omega
theorem slope_in (t : Nat) : 0 ≤ slope w C t ∧ slope w C t ≤ 31 := by
 unfold slope
 rw [slp_eq]
 have:=bit_le (decide (zk w C t 0 > base w C t)) 1 (by decide)
 have:=bit_le (decide (zk w C t 1 > base w C t)) 2 (by decide)
 have:=bit_le (decide (zk w C t 2 > base w C t)) 4 (by decide)
 have:=bit_le (decide (zk w C t 3 > base w C t)) 8 (by decide)
 have:=bit_le (decide (zk w C t 0 > base w C t + 1) || decide (zk w C t 1 > base w C t + 1) || decide (zk w C t 2 > base w C t + 1) || decide (zk w C t 3 > base w C t + 1)) 16 (by decide)
 omega
def gS (w h : Nat) (C : List Int) : List Int := (List.range (w * h)).map (slope w C)
def gB (w h : Nat) (C : List Int) : List Int := (List.range (w * h)).map (base w C)
def gE (w h : Nat) (C : List Int) : List Bool := (List.range (w * h)).map (sea w C)
theorem g_len : (gS w h C).length = w * h ∧ (gB w h C).length = w * h ∧ (gE w h C).length = w * h := by simp [gS, gB, gE]
theorem gS_at {t : Nat} (ht : t < w * h) : (gS w h C).getD t 0 = slope w C t := by simp [gS, ht]
theorem gB_at {t : Nat} (ht : t < w * h) : (gB w h C).getD t 0 = base w C t := by simp [gB, ht]
theorem gE_at {t : Nat} (ht : t < w * h) : (gE w h C).getD t false = sea w C t := by simp [gE, ht]

theorem idx_t (L : Land w h C) {t : Nat} (ht : t < w * h) : wrap64 (wrap64 (wrap64 (Int.tdiv (t : Int) (w : Int)) * wrap64 ((w : Int) + 1)) + Int.tmod (t : Int) (w : Int)) = ((co w t : Nat) : Int) := by
 obtain ⟨h1,h2,_⟩:=tile ht
 have:=L.w1
 have:=L.h1
 have e1 : Int.tdiv (t : Int) (w : Int) = ((t / w : Nat) : Int):=rfl
 have e2 : Int.tmod (t : Int) (w : Int) = ((t % w : Nat) : Int):=rfl
 rw [e1,e2]
 unfold co
 clear e1 e2
 generalize t / w = y at h1 ⊢
 generalize t % w = x at h2 ⊢
 rw [wrap_in (x:=((y : Nat) : Int)) (by omega) (by omega),idxw _ _ _ (by omega) (by omega) (by omega)]
theorem idx_2 (n w : Nat) (hn : n ≤ 2000) (hw : w ≤ 40) : wrap64 (wrap64 ((n : Int) + (w : Int)) + 2) = ((n + w + 2 : Nat) : Int) ∧ wrap64 (wrap64 ((n : Int) + (w : Int)) + 1) = ((n + w + 1 : Nat) : Int) := by
 rw [wrap_in (x:=(n : Int) + (w : Int)) (by omega) (by omega),wrap_in (by omega) (by omega),wrap_in (by omega) (by omega)]
 omega

theorem fold1 {a s n t : Int} {q : S71} {W H : Int} {Cc : List Int} {gw gh : Int} {g2 g3 : List Int} {g4 : List Bool} {p0 p1 p2 p3 : Int} {r : Int × Int × List Int × List Int × List Bool × Int} (ha : 0 ≤ a ∧ a ≤ 15) (i : Int) (hi : 0 ≤ i ∧ i < 4)
  (k : Ev (fun k => water_groundOf.l1 k a (stp s a (ix71 q i) i) n t q (i + 1) W H Cc gw gh g2 g3 g4 p0 p1 p2 p3) r) : Ev (fun k => water_groundOf.l1 k a s n t q i W H Cc gw gh g2 g3 g4 p0 p1 p2 p3) r:=by
 refine Ev.step (fun k => by simp only [water_groundOf.l1];rfl) (Ev.pos hi.2 (Ev.pos hi.1 ?_))
 rw [wrap_in (x:=a + 1) (by omega) (by omega),wrap_in (x:=i + 1) (by omega) (by omega)]
 unfold stp at k
 by_cases h1 : ix71 q i > a
 ·rw [if_pos h1] at k
  by_cases h2 : ix71 q i > a + 1
  ·rw [if_pos h2] at k;exact Ev.pos h1 (Ev.pos h2 k)
  ·rw [if_neg h2] at k;exact Ev.pos h1 (Ev.neg h2 k)
 ·rw [if_neg h1] at k
  by_cases h2 : ix71 q i > a + 1
  ·rw [if_pos h2] at k;exact Ev.neg h1 (Ev.pos h2 k)
  ·rw [if_neg h2] at k;exact Ev.neg h1 (Ev.neg h2 k)
theorem ground_scan (L : Land w h C) : ∀ d t, t + d = w * h → Ev (fun k => water_groundOf.l0 k ((w * h : Nat) : Int) (t : Int) (w : Int) (h : Int) C (w : Int) (h : Int) ((List.range t).map (slope w C)) ((List.range t).map (base w C)) ((List.range t).map (sea w C))) ((w : Int), (h : Int), gS w h C, gB w h C, gE w h C, 0)
 | 0,t,e => by
  obtain rfl : t = w * h:=by omega
  exact Ev.step (fun k => by simp only [water_groundOf.l0];rfl) (Ev.neg (by omega) (Ev.now _))
 | d + 1,t,e => by
  have ih:=ground_scan L d (t + 1) (by omega)
  have ht : t < w * h:=by omega
  have hc:=co_lt L ht
  have:=L.w0
  have hb:=base_in L ht
  have hwh : w * h ≤ 32 * 32:=mulle L.w1 L.h1
  refine Ev.step (fun k => by simp only [water_groundOf.l0];rfl) (Ev.pos (by omega) (Ev.neg (by omega) ?_))
  simp only [idx_t L ht,(idx_2 (co w t) w (by omega) (by have:=L.w1;omega)).1,(idx_2 (co w t) w (by omega) (by have:=L.w1;omega)).2,sucw (co w t) (by omega),sucw t (by omega),rdN]
  refine Ev.pos (by omega) (Ev.pos (by omega) (Ev.pos (by omega) (Ev.pos (by omega) (Ev.pos (by omega) (Ev.pos (by omega) (Ev.pos (by omega) (Ev.pos (by omega) ?_)))))))
  change Ev (fun k => water_groundOf.l1 k (base w C t) 0 ((w * h : Nat) : Int) (t : Int) (⟨zk w C t 0,zk w C t 1,zk w C t 2,zk w C t 3⟩ : S71) 0 (w : Int) (h : Int) C (w : Int) (h : Int) ((List.range t).map (slope w C)) ((List.range t).map (base w C)) ((List.range t).map (sea w C)) (zk w C t 0) (zk w C t 1) (zk w C t 2) (zk w C t 3)) _
  refine fold1 hb 0 (by decide) (fold1 hb 1 (by decide) (fold1 hb 2 (by decide) (fold1 hb 3 (by decide) ?_)))
  change Ev (fun k => water_groundOf.l1 k (base w C t) (slope w C t) ((w * h : Nat) : Int) (t : Int) (⟨zk w C t 0,zk w C t 1,zk w C t 2,zk w C t 3⟩ : S71) 4 (w : Int) (h : Int) C (w : Int) (h : Int) ((List.range t).map (slope w C)) ((List.range t).map (base w C)) ((List.range t).map (sea w C)) (zk w C t 0) (zk w C t 1) (zk w C t 2) (zk w C t 3)) _
  refine Ev.step (fun k => by simp only [water_groundOf.l1];rfl) (Ev.neg (by decide) (Ev.bindc rfl (Ev.pos ?_ (Ev.bindc rfl (Ev.pos ?_ (Ev.bindc rfl (Ev.pos ?_ ?_)))))))
  ·simp;omega
  ·simp;omega
  ·simp;omega
  rw [sucw t (by omega)]
  have e1 : ∀ {α : Type} (f : Nat → α),(List.range (t + 1)).map f = (List.range t).map f ++ [f t]:=fun f => by rw [List.range_succ,List.map_append];rfl
  rw [e1,e1,e1] at ih
  exact ih
end
open Classical in
theorem ground_ev {W H : Int} {C : List Int} (hl : C.length ≤ 4000) : Ev (fun k => water_groundOf.f k W H C) (if lcode W H C = 0 then (W, H, gS W.toNat H.toNat C, gB W.toNat H.toNat C, gE W.toNat H.toNat C, 0) else (0, 0, [], [], [], lcode W H C)) := by
 unfold water_groundOf.f
 refine Ev.bind (land_ev hl) ?_
 by_cases e : lcode W H C = 0
 ·rw [if_pos e]
  refine Ev.pos e ?_
  obtain ⟨w,h,rfl,rfl,L⟩:=land_of e
  have hwh : w * h ≤ 32 * 32:=mulle L.w1 L.h1
  rw [← Int.natCast_mul,wrap_in (by omega) (by omega)]
  exact ground_scan L (w * h) 0 (by omega)
 ·rw [if_neg e]
  exact Ev.neg e (Ev.now _)
end Go.Proofs.Ytiencnnkphipoaa.Pure
