/- What layer 17 (lanes) leans on of layer 4 (streets), in plain words. No conditions. -/
import Derived.Test.YthjmdpekcleihaaPx0
import Derived.Test.YthjmdpekcleihaaPx3
import Derived.Test.YthjmdpekcleihaaEvKit
import Derived.Test.YthjmdpekcleihaaVOpen
namespace Go.Proofs.Ythjmdpekcleihaa.Pure
set_option linter.unusedVariables false
set_option linter.unusedSimpArgs false
open Go.RowKit Go.Proofs.YthjmdpekcleihaaW.PrintWords Go.Proofs.Ythjmdpekcleihaa.P Go.Proofs.Ythjmdpekcleihaa
theorem Ev.rounds {α : Type} {g : Nat → Option α} {r : α} (h : Ev g r) : ∃ k, g k = some r := by
 obtain ⟨K,h⟩:=h
 exact ⟨K,h K (Nat.le_refl _)⟩
theorem rdN (l : List Int) (i : Nat) : rd l (i : Int) = l.getD i 0 := by unfold rd; simp
theorem not_all {p : Nat → Prop} {n : Nat} (h : ¬ ∀ j, 0 ≤ j → j < n → p j) : ∃ j, 0 ≤ j ∧ j < n ∧ ¬ p j := by
 apply Classical.byContradiction
 intro hc
 exact h fun j h1 h2 => Classical.byContradiction fun h3 => hc ⟨j,h1,h2,h3⟩
def Shape (W H : Int) (A Y : List Int) : Prop := (4 ≤ W ∧ W ≤ 32) ∧ (4 ≤ H ∧ H ≤ 32) ∧ (A.length : Int) = W * H ∧ (Y.length : Int) = W * H
def ArmAt (A : List Int) (j : Nat) : Prop := 0 ≤ A.getD j 0 ∧ A.getD j 0 ≤ 15
def WayAt (Y : List Int) (j : Nat) : Prop := 0 ≤ Y.getD j 0 ∧ Y.getD j 0 ≤ 2
def OneAt (A Y : List Int) (j : Nat) : Prop := Y.getD j 0 = 0 ∨ A.getD j 0 = 5 ∨ A.getD j 0 = 10
def Arms (A : List Int) : Prop := ∀ j, 0 ≤ j → j < A.length → ArmAt A j
def Wayz (Y : List Int) : Prop := ∀ j, 0 ≤ j → j < Y.length → WayAt Y j
def Ones (A Y : List Int) : Prop := ∀ j, 0 ≤ j → j < Y.length → OneAt A Y j
open Classical in
noncomputable def vcode (W H : Int) (A Y : List Int) : Int := if Shape W H A Y then (if Arms A ∧ Wayz Y then (if Ones A Y then 0 else 9) else 1) else 1
theorem vcode_zero {W H : Int} {A Y : List Int} : vcode W H A Y = 0 ↔ Shape W H A Y ∧ Arms A ∧ Wayz Y ∧ Ones A Y := by
 unfold vcode
 by_cases h1 : Shape W H A Y
 ·by_cases h2 : Arms A ∧ Wayz Y
  ·by_cases h3 : Ones A Y
   ·simp [h1,h2,h3]
   ·simp [h1,h2,h3]
  ·rw [if_pos h1,if_neg h2];exact ⟨fun h => absurd h (by decide),fun h => absurd ⟨h.2.1,h.2.2.1⟩ h2⟩
 ·simp [h1]
theorem area {W H : Int} (hW : 4 ≤ W ∧ W ≤ 32) (hH : 4 ≤ H ∧ H ≤ 32) : 16 ≤ W * H ∧ W * H ≤ 1024 := by
 constructor
 ·have:=Int.mul_le_mul hW.1 hH.1 (by decide) (by omega);omega
 ·have:=Int.mul_le_mul hW.2 hH.2 (by omega) (by decide);omega
section
variable {W H : Int} {A Y : List Int}
theorem validate_ev (hA : A.length ≤ 4000) (hY : Y.length ≤ 4000) : Ev (fun k => road_Validate.f k W H A Y) (vcode W H A Y) := by
 unfold road_Validate.f
 have bad : ¬ Shape W H A Y → ∀ q,q = true → Ev (fun k => road_Validate.j0 k q W H A Y) (vcode W H A Y):=by
  intro h q hq
  refine Ev.eq (Ev.step (fun k => by simp only [road_Validate.j0];rfl) (Ev.pos hq (Ev.now _))) (if_neg h).symm
 by_cases w0 : W < 4
 ·exact Ev.pos w0 (bad (fun h => by have:=h.1;omega) _ rfl)
 refine Ev.neg w0 ?_
 by_cases w1 : W > 32
 ·exact Ev.pos w1 (bad (fun h => by have:=h.1;omega) _ rfl)
 refine Ev.neg w1 ?_
 by_cases h0 : H < 4
 ·exact Ev.pos h0 (bad (fun h => by have:=h.2.1;omega) _ rfl)
 refine Ev.neg h0 ?_
 by_cases h1 : H > 32
 ·exact Ev.pos h1 (bad (fun h => by have:=h.2.1;omega) _ rfl)
 refine Ev.neg h1 ?_
 have ha:=area (W:=W) (H:=H) ⟨by omega,by omega⟩ ⟨by omega,by omega⟩
 rw [wrap_in (x:=W * H) (by omega) (by omega)]
 by_cases l1 : (A.length : Int) = W * H
 rotate_left
 ·exact Ev.neg l1 (bad (fun h => l1 h.2.2.1) _ rfl)
 refine Ev.pos l1 ?_
 by_cases l2 : (Y.length : Int) = W * H
 rotate_left
 ·exact bad (fun h => l2 h.2.2.2) _ (bne_iff_ne.2 l2)
 have hs : Shape W H A Y:=⟨⟨by omega,by omega⟩,⟨by omega,by omega⟩,l1,l2⟩
 refine Ev.eq ?_ (if_pos hs).symm
 rw [show ((Y.length : Int) != W * H) = false from bne_eq_false_iff_eq.2 l2]
 refine Ev.step (fun k => by simp only [road_Validate.j0];rfl) (Ev.neg (by simp) ?_)
 have end1 : ∀ r,Ev (fun k => road_Validate.l1 k Y (Y.length : Int) (0 : Int) W H A Y) r → Ev (fun k => road_Validate.l0 k (A.length : Int) ((A.length : Nat) : Int) W H A Y) r:=by
  intro r hr
  exact Ev.step (fun k => by simp only [road_Validate.l0];rfl) (Ev.neg (by omega) hr)
 have good1 : ∀ i,i < A.length → (ArmAt A i ∧ WayAt Y i) → ∀ r,Ev (fun k => road_Validate.l0 k (A.length : Int) ((i : Int) + 1) W H A Y) r → Ev (fun k => road_Validate.l0 k (A.length : Int) (i : Int) W H A Y) r:=by
  intro i hi ⟨p1,p2⟩ r hr
  unfold ArmAt at p1
  unfold WayAt at p2
  refine Ev.step (fun k => by simp only [road_Validate.l0];rfl) ?_
  rw [rdN,rdN,wrap_in (x:=(i : Int) + 1) (by omega) (by omega)]
  exact Ev.pos (by omega) (Ev.pos (by omega) (Ev.pos (by omega) (Ev.neg (by omega) (Ev.neg (by omega) (Ev.pos (by omega) (Ev.neg (by omega) (Ev.neg (by omega) hr)))))))
 have bad1 : ∀ i,i < A.length → ¬ (ArmAt A i ∧ WayAt Y i) → Ev (fun k => road_Validate.l0 k (A.length : Int) (i : Int) W H A Y) 1:=by
  intro i hi hp
  unfold ArmAt WayAt at hp
  refine Ev.step (fun k => by simp only [road_Validate.l0];rfl) ?_
  rw [rdN,rdN]
  refine Ev.pos (by omega) (Ev.pos (by omega) (Ev.pos (by omega) ?_))
  by_cases q1 : A.getD i 0 < 0
  ·exact Ev.pos q1 (Ev.now _)
  refine Ev.neg q1 ?_
  by_cases q2 : A.getD i 0 > 15
  ·exact Ev.pos q2 (Ev.now _)
  refine Ev.neg q2 (Ev.pos (by omega) ?_)
  by_cases q3 : Y.getD i 0 < 0
  ·exact Ev.pos q3 (Ev.now _)
  exact Ev.neg q3 (Ev.pos (by omega) (Ev.now _))
 have good2 : ∀ i,i < Y.length → OneAt A Y i → ∀ r,Ev (fun k => road_Validate.l1 k Y (Y.length : Int) ((i : Int) + 1) W H A Y) r → Ev (fun k => road_Validate.l1 k Y (Y.length : Int) (i : Int) W H A Y) r:=by
  intro i hi p r hr
  unfold OneAt at p
  refine Ev.step (fun k => by simp only [road_Validate.l1];rfl) ?_
  rw [rdN,rdN,wrap_in (x:=(i : Int) + 1) (by omega) (by omega)]
  refine Ev.pos (by omega) (Ev.pos (by omega) (Ev.pos (by omega) ?_))
  by_cases q1 : Y.getD i 0 = 0
  ·exact Ev.pos q1 hr
  refine Ev.neg q1 (Ev.pos (by omega) ?_)
  by_cases q2 : A.getD i 0 = 5
  ·exact Ev.pos q2 hr
  exact Ev.neg q2 (Ev.pos (by omega) hr)
 have bad2 : ∀ i,i < Y.length → ¬ OneAt A Y i → Ev (fun k => road_Validate.l1 k Y (Y.length : Int) (i : Int) W H A Y) 9:=by
  intro i hi p
  unfold OneAt at p
  refine Ev.step (fun k => by simp only [road_Validate.l1];rfl) ?_
  rw [rdN,rdN]
  exact Ev.pos (by omega) (Ev.pos (by omega) (Ev.pos (by omega) (Ev.neg (by omega) (Ev.pos (by omega) (Ev.neg (by omega) (Ev.neg (by omega) (Ev.now _)))))))
 have end2 : Ev (fun k => road_Validate.l1 k Y (Y.length : Int) ((Y.length : Nat) : Int) W H A Y) 0 :=
  Ev.step (fun k => by simp only [road_Validate.l1];rfl) (Ev.neg (by omega) (Ev.now _))
 by_cases g1 : Arms A ∧ Wayz Y
 ·refine Ev.eq ?_ (if_pos g1).symm
  refine Ev.scan_all (g:=fun k i => road_Validate.l0 k (A.length : Int) i W H A Y) (end1 _ ?_) good1 A.length 0 (by omega) (fun j h1 h2 => ⟨g1.1 j h1 h2,g1.2 j h1 (by omega)⟩)
  by_cases g2 : Ones A Y
  ·exact Ev.eq (Ev.scan_all (g:=fun k i => road_Validate.l1 k Y (Y.length : Int) i W H A Y) end2 good2 Y.length 0 (by omega) g2) (if_pos g2).symm
  ·exact Ev.eq (Ev.scan_some (g:=fun k i => road_Validate.l1 k Y (Y.length : Int) i W H A Y) good2 bad2 Y.length 0 (by omega) (not_all g2)) (if_neg g2).symm
 ·refine Ev.eq (Ev.scan_some (g:=fun k i => road_Validate.l0 k (A.length : Int) i W H A Y) good1 bad1 A.length 0 (by omega) (not_all fun h => g1 ⟨fun j h1 h2 => (h j h1 h2).1,fun j h1 h2 => (h j h1 (by omega)).2⟩)) (if_neg g1).symm
end
def bey (W H t s : Int) : Int :=
 if s = 0 then (if t % W + 1 < W then t + 1 else -1)
 else if s = 1 then (if t / W + 1 < H then t + W else -1)
 else if s = 2 then (if 0 < t % W then t - 1 else -1)
 else (if 0 < t / W then t - W else -1)
structure On (W H t : Int) : Prop where
 hW : 4 ≤ W ∧ W ≤ 32
 hH : 4 ≤ H ∧ H ≤ 32
 ht : 0 ≤ t ∧ t < W * H
section
variable {W H t s : Int}
theorem On.xy (h : On W H t) : (0 ≤ t % W ∧ t % W < W) ∧ (0 ≤ t / W ∧ t / W < H) ∧ t / W * W + t % W = t ∧ 16 ≤ W * H ∧ W * H ≤ 1024 := by
 have hW:=h.hW
 have ht:=h.ht
 have ha:=area h.hW h.hH
 have h1:=Int.emod_nonneg t (show W ≠ 0 by omega)
 have h2:=Int.emod_lt_of_pos t (show 0 < W by omega)
 have h3 : 0 ≤ t / W:=Int.ediv_nonneg (by omega) (by omega)
 have h4 : t / W < H:=Int.ediv_lt_of_lt_mul (by omega) (by rw [Int.mul_comm];omega)
 have h5 : t / W * W + t % W = t:=by rw [Int.mul_comm];exact Int.mul_ediv_add_emod t W
 exact ⟨⟨h1,h2⟩,⟨h3,h4⟩,h5,ha⟩
theorem bey_at (h : On W H t) (s : Int) : bey W H t s = -1 ∨ (0 ≤ bey W H t s ∧ bey W H t s < W * H) := by
 obtain ⟨⟨x0,x1⟩,⟨y0,y1⟩,e,a0,a1⟩:=h.xy
 have hW:=h.hW
 have hH:=h.hH
 have ht:=h.ht
 have m1 : t / W * W ≤ (H - 1) * W:=Int.mul_le_mul_of_nonneg_right (by omega) (by omega)
 have m2 : (H - 1) * W = W * H - W:=by rw [Int.sub_mul,Int.mul_comm H W];omega
 unfold bey
 by_cases s0 : s = 0
 ·rw [if_pos s0]
  by_cases c : t % W + 1 < W
  ·rw [if_pos c];exact .inr ⟨by omega,by omega⟩
  ·rw [if_neg c];exact .inl rfl
 rw [if_neg s0]
 by_cases s1 : s = 1
 ·rw [if_pos s1]
  by_cases c : t / W + 1 < H
  ·rw [if_pos c]
   have m3 : (t / W + 1) * W ≤ (H - 1) * W:=Int.mul_le_mul_of_nonneg_right (by omega) (by omega)
   have m4 : (t / W + 1) * W = t / W * W + W:=by rw [Int.add_mul];omega
   exact .inr ⟨by omega,by omega⟩
  ·rw [if_neg c];exact .inl rfl
 rw [if_neg s1]
 by_cases s2 : s = 2
 ·rw [if_pos s2]
  by_cases c : 0 < t % W
  ·rw [if_pos c];
   have m5 : 0 ≤ t / W * W:=Int.mul_nonneg y0 (by omega)
   exact .inr ⟨by omega,by omega⟩
  ·rw [if_neg c];exact .inl rfl
 rw [if_neg s2]
 by_cases c : 0 < t / W
 ·rw [if_pos c]
  have m6 : 1 * W ≤ t / W * W:=Int.mul_le_mul_of_nonneg_right (by omega) (by omega)
  exact .inr ⟨by omega,by omega⟩
 ·rw [if_neg c];exact .inl rfl
theorem tdm (h : On W H t) : Int.tmod t W = t % W ∧ Int.tdiv t W = t / W :=
 ⟨Int.tmod_eq_emod_of_nonneg h.ht.1,Int.tdiv_eq_ediv_of_nonneg h.ht.1⟩
def opp (s : Int) : Int := Int.tmod (wrap64 (s + 2)) 4
theorem opp_at (hs : 0 ≤ s ∧ s ≤ 3) : (0 ≤ opp s ∧ opp s ≤ 3) ∧ opp (opp s) = s := by
 rcases (by omega : s = 0 ∨ s = 1 ∨ s = 2 ∨ s = 3) with h | h | h | h <;> subst h <;> decide +kernel
theorem opp_is (hs : 0 ≤ s ∧ s ≤ 3) : (s = 0 ∧ opp s = 2) ∨ (s = 1 ∧ opp s = 3) ∨ (s = 2 ∧ opp s = 0) ∨ (s = 3 ∧ opp s = 1) := by
 rcases (by omega : s = 0 ∨ s = 1 ∨ s = 2 ∨ s = 3) with h | h | h | h <;> subst h <;> decide +kernel
theorem bey_back (h : On W H t) (hs : 0 ≤ s ∧ s ≤ 3) (hb : 0 ≤ bey W H t s) : bey W H (bey W H t s) (opp s) = t := by
 obtain ⟨⟨x0,x1⟩,⟨y0,y1⟩,e,a0,a1⟩:=h.xy
 have hW:=h.hW
 have hH:=h.hH
 have ht:=h.ht
 have key : ∀ x y : Int,0 ≤ x → x < W → (y * W + x) % W = x ∧ (y * W + x) / W = y:=by
  intro x y h0 h1
  constructor
  ·rw [Int.add_comm,Int.add_mul_emod_self_right,Int.emod_eq_of_lt h0 h1]
  ·rw [Int.add_comm,Int.add_mul_ediv_right _ _ (by omega),Int.ediv_eq_zero_of_lt h0 h1];omega
 have m4 : (t / W + 1) * W = t / W * W + W:=by rw [Int.add_mul];omega
 have m7 : (t / W - 1) * W = t / W * W - W:=by rw [Int.sub_mul];omega
 rcases opp_is hs with ⟨h1,h2⟩ | ⟨h1,h2⟩ | ⟨h1,h2⟩ | ⟨h1,h2⟩
 ·rw [h2]
  rw [h1] at hb ⊢
  unfold bey at hb ⊢
  rw [if_pos rfl] at hb ⊢
  by_cases c : t % W + 1 < W
  ·rw [if_pos c]
   have k:=key (t % W + 1) (t / W) (by omega) (by omega)
   rw [show t / W * W + (t % W + 1) = t + 1 by omega] at k
   rw [if_neg (by decide),if_neg (by decide),if_pos rfl,k.1,if_pos (by omega)];omega
  ·rw [if_neg c] at hb;omega
 ·rw [h2]
  rw [h1] at hb ⊢
  unfold bey at hb ⊢
  rw [if_neg (by decide),if_pos rfl] at hb
  by_cases c : t / W + 1 < H
  ·have k:=key (t % W) (t / W + 1) (by omega) (by omega)
   rw [m4,show t / W * W + W + t % W = t + W by omega] at k
   rw [if_neg (by decide : ¬ (3 : Int) = 0),if_neg (by decide : ¬ (3 : Int) = 1),if_neg (by decide : ¬ (3 : Int) = 2),if_neg (by decide : ¬ (1 : Int) = 0),if_pos (rfl : (1 : Int) = 1),if_pos c,k.2,if_pos (by omega)];omega
  ·rw [if_neg c] at hb;omega
 ·rw [h2]
  rw [h1] at hb ⊢
  unfold bey at hb ⊢
  rw [if_neg (by decide),if_neg (by decide),if_pos rfl] at hb
  by_cases c : 0 < t % W
  ·have k:=key (t % W - 1) (t / W) (by omega) (by omega)
   rw [show t / W * W + (t % W - 1) = t - 1 by omega] at k
   rw [if_neg (by decide : ¬ (2 : Int) = 0),if_neg (by decide : ¬ (2 : Int) = 1),if_pos (rfl : (2 : Int) = 2),if_pos c,if_pos (rfl : (0 : Int) = 0),k.1,if_pos (by omega)];omega
  ·rw [if_neg c] at hb;omega
 ·rw [h2]
  rw [h1] at hb ⊢
  unfold bey at hb ⊢
  rw [if_neg (by decide),if_neg (by decide),if_neg (by decide)] at hb
  by_cases c : 0 < t / W
  ·have k:=key (t % W) (t / W - 1) (by omega) (by omega)
   rw [m7,show t / W * W - W + t % W = t - W by omega] at k
   rw [if_neg (by decide : ¬ (3 : Int) = 0),if_neg (by decide : ¬ (3 : Int) = 1),if_neg (by decide : ¬ (3 : Int) = 2),if_neg (by decide : ¬ (1 : Int) = 0),if_pos (rfl : (1 : Int) = 1),if_pos c,k.2,if_pos (by omega)];omega
  ·rw [if_neg c] at hb;omega
end
def has (a s : Int) : Bool := Go.bits .and .i64 (shr .i64 a s) 1 == 1
theorem has_none {s : Int} (hs : 0 ≤ s ∧ s ≤ 3) : has 0 s = false := by
 rcases (by omega : s = 0 ∨ s = 1 ∨ s = 2 ∨ s = 3) with h | h | h | h <;> subst h <;> decide +kernel
def meets (W H : Int) (A : List Int) (t s : Int) : Int := if 0 ≤ bey W H t s ∧ has (rd A t) s = true ∧ has (rd A (bey W H t s)) (opp s) = true then bey W H t s else -1
structure Good (W H : Int) (A Y : List Int) : Prop where
 hW : 4 ≤ W ∧ W ≤ 32
 hH : 4 ≤ H ∧ H ≤ 32
 hA : (A.length : Int) = W * H
 hY : (Y.length : Int) = W * H
 arms : Arms A
 ways : Wayz Y
 ones : Ones A Y
theorem good_of {W H : Int} {A Y : List Int} (h : vcode W H A Y = 0) : Good W H A Y := by
 have h:=vcode_zero.1 h
 exact ⟨h.1.1,h.1.2.1,h.1.2.2.1,h.1.2.2.2,h.2.1,h.2.2.1,h.2.2.2⟩
section
variable {W H t s : Int} {A Y : List Int}
theorem Good.on (h : Good W H A Y) (ht : 0 ≤ t ∧ t < W * H) : On W H t := ⟨h.hW, h.hH, ht⟩
theorem Good.arm (h : Good W H A Y) (ht : 0 ≤ t ∧ t < W * H) : 0 ≤ rd A t ∧ rd A t ≤ 15 := h.arms t.toNat (by omega) (by have := h.hA; omega)
theorem meets_at (h : Good W H A Y) (ht : 0 ≤ t ∧ t < W * H) (s : Int) : meets W H A t s = -1 ∨ (0 ≤ meets W H A t s ∧ meets W H A t s < W * H ∧ meets W H A t s = bey W H t s) := by
 unfold meets
 have hb:=bey_at (h.on ht) s
 by_cases c : 0 ≤ bey W H t s ∧ has (rd A t) s = true ∧ has (rd A (bey W H t s)) (opp s) = true
 ·rw [if_pos c];exact .inr ⟨by omega,by omega,rfl⟩
 ·rw [if_neg c];exact .inl rfl
theorem meets_back (h : Good W H A Y) (ht : 0 ≤ t ∧ t < W * H) (hs : 0 ≤ s ∧ s ≤ 3) (hm : 0 ≤ meets W H A t s) : meets W H A (meets W H A t s) (opp s) = t := by
 unfold meets at hm ⊢
 by_cases c : 0 ≤ bey W H t s ∧ has (rd A t) s = true ∧ has (rd A (bey W H t s)) (opp s) = true
 ·rw [if_pos c] at hm ⊢
  have hb:=bey_back (h.on ht) hs c.1
  rw [hb,(opp_at hs).2,if_pos ⟨ht.1,c.2.2,c.2.1⟩]
 ·rw [if_neg c] at hm;omega
theorem meets_arm (hs : 0 ≤ s ∧ s ≤ 3) (hm : 0 ≤ meets W H A t s) : rd A t ≠ 0 := by
 intro h0
 unfold meets at hm
 rw [h0,has_none hs,if_neg (by simp)] at hm
 omega
def lets (w s : Int) : Bool := decide (w = 0 ∨ (w = 1 ∧ s < 2) ∨ (w = 2 ∧ s ≥ 2))
def may (W H : Int) (A Y : List Int) (t s : Int) : Bool := decide (0 ≤ meets W H A t s) && lets (rd Y t) s && lets (rd Y (bey W H t s)) s
def sel (W H : Int) (A Y : List Int) (t f : Int) : Nat → List Int
 | 0 => []
 | i + 1 => if (i : Int) = f then sel W H A Y t f i else if may W H A Y t i = true then sel W H A Y t f i ++ [(i : Int)] else sel W H A Y t f i
def outs (W H : Int) (A Y : List Int) (t f : Int) : List Int := if sel W H A Y t f 4 = [] ∧ 0 ≤ f ∧ may W H A Y t f = true then [f] else sel W H A Y t f 4
theorem sel_len (f : Int) : ∀ i, (sel W H A Y t f i).length ≤ i
 | 0 => Nat.le_refl _
 | i + 1 => by
  have ih:=sel_len f i
  unfold sel
  repeat' split
  all_goals first | omega | (simp;omega)
theorem sel_mem (f : Int) : ∀ i x, x ∈ sel W H A Y t f i → (0 ≤ x ∧ x < i) ∧ may W H A Y t x = true
 | 0,x,h => by simp [sel] at h
 | i + 1,x,h => by
  have ih:=sel_mem f i x
  unfold sel at h
  split at h
  ·have:=ih h;exact ⟨by omega,this.2⟩
  ·split at h
   ·rcases List.mem_append.1 h with h | h
    ·have:=ih h;exact ⟨by omega,this.2⟩
    ·obtain rfl:=List.mem_singleton.1 h
     exact ⟨by omega,by assumption⟩
   ·have:=ih h;exact ⟨by omega,this.2⟩
theorem outs_mem {f x : Int} (hf : f ≤ 3) (hx : x ∈ outs W H A Y t f) : (0 ≤ x ∧ x ≤ 3) ∧ may W H A Y t x = true := by
 unfold outs at hx
 split at hx
 ·rename_i c
  obtain rfl:=List.mem_singleton.1 hx
  exact ⟨⟨c.2.1,hf⟩,c.2.2⟩
 ·have:=sel_mem f 4 x hx
  exact ⟨by omega,this.2⟩
theorem outs_len (f : Int) : (outs W H A Y t f).length ≤ 4 := by
 unfold outs
 split
 ·simp
 ·exact sel_len f 4
end

end Go.Proofs.Ythjmdpekcleihaa.Pure
