/- Layer 17: the program's steps on a street: what lies beyond a side, which tiles are joined, through which sides a truck may leave. No conditions. -/
import Derived.Test.YthjmdpekcleihaaPx0
import Derived.Test.YthjmdpekcleihaaPx3
import Derived.Test.YthjmdpekcleihaaPx4
import Derived.Test.YthjmdpekcleihaaLane0
namespace Go.Proofs.Ythjmdpekcleihaa.Pure
set_option linter.unusedVariables false
set_option linter.unusedSimpArgs false
open Go.RowKit Go.Proofs.YthjmdpekcleihaaW.PrintWords Go.Proofs.Ythjmdpekcleihaa.P Go.Proofs.Ythjmdpekcleihaa

section
variable {W H t s : Int} {A Y : List Int}
theorem within_eq (a b : Int) : lane_within.f a b = some (decide (0 ≤ a ∧ a ≤ b)) := by
 unfold lane_within.f
 by_cases h : a ≥ 0
 ·rw [if_pos h];congr 1;apply decide_eq_decide.2;omega
 ·rw [if_neg h];congr 1;symm;apply decide_eq_false;omega
def bside (W t s : Int) : Int := if s = 0 then t + 1 else if s = 1 then t + W else if s = 2 then t - 1 else t - W
theorem bside_bey (h : 0 ≤ bey W H t s) : bside W t s = bey W H t s := by
 unfold bside
 unfold bey at h ⊢
 repeat' split
 all_goals first | rfl | (simp_all;done) | omega
theorem beside_eq (h : On W H t) (hs : 0 ≤ s ∧ s ≤ 3) : lane_beside.f W H t s = some (bside W t s, decide (0 ≤ bey W H t s)) := by
 obtain ⟨⟨x0,x1⟩,⟨y0,y1⟩,e,a0,a1⟩:=h.xy
 have hW:=h.hW
 have hH:=h.hH
 have ht:=h.ht
 have m5 : 0 ≤ t / W * W:=Int.mul_nonneg y0 (by omega)
 have m4 : (t / W + 1) * W = t / W * W + W:=by rw [Int.add_mul];omega
 have m7 : (t / W - 1) * W = t / W * W - W:=by rw [Int.sub_mul];omega
 have m6 : 1 ≤ t / W → W ≤ t / W * W:=fun h => by
  have:=Int.mul_le_mul_of_nonneg_right h (show 0 ≤ W by omega)
  omega
 unfold lane_beside.f bside bey
 rw [(tdm h).1,(tdm h).2,wrap_in (x:=t % W + 1) (by omega) (by omega),wrap_in (x:=t % W - 1) (by omega) (by omega),wrap_in (x:=t / W) (by omega) (by omega),wrap_in (x:=t / W + 1) (by omega) (by omega),wrap_in (x:=t / W - 1) (by omega) (by omega),m4,m7,wrap_in (x:=t / W * W) (by omega) (by omega),wrap_in (x:=t / W * W + W) (by omega) (by omega),wrap_in (x:=t / W * W - W) (by omega) (by omega),wrap_in (x:=t / W * W + (t % W + 1)) (by omega) (by omega),wrap_in (x:=t / W * W + (t % W - 1)) (by omega) (by omega),wrap_in (x:=t / W * W + W + t % W) (by omega) (by omega),wrap_in (x:=t / W * W - W + t % W) (by omega) (by omega),if_neg (by omega)]
 have fin : ∀ (x y : Int) (p q : Bool),x = y → p = q → (some (x,p) : Option (Int × Bool)) = some (y,q):=fun x y p q h1 h2 => by rw [h1,h2]
 rcases (by omega : s = 0 ∨ s = 1 ∨ s = 2 ∨ s = 3) with c | c | c | c
 ·subst c
  simp only [if_pos]
  rw [if_pos (by omega)]
  by_cases c1 : t % W + 1 < W
  ·rw [if_pos c1,if_pos (by omega),if_pos c1]
   exact fin _ _ _ _ (by omega) (by rw [decide_eq_true (by omega),decide_eq_true (by omega)])
  ·rw [if_neg c1,if_neg c1]
   exact fin _ _ _ _ (by omega) (by decide)
 ·subst c
  simp only [if_neg (show ¬ (1 : Int) = 0 by decide),if_pos]
  rw [if_pos (by omega),if_pos (by omega),if_pos (by omega)]
  by_cases c1 : t / W + 1 < H
  ·rw [if_pos c1]
   exact fin _ _ _ _ (by omega) (by rw [decide_eq_true (by omega),decide_eq_true (by omega)])
  ·rw [if_neg c1]
   exact fin _ _ _ _ (by omega) (by rw [decide_eq_false (by omega)];decide)
 ·subst c
  simp only [if_neg (show ¬ (2 : Int) = 0 by decide),if_neg (show ¬ (2 : Int) = 1 by decide),if_pos]
  by_cases c1 : 0 < t % W
  ·rw [if_pos (by omega),if_pos (by omega),if_pos (by omega),if_pos c1]
   exact fin _ _ _ _ (by omega) (by rw [decide_eq_true (by omega),decide_eq_true (by omega)])
  ·rw [if_neg (by omega),if_neg c1]
   exact fin _ _ _ _ (by omega) (by decide)
 ·subst c
  simp only [if_neg (show ¬ (3 : Int) = 0 by decide),if_neg (show ¬ (3 : Int) = 1 by decide),if_neg (show ¬ (3 : Int) = 2 by decide)]
  rw [if_pos (by omega),if_pos (by omega)]
  by_cases c1 : 0 < t / W
  ·have:=m6 (by omega)
   rw [if_pos (by omega),if_pos c1]
   exact fin _ _ _ _ (by omega) (by rw [decide_eq_true (by omega),decide_eq_true (by omega)])
  ·rw [if_neg (by omega),if_neg c1]
   exact fin _ _ _ _ (by omega) (by decide)
theorem joined_eq (h : Good W H A Y) (ht : 0 ≤ t ∧ t < W * H) (hs : 0 ≤ s ∧ s ≤ 3) : lane_joined.f W H A Y t s = some (bside W t s, decide (0 ≤ meets W H A t s)) := by
 unfold lane_joined.f
 rw [beside_eq (h.on ht) hs,Option.bind_some]
 have hb:=bey_at (h.on ht) s
 have hA:=h.hA
 have ho:=(opp_at hs).1
 unfold meets
 dsimp only
 by_cases c0 : 0 ≤ bey W H t s
 rotate_left
 ·rw [if_neg (by simpa using c0),if_neg (by omega)];rfl
 rw [if_pos (decide_eq_true c0),if_pos ht.1,if_pos (by omega),if_pos hs.1,bside_bey c0]
 by_cases c1 : has (rd A t) s = true
 rotate_left
 ·rw [if_neg (fun h => c1 (beq_iff_eq.2 h)),if_neg (fun h => c1 h.2.1)];rfl
 rw [if_pos (beq_iff_eq.1 c1),if_pos c0,if_pos (by omega),if_pos (show 0 ≤ Int.tmod (wrap64 (s + 2)) 4 from ho.1)]
 show some (bey W H t s,has (rd A (bey W H t s)) (opp s)) = _
 by_cases c2 : has (rd A (bey W H t s)) (opp s) = true
 ·rw [c2,if_pos ⟨c0,c1,rfl⟩,decide_eq_true c0]
 ·rw [if_neg (fun h => c2 h.2.2),Bool.eq_false_iff.2 c2];rfl
theorem lets_eq {w : Int} (hw : 0 ≤ w ∧ w ≤ 2) (s : Int) : lane_lets.f w s = some (lets w s) := by
 unfold lane_lets.f lets
 rcases (by omega : w = 0 ∨ w = 1 ∨ w = 2) with e | e | e
 ·subst e;simp
 ·subst e;simp
 ·subst e
  simp
  by_cases c : s < 2
  ·first | (simp [c];done) | (simp [c];omega)
  ·first | (simp [c];done) | (simp [c];omega)
theorem Good.way (h : Good W H A Y) (ht : 0 ≤ t ∧ t < W * H) : 0 ≤ rd Y t ∧ rd Y t ≤ 2 := h.ways t.toNat (by omega) (by have := h.hY; omega)
theorem may_eq (h : Good W H A Y) (ht : 0 ≤ t ∧ t < W * H) (hs : 0 ≤ s ∧ s ≤ 3) : lane_may.f W H A Y t s = some (may W H A Y t s) := by
 unfold lane_may.f may
 rw [joined_eq h ht hs,Option.bind_some]
 have hY:=h.hY
 dsimp only
 by_cases c0 : 0 ≤ meets W H A t s
 rotate_left
 ·rw [decide_eq_false c0,if_neg (by simp)];rfl
 have hm:=meets_at h ht s
 have hb : 0 ≤ bey W H t s:=by omega
 rw [decide_eq_true c0,if_pos rfl,if_pos ht.1,if_pos (by omega),lets_eq (h.way ht),Option.bind_some,bside_bey hb]
 by_cases c1 : lets (rd Y t) s = true
 ·rw [if_pos c1,if_pos (by omega),if_pos (by omega),lets_eq (h.way ⟨by omega,by omega⟩),Option.bind_some,c1];simp
 ·rw [if_neg c1,Bool.eq_false_iff.2 c1];rfl
theorem leaves_ev (h : Good W H A Y) (ht : 0 ≤ t ∧ t < W * H) {f : Int} (hf : f ≤ 3) : Ev (fun k => lane_leaves.f k W H A Y t f) (outs W H A Y t f) := by
 unfold lane_leaves.f
 have go : ∀ n i : Nat,i + n = 4 → Ev (fun k => lane_leaves.l0 k t f (sel W H A Y t f i) (i : Int) W H A Y) (outs W H A Y t f):=by
  intro n
  induction n with
  | zero =>
   intro i hi
   obtain rfl : i = 4:=by omega
   refine Ev.step (fun k => by simp only [lane_leaves.l0];rfl) (Ev.neg (by omega) ?_)
   unfold outs
   by_cases c : sel W H A Y t f 4 = []
   ·refine Ev.pos (by rw [c];rfl) ?_
    by_cases c0 : f ≥ 0
    ·refine Ev.pos c0 (Ev.bindc (may_eq h ht ⟨c0,hf⟩) ?_)
     by_cases c1 : may W H A Y t f = true
     ·refine Ev.eq (Ev.pos c1 (Ev.pos (by have:=sel_len (W:=W) (H:=H) (A:=A) (Y:=Y) (t:=t) f 4;omega) (Ev.now _))) ?_
      rw [if_pos ⟨c,c0,c1⟩,c];rfl
     ·exact Ev.eq (Ev.neg c1 (Ev.now _)) (if_neg (fun h => c1 h.2.2)).symm
    ·exact Ev.eq (Ev.neg c0 (Ev.now _)) (if_neg (fun h => c0 h.2.1)).symm
   ·exact Ev.eq (Ev.neg (by simpa using c) (Ev.now _)) (if_neg (fun h => c h.1)).symm
  | succ n ih =>
   intro i hi
   have ih:=ih (i + 1) (by omega)
   rw [show ((i + 1 : Nat) : Int) = (i : Int) + 1 from by omega] at ih
   unfold sel at ih
   refine Ev.step (fun k => by simp only [lane_leaves.l0];rfl) (Ev.pos (by omega) ?_)
   rw [wrap_in (x:=(i : Int) + 1) (by omega) (by omega)]
   by_cases c : (i : Int) = f
   ·rw [if_pos c] at ih
    exact Ev.pos c ih
   ·rw [if_neg c] at ih
    refine Ev.neg c (Ev.bindc (may_eq h ht ⟨by omega,by omega⟩) ?_)
    by_cases c1 : may W H A Y t i = true
    ·rw [if_pos c1] at ih
     exact Ev.pos c1 (Ev.pos (by have:=sel_len (W:=W) (H:=H) (A:=A) (Y:=Y) (t:=t) f i;omega) ih)
    ·rw [if_neg c1] at ih
     exact Ev.neg c1 ih
 exact go 4 0 (by omega)
theorem may_at (h : Good W H A Y) (ht : 0 ≤ t ∧ t < W * H) {x : Int} (hm : may W H A Y t x = true) : 0 ≤ bey W H t x ∧ bey W H t x < W * H := by
 unfold may at hm
 have hm2 : 0 ≤ meets W H A t x:=by
  simp only [Bool.and_eq_true,decide_eq_true_eq] at hm
  exact hm.1.1
 have:=meets_at h ht x
 omega
end
end Go.Proofs.Ythjmdpekcleihaa.Pure
