/- Layer 17: the reference's steps on a street come to the same. No conditions. -/
import Derived.Test.YthjmdpekcleihaaPx0
import Derived.Test.YthjmdpekcleihaaPx4
import Derived.Test.YthjmdpekcleihaaPx8
import Derived.Test.YthjmdpekcleihaaPx9
import Derived.Test.YthjmdpekcleihaaPx10
import Derived.Test.YthjmdpekcleihaaLane1
namespace Go.Proofs.Ythjmdpekcleihaa.Pure
set_option linter.unusedVariables false
set_option linter.unusedSimpArgs false
open Go.RowKit Go.Proofs.YthjmdpekcleihaaW.PrintWords Go.Proofs.Ythjmdpekcleihaa.P Go.Proofs.Ythjmdpekcleihaa

section
variable {W H t s : Int} {A Y : List Int}
theorem ref_beyond_eq (h : On W H t) (hs : 0 ≤ s ∧ s ≤ 3) (A Y : List Int) : hinterlandref17_beyond.f W H A Y t s = some (bside W t s) := by
 obtain ⟨_,_,e,a0,a1⟩:=h.xy
 have hW:=h.hW
 have ht:=h.ht
 unfold hinterlandref17_beyond.f bside
 rw [wrap_in (x:=t + 1) (by omega) (by omega),wrap_in (x:=t + W) (by omega) (by omega),wrap_in (x:=t - 1) (by omega) (by omega),wrap_in (x:=t - W) (by omega) (by omega)]
 repeat' split
 all_goals rfl
theorem ref_free_eq {w : Int} (hw : 0 ≤ w ∧ w ≤ 2) (s : Int) : hinterlandref17_free.f w s = some (lets w s) := by
 rw [← lets_eq hw]
 unfold hinterlandref17_free.f lane_lets.f
 rcases (by omega : w = 0 ∨ w = 1 ∨ w = 2) with e | e | e
 ·subst e;rfl
 ·subst e
  by_cases c : s < 2
  ·simp [c]
  ·simp [c]
 ·subst e
  by_cases c : s < 2
  ·first | (simp [c];done) | (simp [c];omega)
  ·first | (simp [c];done) | (simp [c];omega)
theorem ref_linked_ev (h : Good W H A Y) (ht : 0 ≤ t ∧ t < W * H) (hs : 0 ≤ s ∧ s ≤ 3) : Ev (fun k => hinterlandref17_linked.f k W H A Y t s) (decide (0 ≤ meets W H A t s)) := by
 have hon:=h.on ht
 obtain ⟨⟨x0,x1⟩,⟨y0,y1⟩,e,a0,a1⟩:=hon.xy
 have hW:=h.hW
 have hH:=h.hH
 have hA:=h.hA
 have ho:=(opp_at hs).1
 have hb:=bey_at hon s
 have m5 : 0 ≤ t / W * W:=Int.mul_nonneg y0 (by omega)
 unfold hinterlandref17_linked.f
 refine Ev.neg (by omega) (Ev.pos ht.1 (Ev.pos (by omega) (Ev.pos hs.1 ?_)))
 rw [(tdm hon).1,(tdm hon).2,wrap_in (x:=t % W + 1) (by omega) (by omega),wrap_in (x:=t / W) (by omega) (by omega),wrap_in (x:=t / W + 1) (by omega) (by omega)]
 have out : ∀ q,q = true → ¬ 0 ≤ meets W H A t s → Ev (fun k => hinterlandref17_linked.j0 k t s q W H A Y) (decide (0 ≤ meets W H A t s)):=by
  intro q hq hm
  rw [decide_eq_false hm]
  exact Ev.step (fun k => by simp only [hinterlandref17_linked.j0];rfl) (Ev.pos hq (Ev.now _))
 by_cases c1 : has (rd A t) s = true
 rotate_left
 ·refine Ev.pos ?_ (out _ rfl ?_)
  ·have h01 : ∀ x : Int,Go.bits .and .i64 (shr .i64 x s) 1 = 0 ∨ Go.bits .and .i64 (shr .i64 x s) 1 = 1 ∨ True:=fun _ => .inr (.inr trivial)
   have ha:=h.arm ht
   have hall : ∀ (a : Fin 16) (s : Fin 4),(Go.bits .and .i64 (shr .i64 ((a.val : Nat) : Int) ((s.val : Nat) : Int)) 1 == 1) = false → Go.bits .and .i64 (shr .i64 ((a.val : Nat) : Int) ((s.val : Nat) : Int)) 1 = 0:=by decide +kernel
   have:=hall ⟨(rd A t).toNat,by omega⟩ ⟨s.toNat,by omega⟩
   simp only [Int.toNat_of_nonneg ha.1,Int.toNat_of_nonneg hs.1] at this
   exact this (Bool.eq_false_iff.2 c1)
  ·unfold meets
   rw [if_neg (fun h => c1 h.2.1)]
   omega
 have c1' : Go.bits .and .i64 (shr .i64 (rd A t) s) 1 = 1:=beq_iff_eq.1 c1
 refine Ev.neg (by rw [c1'];decide) ?_
 have fin : ∀ q,q = decide (¬ 0 ≤ bey W H t s) → Ev (fun k => hinterlandref17_linked.j0 k t s q W H A Y) (decide (0 ≤ meets W H A t s)):=by
  intro q hq
  by_cases c0 : 0 ≤ bey W H t s
  rotate_left
  ·exact out q (by rw [hq];exact decide_eq_true c0) (by unfold meets;rw [if_neg (fun h => c0 h.1)];omega)
  refine Ev.step (fun k => by simp only [hinterlandref17_linked.j0];rfl) (Ev.neg (by rw [hq];simpa using c0) (Ev.bindc (ref_beyond_eq hon hs A Y) ?_))
  rw [bside_bey c0]
  refine Ev.pos c0 (Ev.pos (by omega) (Ev.pos (show 0 ≤ Int.tmod (wrap64 (s + 2)) 4 from ho.1) (Ev.eq (Ev.now _) ?_)))
  show has (rd A (bey W H t s)) (opp s) = _
  unfold meets
  by_cases c2 : has (rd A (bey W H t s)) (opp s) = true
  ·rw [c2,if_pos ⟨c0,c1,rfl⟩,decide_eq_true c0]
  ·rw [if_neg (fun h => c2 h.2.2),Bool.eq_false_iff.2 c2];rfl
 rcases (by omega : s = 0 ∨ s = 1 ∨ s = 2 ∨ s = 3) with c | c | c | c
 ·subst c
  refine Ev.pos rfl ?_
  by_cases c1 : t % W + 1 = W
  ·refine Ev.pos c1 (fin _ ?_)
   unfold bey;rw [if_pos rfl,if_neg (by omega)];rfl
  ·refine Ev.neg c1 (Ev.neg (by decide) (Ev.neg (by decide) (Ev.neg (by decide) (fin _ ?_))))
   unfold bey;rw [if_pos rfl,if_pos (by omega)]
   symm;apply decide_eq_false;omega
 ·subst c
  refine Ev.neg (by decide) (Ev.pos rfl ?_)
  by_cases c1 : t / W + 1 = H
  ·refine Ev.pos c1 (fin _ ?_)
   unfold bey;rw [if_neg (by decide),if_pos rfl,if_neg (by omega)];rfl
  ·refine Ev.neg c1 (Ev.neg (by decide) (Ev.neg (by decide) (fin _ ?_)))
   unfold bey;rw [if_neg (by decide),if_pos rfl,if_pos (by omega)]
   symm;apply decide_eq_false;omega
 ·subst c
  refine Ev.neg (by decide) (Ev.neg (by decide) (Ev.pos rfl ?_))
  by_cases c1 : t % W = 0
  ·refine Ev.pos c1 (fin _ ?_)
   unfold bey;rw [if_neg (by decide),if_neg (by decide),if_pos rfl,if_neg (by omega)];rfl
  ·refine Ev.neg c1 (Ev.neg (by decide) (fin _ ?_))
   unfold bey;rw [if_neg (by decide),if_neg (by decide),if_pos rfl,if_pos (by omega)]
   symm;apply decide_eq_false;omega
 ·subst c
  refine Ev.neg (by decide) (Ev.neg (by decide) (Ev.neg (by decide) (Ev.pos rfl (fin _ ?_))))
  unfold bey;rw [if_neg (by decide),if_neg (by decide),if_neg (by decide)]
  by_cases c1 : t / W = 0
  ·rw [if_neg (by omega),c1];rfl
  ·rw [if_pos (by omega),show (t / W == 0) = false from beq_eq_false_iff_ne.2 c1]
   have:=Int.mul_le_mul_of_nonneg_right (show 1 ≤ t / W by omega) (show 0 ≤ W by omega)
   symm;apply decide_eq_false;omega
theorem ref_joined_ev (h : Good W H A Y) (ht : 0 ≤ t ∧ t < W * H) (hs : 0 ≤ s ∧ s ≤ 3) : Ev (fun k => hinterlandref17_joined.f k W H A Y t s) (may W H A Y t s) := by
 unfold hinterlandref17_joined.f may
 refine Ev.bind (ref_linked_ev h ht hs) ?_
 have hY:=h.hY
 by_cases c0 : 0 ≤ meets W H A t s
 rotate_left
 ·rw [decide_eq_false c0];exact Ev.neg (by simp) (Ev.now _)
 have hm:=meets_at h ht s
 have hb : 0 ≤ bey W H t s:=by omega
 rw [decide_eq_true c0]
 refine Ev.pos rfl (Ev.pos ht.1 (Ev.pos (by omega) (Ev.bindc (ref_free_eq (h.way ht) s) ?_)))
 by_cases c1 : lets (rd Y t) s = true
 ·refine Ev.pos c1 (Ev.bindc (ref_beyond_eq (h.on ht) hs A Y) ?_)
  rw [bside_bey hb]
  refine Ev.pos hb (Ev.pos (by omega) (Ev.bindc (ref_free_eq (h.way ⟨by omega,by omega⟩) s) (Ev.eq (Ev.now _) ?_)))
  rw [c1];simp
 ·refine Ev.eq (Ev.neg c1 (Ev.now _)) ?_
  rw [Bool.eq_false_iff.2 c1];rfl
theorem ref_leave_ev (h : Good W H A Y) (ht : 0 ≤ t ∧ t < W * H) {f : Int} (hf : f ≤ 3) : Ev (fun k => hinterlandref17_leave.f k W H A Y t f) (outs W H A Y t f) := by
 unfold hinterlandref17_leave.f
 have go : ∀ n i : Nat,i + n = 4 → Ev (fun k => hinterlandref17_leave.l0 k t f (sel W H A Y t f i) (i : Int) W H A Y) (outs W H A Y t f):=by
  intro n
  induction n with
  | zero =>
   intro i hi
   obtain rfl : i = 4:=by omega
   refine Ev.step (fun k => by simp only [hinterlandref17_leave.l0];rfl) (Ev.neg (by omega) ?_)
   unfold outs
   by_cases c : sel W H A Y t f 4 = []
   ·refine Ev.pos (by rw [c];rfl) ?_
    by_cases c0 : f ≥ 0
    ·refine Ev.pos c0 (Ev.bind (ref_joined_ev h ht ⟨c0,hf⟩) ?_)
     by_cases c1 : may W H A Y t f = true
     ·refine Ev.eq (Ev.pos c1 (Ev.pos (by have:=sel_len (W:=W) (H:=H) (A:=A) (Y:=Y) (t:=t) f 4;omega) (Ev.now _))) ?_
      rw [if_pos ⟨c,c0,c1⟩,c];rfl
     ·exact Ev.eq (Ev.neg c1 (Ev.now _)) (if_neg (fun h => c1 h.2.2)).symm
    ·exact Ev.eq (Ev.neg c0 (Ev.now _)) (if_neg (fun h => c0 h.2.1)).symm
   ·exact Ev.eq (Ev.neg (by simpa using c) (Ev.now _)) (if_neg (fun h => c h.1)).symm
  | succ n ih =>
   intro i hi
   have ih:=ih (i + 1) (by omega)
   rw [show ((i + 1 : Nat) : Int) = (i : Int) + 1 from by omega] at ih
   unfold sel at ih
   refine Ev.step (fun k => by simp only [hinterlandref17_leave.l0];rfl) (Ev.pos (by omega) ?_)
   rw [wrap_in (x:=(i : Int) + 1) (by omega) (by omega)]
   by_cases c : (i : Int) = f
   ·rw [if_pos c] at ih
    exact Ev.pos c ih
   ·rw [if_neg c] at ih
    refine Ev.neg c (Ev.bind (ref_joined_ev h ht ⟨by omega,by omega⟩) ?_)
    by_cases c1 : may W H A Y t i = true
    ·rw [if_pos c1] at ih
     exact Ev.pos c1 (Ev.pos (by have:=sel_len (W:=W) (H:=H) (A:=A) (Y:=Y) (t:=t) f i;omega) ih)
    ·rw [if_neg c1] at ih
     exact Ev.neg c1 ih
 exact go 4 0 (by omega)
end
end Go.Proofs.Ythjmdpekcleihaa.Pure
