/- Layer 17: which lanes are right, as the reference finds it: the same. No conditions. -/
import Derived.Test.YthjmdpekcleihaaPx0
import Derived.Test.YthjmdpekcleihaaPx3
import Derived.Test.YthjmdpekcleihaaPx7
import Derived.Test.YthjmdpekcleihaaPx14
import Derived.Test.YthjmdpekcleihaaPx15
import Derived.Test.YthjmdpekcleihaaLane4
import Derived.Test.YthjmdpekcleihaaLaneS
import Derived.Test.YthjmdpekcleihaaLaneR
namespace Go.Proofs.Ythjmdpekcleihaa.Pure
set_option linter.unusedVariables false
set_option linter.unusedSimpArgs false
open Go.RowKit Go.Proofs.YthjmdpekcleihaaW.PrintWords Go.Proofs.Ythjmdpekcleihaa.P Go.Proofs.Ythjmdpekcleihaa

theorem piece_eq (x : S50) : hinterlandref17_piece.f x.f0 x.f1 x.f2 x.f3 x.f4 = some (decide (¬ Mov x)) := by
 have bad : ¬ ((-1 ≤ x.f1 ∧ x.f1 ≤ 3) ∧ (0 ≤ x.f2 ∧ x.f2 ≤ 3) ∧ (0 ≤ x.f3 ∧ x.f3 ≤ 192) ∧ (0 ≤ x.f4 ∧ x.f4 ≤ 191)) → decide (¬ Mov x) = true:=fun h => decide_eq_true (fun m => by
  unfold Mov at m
  split at m
  ·exact h ⟨by omega,by omega,by omega,by omega⟩
  ·exact h m)
 unfold hinterlandref17_piece.f
 by_cases h1 : x.f1 < -1
 ·rw [if_pos h1,bad (by omega)]
 rw [if_neg h1]
 by_cases h2 : x.f1 > 3
 ·rw [if_pos h2,bad (by omega)]
 rw [if_neg h2]
 by_cases h3 : x.f2 < 0
 ·rw [if_pos h3,bad (by omega)]
 rw [if_neg h3]
 by_cases h4 : x.f2 > 3
 ·rw [if_pos h4,bad (by omega)]
 rw [if_neg h4]
 by_cases h5 : x.f3 < 0
 ·rw [if_pos h5,bad (by omega)]
 rw [if_neg h5]
 by_cases h6 : x.f3 > 192
 ·rw [if_pos h6,bad (by omega)]
 rw [if_neg h6]
 by_cases h7 : x.f4 < 0
 ·rw [if_pos h7,bad (by omega)]
 rw [if_neg h7]
 by_cases h8 : x.f4 ≥ 192
 ·rw [if_pos h8,bad (by omega)]
 rw [if_neg h8]
 by_cases h0 : x.f0 = -1
 rotate_left
 ·have m : Mov x:=by unfold Mov;rw [if_neg h0];exact ⟨by omega,by omega,by omega,by omega⟩
  rw [if_neg h0,decide_eq_false (fun k => k m)]
 have mi : Mov x ↔ (x.f1 = -1 ∧ x.f2 = 0 ∧ x.f3 = 0 ∧ x.f4 = 0):=by unfold Mov;rw [if_pos h0]
 rw [if_pos h0]
 by_cases k1 : x.f1 = -1
 rotate_left
 ·rw [if_neg k1,decide_eq_true (show ¬ Mov x from fun k => k1 (mi.1 k).1)]
 rw [if_pos k1]
 by_cases k2 : x.f2 = 0
 rotate_left
 ·rw [if_neg k2,decide_eq_true (show ¬ Mov x from fun k => k2 (mi.1 k).2.1)]
 rw [if_pos k2]
 by_cases k3 : x.f3 = 0
 rotate_left
 ·rw [if_neg k3,decide_eq_true (show ¬ Mov x from fun k => k3 (mi.1 k).2.2.1)]
 rw [if_pos k3]
 by_cases k4 : x.f4 = 0
 ·rw [decide_eq_false (fun k => k (mi.2 ⟨k1,k2,k3,k4⟩)),show (x.f4 != 0) = false from bne_eq_false_iff_eq.2 k4]
 ·rw [decide_eq_true (show ¬ Mov x from fun k => k4 (mi.1 k).2.2.2),show (x.f4 != 0) = true from bne_iff_ne.2 k4]
section
variable {W H : Int} {A Y C : List Int} {T : List S50}
def Tk (T : List S50) (i : Nat) (t s : Int) : Prop := ∃ k, k < T.length ∧ k ≠ i ∧ (T.getD k z50).f0 = t ∧ (T.getD k z50).f2 = s
open Classical in
theorem taken_ev (hT : T.length ≤ 1000) (i : Nat) (t s : Int) (W H : Int) (A Y C : List Int) : Ev (fun k => hinterlandref17_taken.f k W H A Y C T (i : Int) t s) (decide (0 ≤ t ∧ Tk T i t s)) := by
 unfold hinterlandref17_taken.f
 have good : ∀ j,j < T.length → ¬ (j ≠ i ∧ 0 ≤ t ∧ (T.getD j z50).f0 = t ∧ (T.getD j z50).f2 = s) → ∀ r,Ev (fun k => hinterlandref17_taken.l0 k (i : Int) t s ((j : Int) + 1) W H A Y C T) r → Ev (fun k => hinterlandref17_taken.l0 k (i : Int) t s (j : Int) W H A Y C T) r:=by
  intro j hj hp r hr
  refine Ev.step (fun k => by simp only [hinterlandref17_taken.l0];rfl) (Ev.pos (by omega) ?_)
  rw [rdT,wrap_in (x:=(j : Int) + 1) (by omega) (by omega)]
  by_cases c : j = i
  ·exact Ev.pos (by omega) hr
  refine Ev.neg (by omega) ?_
  by_cases c0 : t ≥ 0
  rotate_left
  ·exact Ev.neg c0 hr
  refine Ev.pos c0 (Ev.pos (by omega) ?_)
  by_cases c1 : (T.getD j z50).f0 = t
  rotate_left
  ·exact Ev.neg c1 hr
  refine Ev.pos c1 ?_
  by_cases c2 : (T.getD j z50).f2 = s
  ·exact absurd ⟨c,c0,c1,c2⟩ hp
  ·exact Ev.neg c2 hr
 have bad : ∀ j,j < T.length → ¬ ¬ (j ≠ i ∧ 0 ≤ t ∧ (T.getD j z50).f0 = t ∧ (T.getD j z50).f2 = s) → Ev (fun k => hinterlandref17_taken.l0 k (i : Int) t s (j : Int) W H A Y C T) true:=by
  intro j hj hp
  obtain ⟨p1,p2,p3,p4⟩:=Classical.not_not.1 hp
  refine Ev.step (fun k => by simp only [hinterlandref17_taken.l0];rfl) (Ev.pos (by omega) ?_)
  rw [rdT]
  exact Ev.neg (by omega) (Ev.pos p2 (Ev.pos (by omega) (Ev.pos p3 (Ev.pos p4 (Ev.now _)))))
 by_cases c : 0 ≤ t ∧ Tk T i t s
 ·rw [decide_eq_true c]
  obtain ⟨c0,k,k1,k2,k3,k4⟩:=c
  exact Ev.scan_some (g:=fun k j => hinterlandref17_taken.l0 k (i : Int) t s j W H A Y C T) good bad T.length 0 (by omega) ⟨k,by omega,k1,fun h => h ⟨k2,c0,k3,k4⟩⟩
 ·rw [decide_eq_false c]
  exact Ev.scan_all (g:=fun k j => hinterlandref17_taken.l0 k (i : Int) t s j W H A Y C T) (Ev.step (fun k => by simp only [hinterlandref17_taken.l0];rfl) (Ev.neg (by omega) (Ev.now _))) good T.length 0 (by omega) (fun j _ hj h => c ⟨h.2.1,j,hj,h.1,h.2.2.1,h.2.2.2⟩)
theorem dist_iff (ht : Tiles W H T) : DistF T 0 ↔ ∀ i, 0 ≤ i → i < T.length → ¬ (0 ≤ (T.getD i z50).f0 ∧ Tk T i (T.getD i z50).f0 (T.getD i z50).f2) := by
 constructor
 ·rintro h i _ hi ⟨h0,k,k1,k2,k3,k4⟩
  rcases Nat.lt_or_gt_of_ne k2 with c | c
  ·exact (h i (by omega) hi).elim (fun e => by omega) (fun e => e ⟨k,c,k3,k4⟩)
  ·exact (h k (by omega) k1).elim (fun e => by omega) (fun e => e ⟨i,c,k3.symm,k4.symm⟩)
 ·intro h j _ hj
  by_cases c : (T.getD j z50).f0 = -1
  ·exact .inl c
  refine .inr ?_
  rintro ⟨k,k1,k2,k3⟩
  have:=(ht j (by omega) hj).resolve_left c
  exact h j (by omega) hj ⟨by omega,k,by omega,by omega,k2,k3⟩
open Classical in
theorem ref_lane_validate_ev (hA : A.length ≤ 4000) (hY : Y.length ≤ 4000) (hC : C.length ≤ 4000) (hT : T.length ≤ 1000) : Ev (fun k => hinterlandref17_Validate.f k W H A Y C T) (lcode W H A Y C T) := by
 unfold hinterlandref17_Validate.f lcode
 refine Ev.bind (ref_validate_ev hA hY) ?_
 by_cases hv : vcode W H A Y = 0
 rotate_left
 ·rw [if_neg hv];exact Ev.neg hv (Ev.now _)
 rw [if_pos hv]
 refine Ev.pos hv ?_
 by_cases h60 : T.length > 60
 ·rw [if_pos h60];exact Ev.pos (by omega) (Ev.now _)
 rw [if_neg h60]
 refine Ev.neg (by omega) ?_
 have h:=good_of hv
 have hAl:=h.hA
 have good0 : ∀ i,i < C.length → (0 < i → C.getD (i - 1) 0 < C.getD i 0) → ∀ r,Ev (fun k => hinterlandref17_Validate.l0 k (((i + 1 : Nat) : Int)) W H A Y C T) r → 0 < i → Ev (fun k => hinterlandref17_Validate.l0 k (i : Int) W H A Y C T) r:=by
  intro i hi hp r hr c
  have hp:=hp c
  refine Ev.step (fun k => by simp only [hinterlandref17_Validate.l0];rfl) (Ev.pos (by omega) ?_)
  rw [wrap_in (x:=(i : Int) + 1) (by omega) (by omega),wrap_in (x:=(i : Int) - 1) (by omega) (by omega),show (i : Int) - 1 = ((i - 1 : Nat) : Int) by omega,rdN,rdN,show (i : Int) + 1 = ((i + 1 : Nat) : Int) by omega]
  exact Ev.pos (by omega) (Ev.pos (by omega) (Ev.pos (by omega) (Ev.neg (by omega) hr)))
 have bad0 : ∀ i,i < C.length → 0 < i → ¬ (C.getD (i - 1) 0 < C.getD i 0) → Ev (fun k => hinterlandref17_Validate.l0 k (i : Int) W H A Y C T) 1:=by
  intro i hi c hp
  refine Ev.step (fun k => by simp only [hinterlandref17_Validate.l0];rfl) (Ev.pos (by omega) ?_)
  rw [wrap_in (x:=(i : Int) - 1) (by omega) (by omega),show (i : Int) - 1 = ((i - 1 : Nat) : Int) by omega,rdN,rdN]
  exact Ev.pos (by omega) (Ev.pos (by omega) (Ev.pos (by omega) (Ev.pos (by omega) (Ev.now _))))
 have l0 : ∀ r,Ev (fun k => hinterlandref17_Validate.l1 k (0 : Int) W H A Y C T) r → ∀ d i,0 < i → i + d = C.length + 1 → Ev (fun k => hinterlandref17_Validate.l0 k (i : Int) W H A Y C T) (if ∀ j,i ≤ j → j < C.length → C.getD (j - 1) 0 < C.getD j 0 then r else 1):=by
  intro r hr d
  induction d with
  | zero =>
   intro i h0 hi
   rw [if_pos (fun j h1 h2 => by omega)]
   exact Ev.step (fun k => by simp only [hinterlandref17_Validate.l0];rfl) (Ev.neg (by omega) hr)
  | succ d ih =>
   intro i h0 hi
   have ih:=ih (i + 1) (by omega) (by omega)
   by_cases e : i < C.length
   rotate_left
   ·rw [if_pos (fun j h1 h2 => by omega)]
    exact Ev.step (fun k => by simp only [hinterlandref17_Validate.l0];rfl) (Ev.neg (by omega) hr)
   by_cases c : C.getD (i - 1) 0 < C.getD i 0
   ·refine Ev.eq (good0 i e (fun _ => c) _ ih h0) ?_
    by_cases q : ∀ j,i ≤ j → j < C.length → C.getD (j - 1) 0 < C.getD j 0
    ·rw [if_pos q,if_pos (fun j h1 h2 => q j (by omega) h2)]
    ·rw [if_neg q,if_neg (fun q2 => q (fun j h1 h2 => by
      by_cases e2 : j = i
      ·rw [e2];exact c
      ·exact q2 j (by omega) h2))]
   ·rw [if_neg (fun q => c (q i (Nat.le_refl _) e))]
    exact bad0 i e h0 c
 have good1 : ∀ i,i < T.length → Mov (T.getD i z50) → ∀ r,Ev (fun k => hinterlandref17_Validate.l1 k ((i : Int) + 1) W H A Y C T) r → Ev (fun k => hinterlandref17_Validate.l1 k (i : Int) W H A Y C T) r:=by
  intro i hi hp r hr
  refine Ev.step (fun k => by simp only [hinterlandref17_Validate.l1];rfl) (Ev.pos (by omega) (Ev.pos (by omega) ?_))
  rw [rdT,wrap_in (x:=(i : Int) + 1) (by omega) (by omega)]
  exact Ev.bindc (piece_eq _) (Ev.neg (fun k => of_decide_eq_true k hp) hr)
 have bad1 : ∀ i,i < T.length → ¬ Mov (T.getD i z50) → Ev (fun k => hinterlandref17_Validate.l1 k (i : Int) W H A Y C T) 1:=by
  intro i hi hp
  refine Ev.step (fun k => by simp only [hinterlandref17_Validate.l1];rfl) (Ev.pos (by omega) (Ev.pos (by omega) ?_))
  rw [rdT]
  exact Ev.bindc (piece_eq _) (Ev.pos (decide_eq_true hp) (Ev.now _))
 have good2 : ∀ i,i < T.length → ((T.getD i z50).f0 = -1 ∨ (0 ≤ (T.getD i z50).f0 ∧ (T.getD i z50).f0 < W * H)) → ∀ r,Ev (fun k => hinterlandref17_Validate.l2 k ((i : Int) + 1) W H A Y C T) r → Ev (fun k => hinterlandref17_Validate.l2 k (i : Int) W H A Y C T) r:=by
  intro i hi hp r hr
  refine Ev.step (fun k => by simp only [hinterlandref17_Validate.l2];rfl) (Ev.pos (by omega) (Ev.pos (by omega) ?_))
  rw [rdT,wrap_in (x:=(i : Int) + 1) (by omega) (by omega)]
  exact Ev.neg (by omega) (Ev.neg (by have:=area h.hW h.hH;omega) hr)
 have bad2 : ∀ i,i < T.length → ¬ ((T.getD i z50).f0 = -1 ∨ (0 ≤ (T.getD i z50).f0 ∧ (T.getD i z50).f0 < W * H)) → Ev (fun k => hinterlandref17_Validate.l2 k (i : Int) W H A Y C T) 2:=by
  intro i hi hp
  refine Ev.step (fun k => by simp only [hinterlandref17_Validate.l2];rfl) (Ev.pos (by omega) (Ev.pos (by omega) ?_))
  rw [rdT]
  by_cases c : (T.getD i z50).f0 < -1
  ·exact Ev.pos c (Ev.now _)
  ·exact Ev.neg c (Ev.pos (by omega) (Ev.now _))
 have fin : Movs T → Ev (fun k => hinterlandref17_Validate.l2 k (0 : Int) W H A Y C T) (scode W H A T):=by
  intro hm
  unfold scode
  by_cases t1 : Tiles W H T
  rotate_left
  ·rw [if_neg t1]
   exact Ev.scan_some (g:=fun k i => hinterlandref17_Validate.l2 k i W H A Y C T) good2 bad2 T.length 0 (by omega) (by
    apply Classical.byContradiction
    intro hc
    exact t1 fun j h1 h2 => Classical.byContradiction fun h3 => hc ⟨j,h1,h2,h3⟩)
  rw [if_pos t1]
  refine Ev.scan_all (g:=fun k i => hinterlandref17_Validate.l2 k i W H A Y C T) (Ev.step (fun k => by simp only [hinterlandref17_Validate.l2];rfl) (Ev.neg (by omega) ?_)) good2 T.length 0 (by omega) t1
  have good3 : ∀ i,i < T.length → ((T.getD i z50).f0 = -1 ∨ 0 ≤ meets W H A (T.getD i z50).f0 (T.getD i z50).f2) → ∀ r,Ev (fun k => hinterlandref17_Validate.l3 k ((i : Int) + 1) W H A Y C T) r → Ev (fun k => hinterlandref17_Validate.l3 k (i : Int) W H A Y C T) r:=by
   intro i hi hp r hr
   refine Ev.step (fun k => by simp only [hinterlandref17_Validate.l3];rfl) (Ev.pos (by omega) (Ev.pos (by omega) ?_))
   rw [rdT,wrap_in (x:=(i : Int) + 1) (by omega) (by omega)]
   by_cases c : (T.getD i z50).f0 = -1
   ·exact Ev.pos (by omega) hr
   have ht:=(t1 i (by omega) hi).resolve_left c
   have hs : 0 ≤ (T.getD i z50).f2 ∧ (T.getD i z50).f2 ≤ 3:=by have:=hm i (by omega) hi;unfold Mov at this;rw [if_neg c] at this;exact this.2.1
   exact Ev.neg (by omega) (Ev.bind (ref_linked_ev h ht hs) (Ev.pos (decide_eq_true (hp.resolve_left c)) hr))
  have bad3 : ∀ i,i < T.length → ¬ ((T.getD i z50).f0 = -1 ∨ 0 ≤ meets W H A (T.getD i z50).f0 (T.getD i z50).f2) → Ev (fun k => hinterlandref17_Validate.l3 k (i : Int) W H A Y C T) 8:=by
   intro i hi hp
   refine Ev.step (fun k => by simp only [hinterlandref17_Validate.l3];rfl) (Ev.pos (by omega) (Ev.pos (by omega) ?_))
   rw [rdT]
   have c : ¬ (T.getD i z50).f0 = -1:=fun c => hp (.inl c)
   have ht:=(t1 i (by omega) hi).resolve_left c
   have hs : 0 ≤ (T.getD i z50).f2 ∧ (T.getD i z50).f2 ≤ 3:=by have:=hm i (by omega) hi;unfold Mov at this;rw [if_neg c] at this;exact this.2.1
   exact Ev.neg (by omega) (Ev.bind (ref_linked_ev h ht hs) (Ev.neg (fun k => hp (.inr (of_decide_eq_true k))) (Ev.now _)))
  by_cases t2 : Joins W H A T
  rotate_left
  ·rw [if_neg t2]
   exact Ev.scan_some (g:=fun k i => hinterlandref17_Validate.l3 k i W H A Y C T) good3 bad3 T.length 0 (by omega) (by
    apply Classical.byContradiction
    intro hc
    exact t2 fun j h1 h2 => Classical.byContradiction fun h3 => hc ⟨j,h1,h2,h3⟩)
  rw [if_pos t2]
  refine Ev.scan_all (g:=fun k i => hinterlandref17_Validate.l3 k i W H A Y C T) (Ev.step (fun k => by simp only [hinterlandref17_Validate.l3];rfl) (Ev.neg (by omega) ?_)) good3 T.length 0 (by omega) t2
  have good4 : ∀ i,i < T.length → ¬ (0 ≤ (T.getD i z50).f0 ∧ Tk T i (T.getD i z50).f0 (T.getD i z50).f2) → ∀ r,Ev (fun k => hinterlandref17_Validate.l4 k ((i : Int) + 1) W H A Y C T) r → Ev (fun k => hinterlandref17_Validate.l4 k (i : Int) W H A Y C T) r:=by
   intro i hi hp r hr
   refine Ev.step (fun k => by simp only [hinterlandref17_Validate.l4];rfl) (Ev.pos (by omega) (Ev.pos (by omega) ?_))
   rw [rdT,wrap_in (x:=(i : Int) + 1) (by omega) (by omega)]
   exact Ev.bind (taken_ev hT i _ _ W H A Y C) (Ev.neg (fun k => hp (of_decide_eq_true k)) hr)
  have bad4 : ∀ i,i < T.length → ¬ ¬ (0 ≤ (T.getD i z50).f0 ∧ Tk T i (T.getD i z50).f0 (T.getD i z50).f2) → Ev (fun k => hinterlandref17_Validate.l4 k (i : Int) W H A Y C T) 7:=by
   intro i hi hp
   refine Ev.step (fun k => by simp only [hinterlandref17_Validate.l4];rfl) (Ev.pos (by omega) (Ev.pos (by omega) ?_))
   rw [rdT]
   exact Ev.bind (taken_ev hT i _ _ W H A Y C) (Ev.pos (decide_eq_true (Classical.not_not.1 hp)) (Ev.now _))
  by_cases t3 : DistF T 0
  ·rw [if_pos t3]
   exact Ev.scan_all (g:=fun k i => hinterlandref17_Validate.l4 k i W H A Y C T) (Ev.step (fun k => by simp only [hinterlandref17_Validate.l4];rfl) (Ev.neg (by omega) (Ev.now _))) good4 T.length 0 (by omega) ((dist_iff t1).1 t3)
  ·rw [if_neg t3]
   exact Ev.scan_some (g:=fun k i => hinterlandref17_Validate.l4 k i W H A Y C T) good4 bad4 T.length 0 (by omega) (by
    apply Classical.byContradiction
    intro hc
    exact t3 ((dist_iff t1).2 fun j h1 h2 h3 => hc ⟨j,h1,h2,fun h4 => h4 h3⟩))
 have mid : Ev (fun k => hinterlandref17_Validate.l1 k (0 : Int) W H A Y C T) (if Movs T then scode W H A T else 1):=by
  by_cases hm : Movs T
  ·rw [if_pos hm]
   exact Ev.scan_all (g:=fun k i => hinterlandref17_Validate.l1 k i W H A Y C T) (Ev.step (fun k => by simp only [hinterlandref17_Validate.l1];rfl) (Ev.neg (by omega) (fin hm))) good1 T.length 0 (by omega) hm
  ·rw [if_neg hm]
   exact Ev.scan_some (g:=fun k i => hinterlandref17_Validate.l1 k i W H A Y C T) good1 bad1 T.length 0 (by omega) (not_all hm)
 have:=l0 _ mid C.length 1 (by omega) (by omega)
 refine Ev.eq this ?_
 by_cases hs : Sorted C
 ·rw [if_pos hs,if_pos (fun j h1 h2 => hs j (by omega) h2 (by omega))]
 ·rw [if_neg hs,if_neg (fun q => hs (fun j _ h2 h3 => q j (by omega) h2))]
end
theorem known_ev : Ev (fun k => hinterlandlaw17_known.f k) true := by
 refine Ev.of (fun k => hinterlandlaw17_known.mono k) (k:=60) ?_
 decide +kernel
theorem known_then : Ev (fun k => (hinterlandlaw17_known.f k).bind fun t => some t) true := Ev.bind known_ev (Ev.now _)
theorem far_eq (W H : Int) (A Y C : List Int) (T : List S50) : hinterlandlaw17_far.f W H A Y C T = some (decide ((A.length : Int) > 1100 ∨ (Y.length : Int) > 1100 ∨ (C.length : Int) > 1100 ∨ (T.length : Int) > 100)) := by
 unfold hinterlandlaw17_far.f hinterlandlaw17_wide.f
 by_cases h1 : (A.length : Int) > 1100
 ·rw [if_pos h1,Option.bind_some,if_pos rfl,decide_eq_true (.inl h1)]
 rw [if_neg h1,Option.bind_some]
 by_cases h2 : (Y.length : Int) > 1100
 ·rw [decide_eq_true h2,if_pos rfl,decide_eq_true (.inr (.inl h2))]
 rw [decide_eq_false h2,if_neg (by simp)]
 by_cases h3 : (C.length : Int) > 1100
 ·rw [if_pos h3,decide_eq_true (.inr (.inr (.inl h3)))]
 ·rw [if_neg h3];congr 1;apply decide_eq_decide.2;omega
end Go.Proofs.Ythjmdpekcleihaa.Pure
