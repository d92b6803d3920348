/- Layer 17: which lanes are right, as the program finds it. No conditions. -/
import Derived.Test.YthjmdpekcleihaaPx0
import Derived.Test.YthjmdpekcleihaaPx16
import Derived.Test.YthjmdpekcleihaaPx17
import Derived.Test.YthjmdpekcleihaaLane1
namespace Go.Proofs.Ythjmdpekcleihaa.Pure
set_option linter.unusedVariables false
set_option linter.unusedSimpArgs false
open Go.RowKit Go.Proofs.YthjmdpekcleihaaW.PrintWords Go.Proofs.Ythjmdpekcleihaa.P Go.Proofs.Ythjmdpekcleihaa

theorem rdT (l : List S50) (i : Nat) : rd_T50 l (i : Int) = l.getD i z50 := by unfold rd_T50; simp
def Sorted (C : List Int) : Prop := ∀ j, 0 ≤ j → j < C.length → 0 < j → C.getD (j - 1) 0 < C.getD j 0
def Mov (x : S50) : Prop := if x.f0 = -1 then x.f1 = -1 ∧ x.f2 = 0 ∧ x.f3 = 0 ∧ x.f4 = 0 else (-1 ≤ x.f1 ∧ x.f1 ≤ 3) ∧ (0 ≤ x.f2 ∧ x.f2 ≤ 3) ∧ (0 ≤ x.f3 ∧ x.f3 ≤ 192) ∧ (0 ≤ x.f4 ∧ x.f4 ≤ 191)
instance (x : S50) : Decidable (Mov x) := by unfold Mov; infer_instance
def Movs (T : List S50) : Prop := ∀ j, 0 ≤ j → j < T.length → Mov (T.getD j z50)
def Tiles (W H : Int) (T : List S50) : Prop := ∀ j, 0 ≤ j → j < T.length → (T.getD j z50).f0 = -1 ∨ (0 ≤ (T.getD j z50).f0 ∧ (T.getD j z50).f0 < W * H)
def Joins (W H : Int) (A : List Int) (T : List S50) : Prop := ∀ j, 0 ≤ j → j < T.length → (T.getD j z50).f0 = -1 ∨ 0 ≤ meets W H A (T.getD j z50).f0 (T.getD j z50).f2
def Same (x y : S50) : Prop := x.f0 = y.f0 ∧ x.f2 = y.f2
instance (x y : S50) : Decidable (Same x y) := by unfold Same; infer_instance
def DistF (T : List S50) (i : Nat) : Prop := ∀ j, i ≤ j → j < T.length → (T.getD j z50).f0 = -1 ∨ ¬ ∃ k, k < j ∧ Same (T.getD k z50) (T.getD j z50)
open Classical in
noncomputable def scode (W H : Int) (A : List Int) (T : List S50) : Int := if Tiles W H T then (if Joins W H A T then (if DistF T 0 then 0 else 7) else 8) else 2
open Classical in
noncomputable def lcode (W H : Int) (A Y C : List Int) (T : List S50) : Int :=
 if vcode W H A Y = 0 then (if T.length > 60 then 4 else if Sorted C then (if Movs T then scode W H A T else 1) else 1) else vcode W H A Y
theorem lcode_zero {W H : Int} {A Y C : List Int} {T : List S50} (h : lcode W H A Y C T = 0) : vcode W H A Y = 0 ∧ T.length ≤ 60 ∧ Sorted C ∧ Movs T ∧ Tiles W H T ∧ Joins W H A T ∧ DistF T 0 := by
 unfold lcode at h
 by_cases h1 : vcode W H A Y = 0
 rotate_left
 ·rw [if_neg h1] at h;exact absurd h h1
 rw [if_pos h1] at h
 by_cases h2 : T.length > 60
 ·rw [if_pos h2] at h;exact absurd h (by decide)
 rw [if_neg h2] at h
 by_cases h3 : Sorted C
 rotate_left
 ·rw [if_neg h3] at h;exact absurd h (by decide)
 rw [if_pos h3] at h
 by_cases h4 : Movs T
 rotate_left
 ·rw [if_neg h4] at h;exact absurd h (by decide)
 rw [if_pos h4] at h
 unfold scode at h
 by_cases h5 : Tiles W H T
 rotate_left
 ·rw [if_neg h5] at h;exact absurd h (by decide)
 rw [if_pos h5] at h
 by_cases h6 : Joins W H A T
 rotate_left
 ·rw [if_neg h6] at h;exact absurd h (by decide)
 rw [if_pos h6] at h
 by_cases h7 : DistF T 0
 rotate_left
 ·rw [if_neg h7] at h;exact absurd h (by decide)
 exact ⟨h1,by omega,h3,h4,h5,h6,h7⟩
theorem moves_eq (x : S50) : lane_moves.f x.f0 x.f1 x.f2 x.f3 x.f4 = some (decide (Mov x)) := by
 unfold lane_moves.f Mov
 simp only [within_eq,Option.bind_some,decide_eq_true_eq]
 repeat' split
 all_goals first | (simp_all;done) | (congr 1;symm;apply decide_eq_false;omega) | (congr 1;apply decide_eq_decide.2;omega) | (congr 1;simp;omega)
section
variable {W H : Int} {A Y C : List Int} {T : List S50}
def Held (T : List S50) (i : Nat) (m : List (Int × Int)) : Prop := ∀ p : Int × Int, mqHas p m = true ↔ ∃ k, k < i ∧ ((T.getD k z50).f0, (T.getD k z50).f2) = p
theorem held_put {i : Nat} {m : List (Int × Int)} (h : Held T i m) : Held T (i + 1) (mqPut ((T.getD i z50).f0, (T.getD i z50).f2) m) := by
 intro p
 have hm : mqHas p (mqPut ((T.getD i z50).f0,(T.getD i z50).f2) m) = true ↔ mqHas p m = true ∨ ((T.getD i z50).f0,(T.getD i z50).f2) = p:=by
  unfold mqPut
  by_cases c : mqHas ((T.getD i z50).f0,(T.getD i z50).f2) m = true
  ·rw [if_pos c]
   constructor
   ·exact .inl
   ·rintro (k | k)
    ·exact k
    ·rw [← k];exact c
  ·rw [if_neg c]
   unfold mqHas
   simp only [List.contains_eq_mem,List.mem_append,List.mem_singleton,decide_eq_true_eq]
   constructor
   ·rintro (k | k)
    ·exact .inl k
    ·exact .inr k.symm
   ·rintro (k | k)
    ·exact .inl k
    ·exact .inr k.symm
 rw [hm,h p]
 constructor
 ·rintro (⟨k,k1,k2⟩ | k)
  ·exact ⟨k,by omega,k2⟩
  ·exact ⟨i,by omega,k⟩
 ·rintro ⟨k,k1,k2⟩
  by_cases e : k = i
  ·rw [e] at k2;exact .inr k2
  ·exact .inl ⟨k,by omega,k2⟩
open Classical in
theorem stand_l2 (hT : T.length ≤ 1000) : ∀ d i, i + d = T.length → ∀ m, Held T i m → Ev (fun k => lane_stand.l2 k T (T.length : Int) (i : Int) m) (if DistF T i then 0 else 7)
 | 0,i,hi,m,hm => by
  rw [if_pos (show DistF T i from fun j h1 h2 => by omega)]
  exact Ev.step (fun k => by simp only [lane_stand.l2];rfl) (Ev.neg (by omega) (Ev.now _))
 | d + 1,i,hi,m,hm => by
  have ih:=stand_l2 hT d (i + 1) (by omega) _ (held_put hm)
  rw [show ((i + 1 : Nat) : Int) = (i : Int) + 1 by omega] at ih
  have hh:=hm ((T.getD i z50).f0,(T.getD i z50).f2)
  refine Ev.step (fun k => by simp only [lane_stand.l2];rfl) (Ev.pos (by omega) (Ev.pos (by omega) (Ev.pos (by omega) ?_)))
  rw [rdT,wrap_in (x:=(i : Int) + 1) (by omega) (by omega)]
  have next : ((T.getD i z50).f0 = -1 ∨ ¬ ∃ k,k < i ∧ Same (T.getD k z50) (T.getD i z50)) → (DistF T (i + 1) ↔ DistF T i):=by
   intro h0
   constructor
   ·intro h j h1 h2
    by_cases e : j = i
    ·rw [e];exact h0
    ·exact h j (by omega) h2
   ·intro h j h1 h2
    exact h j (by omega) h2
  by_cases c : (T.getD i z50).f0 = -1
  ·have:=next (.inl c)
   refine Ev.eq (Ev.pos c ih) ?_
   by_cases e : DistF T i
   ·rw [if_pos e,if_pos (this.2 e)]
   ·rw [if_neg e,if_neg (fun k => e (this.1 k))]
  refine Ev.neg c ?_
  by_cases c2 : mqHas ((T.getD i z50).f0,(T.getD i z50).f2) m = true
  ·refine Ev.eq (Ev.pos c2 (Ev.now _)) ?_
   rw [if_neg]
   intro hd
   obtain ⟨k,k1,k2⟩:=hh.1 c2
   simp only [Prod.mk.injEq] at k2
   exact (hd i (Nat.le_refl _) (by omega)).elim c (fun k3 => k3 ⟨k,k1,k2⟩)
  ·have:=next (.inr (fun ⟨k,k1,k2⟩ => c2 (hh.2 ⟨k,k1,by rw [k2.1,k2.2]⟩)))
   refine Ev.eq (Ev.neg c2 ih) ?_
   by_cases e : DistF T i
   ·rw [if_pos e,if_pos (this.2 e)]
   ·rw [if_neg e,if_neg (fun k => e (this.1 k))]
open Classical in
theorem stand_ev (h : Good W H A Y) (hT : T.length ≤ 1000) (hm : Movs T) (C : List Int) : Ev (fun k => lane_stand.f k W H A Y C T) (scode W H A T) := by
 have ha:=area h.hW h.hH
 unfold lane_stand.f
 have good0 : ∀ i,i < T.length → ((T.getD i z50).f0 = -1 ∨ (0 ≤ (T.getD i z50).f0 ∧ (T.getD i z50).f0 < W * H)) → ∀ r,Ev (fun k => lane_stand.l0 k T (T.length : Int) ((i : Int) + 1) W H A Y C T) r → Ev (fun k => lane_stand.l0 k T (T.length : Int) (i : Int) W H A Y C T) r:=by
  intro i hi hp r hr
  refine Ev.step (fun k => by simp only [lane_stand.l0];rfl) (Ev.pos (by omega) (Ev.pos (by omega) (Ev.pos (by omega) ?_)))
  rw [rdT,wrap_in (x:=(i : Int) + 1) (by omega) (by omega),wrap_in (x:=W * H) (by omega) (by omega),wrap_in (x:=W * H - 1) (by omega) (by omega)]
  by_cases c : (T.getD i z50).f0 = -1
  ·exact Ev.pos c hr
  ·exact Ev.neg c (Ev.bindc (within_eq _ _) (Ev.pos (decide_eq_true (by omega)) hr))
 have bad0 : ∀ i,i < T.length → ¬ ((T.getD i z50).f0 = -1 ∨ (0 ≤ (T.getD i z50).f0 ∧ (T.getD i z50).f0 < W * H)) → Ev (fun k => lane_stand.l0 k T (T.length : Int) (i : Int) W H A Y C T) 2:=by
  intro i hi hp
  refine Ev.step (fun k => by simp only [lane_stand.l0];rfl) (Ev.pos (by omega) (Ev.pos (by omega) (Ev.pos (by omega) ?_)))
  rw [rdT,wrap_in (x:=W * H) (by omega) (by omega),wrap_in (x:=W * H - 1) (by omega) (by omega)]
  exact Ev.neg (fun c => hp (.inl c)) (Ev.bindc (within_eq _ _) (Ev.neg (fun k => by have:=of_decide_eq_true k;omega) (Ev.now _)))
 unfold scode
 by_cases t1 : Tiles W H T
 rotate_left
 ·rw [if_neg t1]
  exact Ev.scan_some (g:=fun k i => lane_stand.l0 k T (T.length : Int) i W H A Y C T) good0 bad0 T.length 0 (by omega) (by
   apply Classical.byContradiction
   intro hc
   exact t1 fun j h1 h2 => Classical.byContradiction fun h3 => hc ⟨j,h1,h2,h3⟩)
 rw [if_pos t1]
 refine Ev.scan_all (g:=fun k i => lane_stand.l0 k T (T.length : Int) i W H A Y C T) (Ev.step (fun k => by simp only [lane_stand.l0];rfl) (Ev.neg (by omega) ?_)) good0 T.length 0 (by omega) t1
 have good1 : ∀ i,i < T.length → ((T.getD i z50).f0 = -1 ∨ 0 ≤ meets W H A (T.getD i z50).f0 (T.getD i z50).f2) → ∀ r,Ev (fun k => lane_stand.l1 k T (T.length : Int) ((i : Int) + 1) W H A Y C T) r → Ev (fun k => lane_stand.l1 k T (T.length : Int) (i : Int) W H A Y C T) r:=by
  intro i hi hp r hr
  refine Ev.step (fun k => by simp only [lane_stand.l1];rfl) (Ev.pos (by omega) (Ev.pos (by omega) (Ev.pos (by omega) ?_)))
  rw [rdT,wrap_in (x:=(i : Int) + 1) (by omega) (by omega)]
  by_cases c : (T.getD i z50).f0 = -1
  ·exact Ev.pos c hr
  have ht:=(t1 i (by omega) hi).resolve_left c
  have hs : 0 ≤ (T.getD i z50).f2 ∧ (T.getD i z50).f2 ≤ 3:=by have:=hm i (by omega) hi;unfold Mov at this;rw [if_neg c] at this;exact this.2.1
  refine Ev.neg c (Ev.bindc (joined_eq h ht hs) (Ev.pos ?_ hr))
  exact decide_eq_true (hp.resolve_left c)
 have bad1 : ∀ i,i < T.length → ¬ ((T.getD i z50).f0 = -1 ∨ 0 ≤ meets W H A (T.getD i z50).f0 (T.getD i z50).f2) → Ev (fun k => lane_stand.l1 k T (T.length : Int) (i : Int) W H A Y C T) 8:=by
  intro i hi hp
  refine Ev.step (fun k => by simp only [lane_stand.l1];rfl) (Ev.pos (by omega) (Ev.pos (by omega) (Ev.pos (by omega) ?_)))
  rw [rdT]
  have c : ¬ (T.getD i z50).f0 = -1:=fun c => hp (.inl c)
  have ht:=(t1 i (by omega) hi).resolve_left c
  have hs : 0 ≤ (T.getD i z50).f2 ∧ (T.getD i z50).f2 ≤ 3:=by have:=hm i (by omega) hi;unfold Mov at this;rw [if_neg c] at this;exact this.2.1
  exact Ev.neg c (Ev.bindc (joined_eq h ht hs) (Ev.neg (fun k => hp (.inr (of_decide_eq_true k))) (Ev.now _)))
 by_cases t2 : Joins W H A T
 rotate_left
 ·rw [if_neg t2]
  exact Ev.scan_some (g:=fun k i => lane_stand.l1 k T (T.length : Int) i W H A Y C T) good1 bad1 T.length 0 (by omega) (by
   apply Classical.byContradiction
   intro hc
   exact t2 fun j h1 h2 => Classical.byContradiction fun h3 => hc ⟨j,h1,h2,h3⟩)
 rw [if_pos t2]
 refine Ev.scan_all (g:=fun k i => lane_stand.l1 k T (T.length : Int) i W H A Y C T) (Ev.step (fun k => by simp only [lane_stand.l1];rfl) (Ev.neg (by omega) ?_)) good1 T.length 0 (by omega) t2
 exact stand_l2 hT T.length 0 (by omega) [] (fun p => by simp [mqHas])
open Classical in
theorem lane_validate_ev (hA : A.length ≤ 4000) (hY : Y.length ≤ 4000) (hC : C.length ≤ 4000) (hT : T.length ≤ 1000) : Ev (fun k => lane_Validate.f k W H A Y C T) (lcode W H A Y C T) := by
 unfold lane_Validate.f lcode
 refine Ev.bind (validate_ev hA hY) ?_
 by_cases hv : vcode W H A Y = 0
 rotate_left
 ·rw [if_neg hv];exact Ev.neg hv (Ev.now _)
 rw [if_pos hv]
 refine Ev.pos hv ?_
 by_cases h60 : T.length > 60
 ·rw [if_pos h60];exact Ev.pos (by omega) (Ev.now _)
 rw [if_neg h60]
 refine Ev.neg (by omega) ?_
 have good0 : ∀ i,i < C.length → (0 < i → C.getD (i - 1) 0 < C.getD i 0) → ∀ r,Ev (fun k => lane_Validate.l0 k (C.length : Int) ((i : Int) + 1) W H A Y C T) r → Ev (fun k => lane_Validate.l0 k (C.length : Int) (i : Int) W H A Y C T) r:=by
  intro i hi hp r hr
  refine Ev.step (fun k => by simp only [lane_Validate.l0];rfl) (Ev.pos (by omega) ?_)
  rw [wrap_in (x:=(i : Int) + 1) (by omega) (by omega)]
  by_cases c : 0 < i
  ·have hp:=hp c
   refine Ev.pos (by omega) ?_
   rw [wrap_in (x:=(i : Int) - 1) (by omega) (by omega),show (i : Int) - 1 = ((i - 1 : Nat) : Int) by omega,rdN,rdN]
   exact Ev.pos (by omega) (Ev.pos (by omega) (Ev.pos (by omega) (Ev.pos (by omega) (Ev.neg (by omega) hr))))
  ·exact Ev.neg (by omega) hr
 have bad0 : ∀ i,i < C.length → ¬ (0 < i → C.getD (i - 1) 0 < C.getD i 0) → Ev (fun k => lane_Validate.l0 k (C.length : Int) (i : Int) W H A Y C T) 1:=by
  intro i hi hp
  refine Ev.step (fun k => by simp only [lane_Validate.l0];rfl) (Ev.pos (by omega) ?_)
  rw [Classical.not_imp] at hp
  refine Ev.pos (by omega) ?_
  rw [wrap_in (x:=(i : Int) - 1) (by omega) (by omega),show (i : Int) - 1 = ((i - 1 : Nat) : Int) by omega,rdN,rdN]
  exact Ev.pos (by omega) (Ev.pos (by omega) (Ev.pos (by omega) (Ev.pos (by omega) (Ev.pos (by omega) (Ev.now _)))))
 by_cases hs : Sorted C
 rotate_left
 ·rw [if_neg hs]
  exact Ev.scan_some (g:=fun k i => lane_Validate.l0 k (C.length : Int) i W H A Y C T) good0 bad0 C.length 0 (by omega) (not_all hs)
 rw [if_pos hs]
 refine Ev.scan_all (g:=fun k i => lane_Validate.l0 k (C.length : Int) i W H A Y C T) (Ev.step (fun k => by simp only [lane_Validate.l0];rfl) (Ev.neg (by omega) ?_)) good0 C.length 0 (by omega) hs
 have good1 : ∀ i,i < T.length → Mov (T.getD i z50) → ∀ r,Ev (fun k => lane_Validate.l1 k T (T.length : Int) ((i : Int) + 1) W H A Y C T) r → Ev (fun k => lane_Validate.l1 k T (T.length : Int) (i : Int) W H A Y C T) r:=by
  intro i hi hp r hr
  refine Ev.step (fun k => by simp only [lane_Validate.l1];rfl) (Ev.pos (by omega) (Ev.pos (by omega) (Ev.pos (by omega) ?_)))
  rw [rdT,wrap_in (x:=(i : Int) + 1) (by omega) (by omega)]
  exact Ev.bindc (moves_eq _) (Ev.pos (decide_eq_true hp) hr)
 have bad1 : ∀ i,i < T.length → ¬ Mov (T.getD i z50) → Ev (fun k => lane_Validate.l1 k T (T.length : Int) (i : Int) W H A Y C T) 1:=by
  intro i hi hp
  refine Ev.step (fun k => by simp only [lane_Validate.l1];rfl) (Ev.pos (by omega) (Ev.pos (by omega) (Ev.pos (by omega) ?_)))
  rw [rdT]
  exact Ev.bindc (moves_eq _) (Ev.neg (fun k => hp (of_decide_eq_true k)) (Ev.now _))
 by_cases hm : Movs T
 rotate_left
 ·rw [if_neg hm]
  exact Ev.scan_some (g:=fun k i => lane_Validate.l1 k T (T.length : Int) i W H A Y C T) good1 bad1 T.length 0 (by omega) (not_all hm)
 rw [if_pos hm]
 exact Ev.scan_all (g:=fun k i => lane_Validate.l1 k T (T.length : Int) i W H A Y C T) (Ev.step (fun k => by simp only [lane_Validate.l1];rfl) (Ev.neg (by omega) (Ev.bind (stand_ev (good_of hv) hT hm C) (Ev.now _)))) good1 T.length 0 (by omega) hm
end
end Go.Proofs.Ythjmdpekcleihaa.Pure
