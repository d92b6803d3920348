/- What the functions of layer 15 (orders) come to, in plain words: which lists are right, which order comes next, when a vehicle is due. -/
import Derived.Test.YthbjchicpebglaaPx0
import Derived.Test.YthbjchicpebglaaPx2
import Derived.Test.YthbjchicpebglaaPx4
import Derived.Test.YthbjchicpebglaaPx5
import Derived.Test.YthbjchicpebglaaEvKit
import Derived.Test.YthbjchicpebglaaVOpen
namespace Go.Proofs.Ythbjchicpebglaa.Pure
open Go.RowKit Go.Proofs.YthbjchicpebglaaW.PrintWords Go.Proofs.Ythbjchicpebglaa.P Go.Proofs.Ythbjchicpebglaa

theorem within_eq (a b : Int) : order_within.f a b = some (decide (0 ≤ a ∧ a ≤ b)) := by
 unfold order_within.f
 by_cases h : a ≥ 0
 ·rw [if_pos h];congr 1;apply decide_eq_decide.2;omega
 ·rw [if_neg h];congr 1;symm;apply decide_eq_false;omega
theorem out_eq (a b : Int) : hinterlandref15_out.f a b = some (decide (¬ (0 ≤ a ∧ a ≤ b))) := by
 unfold hinterlandref15_out.f
 by_cases h : a < 0
 ·rw [if_pos h];congr 1;symm;apply decide_eq_true;omega
 ·rw [if_neg h];congr 1;apply decide_eq_decide.2;omega

def OkO (x : S33) : Prop :=
 (0 ≤ x.f0 ∧ x.f0 ≤ 2) ∧ (0 ≤ x.f1 ∧ x.f1 ≤ 1000000) ∧ (0 ≤ x.f2 ∧ x.f2 ≤ 2) ∧ (0 ≤ x.f3 ∧ x.f3 ≤ 2) ∧ (0 ≤ x.f4 ∧ x.f4 ≤ 4) ∧ (0 ≤ x.f5 ∧ x.f5 ≤ 1000000) ∧ (0 ≤ x.f7 ∧ x.f7 ≤ 1000000) ∧ (0 ≤ x.f8 ∧ x.f8 ≤ 1000000) ∧
 (if x.f0 = 2 then x.f1 = 0 ∧ x.f2 = 0 ∧ x.f3 = 0 ∧ x.f7 = 0 ∧ x.f8 = 0 else if x.f0 = 1 then x.f2 = 0 ∧ x.f3 = 0 ∧ x.f4 = 0 ∧ x.f5 = 0 ∧ x.f6 = 0 else x.f4 = 0 ∧ x.f5 = 0 ∧ x.f6 = 0)
instance (x : S33) : Decidable (OkO x) := by unfold OkO; infer_instance

theorem bounded_eq (k : Nat) (x : S33) : order_bounded.f (k + 1) x.f0 x.f1 x.f2 x.f3 x.f4 x.f5 x.f6 x.f7 x.f8 = some (decide (OkO x)) := by
 unfold order_bounded.f OkO
 simp only [within_eq,Option.bind_some,order_bounded.j0,decide_eq_true_eq]
 by_cases h0 : 0 ≤ x.f0 ∧ x.f0 ≤ 2 <;> by_cases h1 : 0 ≤ x.f1 ∧ x.f1 ≤ 1000000 <;> by_cases h2 : 0 ≤ x.f2 ∧ x.f2 ≤ 2 <;> by_cases h3 : 0 ≤ x.f3 ∧ x.f3 ≤ 2 <;> by_cases h4 : 0 ≤ x.f4 ∧ x.f4 ≤ 4 <;> by_cases h5 : 0 ≤ x.f5 ∧ x.f5 ≤ 1000000 <;> by_cases h7 : 0 ≤ x.f7 ∧ x.f7 ≤ 1000000 <;> by_cases h8 : 0 ≤ x.f8 ∧ x.f8 ≤ 1000000 <;> simp [h0,h1,h2,h3,h4,h5,h7,h8]
 repeat' split
 all_goals (simp_all <;> rfl)
theorem bad_eq (k : Nat) (x : S33) : hinterlandref15_bad.f (k + 1) x.f0 x.f1 x.f2 x.f3 x.f4 x.f5 x.f6 x.f7 x.f8 = some (decide (¬ OkO x)) := by
 unfold hinterlandref15_bad.f OkO
 simp only [out_eq,Option.bind_some,hinterlandref15_bad.j0,decide_eq_true_eq]
 by_cases h0 : 0 ≤ x.f0 ∧ x.f0 ≤ 2 <;> by_cases h1 : 0 ≤ x.f1 ∧ x.f1 ≤ 1000000 <;> by_cases h2 : 0 ≤ x.f2 ∧ x.f2 ≤ 2 <;> by_cases h3 : 0 ≤ x.f3 ∧ x.f3 ≤ 2 <;> by_cases h4 : 0 ≤ x.f4 ∧ x.f4 ≤ 4 <;> by_cases h5 : 0 ≤ x.f5 ∧ x.f5 ≤ 1000000 <;> by_cases h7 : 0 ≤ x.f7 ∧ x.f7 ≤ 1000000 <;> by_cases h8 : 0 ≤ x.f8 ∧ x.f8 ≤ 1000000 <;> simp [h0,h1,h2,h3,h4,h5,h7,h8]
 repeat' split
 all_goals (simp_all <;> rfl)

theorem rdN (l : List S33) (i : Nat) : rd_T33 l (i : Int) = l.getD i z33 := by unfold rd_T33; simp

def AllOk (l : List S33) : Prop := ∀ j, 0 ≤ j → j < l.length → OkO (l.getD j z33)
def AllTo (l : List S33) : Prop := ∀ j, 0 ≤ j → j < l.length → 0 ≤ (l.getD j z33).f6 ∧ (l.getD j z33).f6 < (l.length : Int)
open Classical in
noncomputable def vcode (l : List S33) : Int := if l.length > 40 then 4 else if AllOk l then (if AllTo l then 0 else 2) else 1
theorem vcode_zero {l : List S33} : vcode l = 0 ↔ l.length ≤ 40 ∧ AllOk l ∧ AllTo l := by
 unfold vcode
 by_cases h : l.length > 40
 ·rw [if_pos h];constructor
  ·intro h';omega
  ·intro h';omega
 ·rw [if_neg h]
  by_cases h1 : AllOk l
  ·rw [if_pos h1]
   by_cases h2 : AllTo l
   ·simp [h1,h2];omega
   ·simp [h2]
  ·simp [h1]
theorem not_all {p : Nat → Prop} {n : Nat} (h : ¬ ∀ j, 0 ≤ j → j < n → p j) : ∃ j, 0 ≤ j ∧ j < n ∧ ¬ p j := by
 apply Classical.byContradiction
 intro hc
 exact h fun j h1 h2 => Classical.byContradiction fun h3 => hc ⟨j,h1,h2,h3⟩

open Classical in
theorem order_validate_ev (l : List S33) : Ev (fun k => order_Validate.f k l) (vcode l) := by
 unfold order_Validate.f vcode
 by_cases h : l.length > 40
 ·rw [if_pos h];exact Ev.pos (by omega) (Ev.now _)
 rw [if_neg h]
 refine Ev.neg (by omega) ?_
 have e1 : Ev (fun k => order_Validate.l1 k l l (l.length : Int) (0 : Nat)) (if AllTo l then 0 else 2):=by
  have hgood : ∀ i,i < l.length → (0 ≤ (l.getD i z33).f6 ∧ (l.getD i z33).f6 < (l.length : Int)) → ∀ r,Ev (fun k => order_Validate.l1 k l l (l.length : Int) ((i : Int) + 1)) r → Ev (fun k => order_Validate.l1 k l l (l.length : Int) (i : Int)) r:=by
   intro i hi hp r hr
   refine Ev.step (fun k => by simp only [order_Validate.l1];rfl) ?_
   refine Ev.pos (by omega) (Ev.pos (by omega) (Ev.pos (by omega) ?_))
   refine Ev.bindc (within_eq _ _) ?_
   rw [rdN,wrap_in (x:=(l.length : Int) - 1) (by omega) (by omega)]
   refine Ev.pos (decide_eq_true (by omega)) ?_
   rw [wrap_in (by omega) (by omega)]
   exact hr
  have hbad : ∀ i,i < l.length → ¬ (0 ≤ (l.getD i z33).f6 ∧ (l.getD i z33).f6 < (l.length : Int)) → Ev (fun k => order_Validate.l1 k l l (l.length : Int) (i : Int)) 2:=by
   intro i hi hp
   refine Ev.step (fun k => by simp only [order_Validate.l1];rfl) ?_
   refine Ev.pos (by omega) (Ev.pos (by omega) (Ev.pos (by omega) ?_))
   refine Ev.bindc (within_eq _ _) ?_
   rw [rdN,wrap_in (x:=(l.length : Int) - 1) (by omega) (by omega)]
   exact Ev.neg (fun h => by have:=of_decide_eq_true h;omega) (Ev.now _)
  by_cases H : AllTo l
  ·rw [if_pos H]
   exact Ev.scan_all (p:=fun i => 0 ≤ (l.getD i z33).f6 ∧ (l.getD i z33).f6 < (l.length : Int)) (Ev.step (fun k => by simp only [order_Validate.l1];rfl) (Ev.neg (by omega) (Ev.now _))) hgood l.length 0 (by omega) H
  ·rw [if_neg H]
   exact Ev.scan_some hgood hbad l.length 0 (by omega) (not_all H)
 have hgood : ∀ i,i < l.length → OkO (l.getD i z33) → ∀ r,Ev (fun k => order_Validate.l0 k l l (l.length : Int) ((i : Int) + 1)) r → Ev (fun k => order_Validate.l0 k l l (l.length : Int) (i : Int)) r:=by
  intro i hi hp r hr
  refine Ev.step (fun k => by simp only [order_Validate.l0];rfl) ?_
  refine Ev.pos (by omega) (Ev.pos (by omega) (Ev.pos (by omega) ?_))
  rw [rdN]
  refine Ev.bind (Ev.step (fun k => bounded_eq k _) (Ev.now _)) ?_
  refine Ev.pos (decide_eq_true hp) ?_
  rw [wrap_in (by omega) (by omega)]
  exact hr
 have hbad : ∀ i,i < l.length → ¬ OkO (l.getD i z33) → Ev (fun k => order_Validate.l0 k l l (l.length : Int) (i : Int)) 1:=by
  intro i hi hp
  refine Ev.step (fun k => by simp only [order_Validate.l0];rfl) ?_
  refine Ev.pos (by omega) (Ev.pos (by omega) (Ev.pos (by omega) ?_))
  rw [rdN]
  refine Ev.bind (Ev.step (fun k => bounded_eq k _) (Ev.now _)) ?_
  exact Ev.neg (fun h => hp (of_decide_eq_true h)) (Ev.now _)
 by_cases H : AllOk l
 ·rw [if_pos H]
  exact Ev.scan_all (p:=fun i => OkO (l.getD i z33)) (Ev.step (fun k => by simp only [order_Validate.l0];rfl) (Ev.neg (by omega) e1)) hgood l.length 0 (by omega) H
 ·rw [if_neg H]
  exact Ev.scan_some hgood hbad l.length 0 (by omega) (not_all H)

open Classical in
theorem ref_validate_ev (l : List S33) : Ev (fun k => hinterlandref15_Validate.f k l) (vcode l) := by
 unfold hinterlandref15_Validate.f vcode
 by_cases h : l.length > 40
 ·rw [if_pos h];exact Ev.pos (by omega) (Ev.now _)
 rw [if_neg h]
 refine Ev.neg (by omega) ?_
 have e1 : Ev (fun k => hinterlandref15_Validate.l1 k l (0 : Nat)) (if AllTo l then 0 else 2):=by
  have hgood : ∀ i,i < l.length → (0 ≤ (l.getD i z33).f6 ∧ (l.getD i z33).f6 < (l.length : Int)) → ∀ r,Ev (fun k => hinterlandref15_Validate.l1 k l ((i : Int) + 1)) r → Ev (fun k => hinterlandref15_Validate.l1 k l (i : Int)) r:=by
   intro i hi hp r hr
   refine Ev.step (fun k => by simp only [hinterlandref15_Validate.l1];rfl) ?_
   refine Ev.pos (by omega) (Ev.pos (by omega) ?_)
   rw [rdN]
   refine Ev.neg (by omega) (Ev.neg (by omega) ?_)
   rw [wrap_in (by omega) (by omega)]
   exact hr
  have hbad : ∀ i,i < l.length → ¬ (0 ≤ (l.getD i z33).f6 ∧ (l.getD i z33).f6 < (l.length : Int)) → Ev (fun k => hinterlandref15_Validate.l1 k l (i : Int)) 2:=by
   intro i hi hp
   refine Ev.step (fun k => by simp only [hinterlandref15_Validate.l1];rfl) ?_
   refine Ev.pos (by omega) (Ev.pos (by omega) ?_)
   rw [rdN]
   by_cases h0 : (l.getD i z33).f6 < 0
   ·exact Ev.pos h0 (Ev.now _)
   ·exact Ev.neg h0 (Ev.pos (by omega) (Ev.now _))
  by_cases H : AllTo l
  ·rw [if_pos H]
   exact Ev.scan_all (p:=fun i => 0 ≤ (l.getD i z33).f6 ∧ (l.getD i z33).f6 < (l.length : Int)) (Ev.step (fun k => by simp only [hinterlandref15_Validate.l1];rfl) (Ev.neg (by omega) (Ev.now _))) hgood l.length 0 (by omega) H
  ·rw [if_neg H]
   exact Ev.scan_some hgood hbad l.length 0 (by omega) (not_all H)
 have hgood : ∀ i,i < l.length → OkO (l.getD i z33) → ∀ r,Ev (fun k => hinterlandref15_Validate.l0 k l ((i : Int) + 1)) r → Ev (fun k => hinterlandref15_Validate.l0 k l (i : Int)) r:=by
  intro i hi hp r hr
  refine Ev.step (fun k => by simp only [hinterlandref15_Validate.l0];rfl) ?_
  refine Ev.pos (by omega) (Ev.pos (by omega) ?_)
  rw [rdN]
  refine Ev.bind (Ev.step (fun k => bad_eq k _) (Ev.now _)) ?_
  refine Ev.neg (fun h => (of_decide_eq_true h) hp) ?_
  rw [wrap_in (by omega) (by omega)]
  exact hr
 have hbad : ∀ i,i < l.length → ¬ OkO (l.getD i z33) → Ev (fun k => hinterlandref15_Validate.l0 k l (i : Int)) 1:=by
  intro i hi hp
  refine Ev.step (fun k => by simp only [hinterlandref15_Validate.l0];rfl) ?_
  refine Ev.pos (by omega) (Ev.pos (by omega) ?_)
  rw [rdN]
  refine Ev.bind (Ev.step (fun k => bad_eq k _) (Ev.now _)) ?_
  exact Ev.pos (decide_eq_true hp) (Ev.now _)
 by_cases H : AllOk l
 ·rw [if_pos H]
  exact Ev.scan_all (p:=fun i => OkO (l.getD i z33)) (Ev.step (fun k => by simp only [hinterlandref15_Validate.l0];rfl) (Ev.neg (by omega) e1)) hgood l.length 0 (by omega) H
 ·rw [if_neg H]
  exact Ev.scan_some hgood hbad l.length 0 (by omega) (not_all H)

theorem known_ev : Ev (fun k => hinterlandlaw15_known.f k) true := by
 refine Ev.of (fun k => hinterlandlaw15_known.mono k) (k:=20) ?_
 decide +kernel

end Go.Proofs.Ythbjchicpebglaa.Pure
