/- What the functions of layer 4 (streets) come to, in plain words: the program's drives and parts. No conditions. -/
import Derived.Test.YtbdekjjdojbokaaPx0
import Derived.Test.YtbdekjjdojbokaaPx1
import Derived.Test.YtbdekjjdojbokaaPx2
import Derived.Test.YtbdekjjdojbokaaPx3
import Derived.Test.YtbdekjjdojbokaaPx4
import Derived.Test.YtbdekjjdojbokaaPx5
import Derived.Test.YtbdekjjdojbokaaEvKit
import Derived.Test.YtbdekjjdojbokaaVOpen
import Derived.Deep.LoopGhost
namespace Go.Proofs.Ytbdekjjdojbokaa.Pure
set_option linter.unusedVariables false
set_option linter.unusedSimpArgs false
open Go.RowKit Go.Proofs.YtbdekjjdojbokaaW.PrintWords Go.Proofs.Ytbdekjjdojbokaa.P Go.Proofs.Ytbdekjjdojbokaa
theorem Ev.rounds {α : Type} {g : Nat → Option α} {r : α} (h : Ev g r) : ∃ k, g k = some r := by
 obtain ⟨K,h⟩:=h
 exact ⟨K,h K (Nat.le_refl _)⟩
theorem rdN (l : List Int) (i : Nat) : rd l (i : Int) = l.getD i 0 := by unfold rd; simp
theorem not_all {p : Nat → Prop} {n : Nat} (h : ¬ ∀ j, 0 ≤ j → j < n → p j) : ∃ j, 0 ≤ j ∧ j < n ∧ ¬ p j := by
 apply Classical.byContradiction
 intro hc
 exact h fun j h1 h2 => Classical.byContradiction fun h3 => hc ⟨j,h1,h2,h3⟩
theorem large_eq (W H : Int) (A Y : List Int) : hinterlandlaw04_large.f W H A Y = some (decide ((A.length : Int) > 4000 ∨ (Y.length : Int) > 4000)) := by
 unfold hinterlandlaw04_large.f
 by_cases h1 : (A.length : Int) > 4000
 ·rw [if_pos h1,decide_eq_true (.inl h1)]
 ·rw [if_neg h1];congr 1;apply decide_eq_decide.2;omega
theorem known_ev : Ev (fun k => hinterlandlaw04_known.f k) true := by
 refine Ev.of (fun k => hinterlandlaw04_known.mono k) (k:=60) ?_
 decide +kernel
theorem known_then : Ev (fun k => (hinterlandlaw04_known.f k).bind fun t => some t) true := Ev.bind known_ev (Ev.now _)
def Shape (W H : Int) (A Y : List Int) : Prop := (4 ≤ W ∧ W ≤ 32) ∧ (4 ≤ H ∧ H ≤ 32) ∧ (A.length : Int) = W * H ∧ (Y.length : Int) = W * H
def ArmAt (A : List Int) (j : Nat) : Prop := 0 ≤ A.getD j 0 ∧ A.getD j 0 ≤ 15
def WayAt (Y : List Int) (j : Nat) : Prop := 0 ≤ Y.getD j 0 ∧ Y.getD j 0 ≤ 2
def OneAt (A Y : List Int) (j : Nat) : Prop := Y.getD j 0 = 0 ∨ A.getD j 0 = 5 ∨ A.getD j 0 = 10
def Arms (A : List Int) : Prop := ∀ j, 0 ≤ j → j < A.length → ArmAt A j
def Wayz (Y : List Int) : Prop := ∀ j, 0 ≤ j → j < Y.length → WayAt Y j
def Ones (A Y : List Int) : Prop := ∀ j, 0 ≤ j → j < Y.length → OneAt A Y j
open Classical in
noncomputable def vcode (W H : Int) (A Y : List Int) : Int := if Shape W H A Y then (if Arms A ∧ Wayz Y then (if Ones A Y then 0 else 9) else 1) else 1
theorem vcode_zero {W H : Int} {A Y : List Int} : vcode W H A Y = 0 ↔ Shape W H A Y ∧ Arms A ∧ Wayz Y ∧ Ones A Y := by
 unfold vcode
 by_cases h1 : Shape W H A Y
 ·by_cases h2 : Arms A ∧ Wayz Y
  ·by_cases h3 : Ones A Y
   ·simp [h1,h2,h3]
   ·simp [h1,h2,h3]
  ·rw [if_pos h1,if_neg h2];exact ⟨fun h => absurd h (by decide),fun h => absurd ⟨h.2.1,h.2.2.1⟩ h2⟩
 ·simp [h1]
theorem area {W H : Int} (hW : 4 ≤ W ∧ W ≤ 32) (hH : 4 ≤ H ∧ H ≤ 32) : 16 ≤ W * H ∧ W * H ≤ 1024 := by
 constructor
 ·have:=Int.mul_le_mul hW.1 hH.1 (by decide) (by omega);omega
 ·have:=Int.mul_le_mul hW.2 hH.2 (by omega) (by decide);omega
section
variable {W H : Int} {A Y : List Int}
theorem validate_ev (hA : A.length ≤ 4000) (hY : Y.length ≤ 4000) : Ev (fun k => road_Validate.f k W H A Y) (vcode W H A Y) := by
 unfold road_Validate.f
 have bad : ¬ Shape W H A Y → ∀ q,q = true → Ev (fun k => road_Validate.j0 k q W H A Y) (vcode W H A Y):=by
  intro h q hq
  refine Ev.eq (Ev.step (fun k => by simp only [road_Validate.j0];rfl) (Ev.pos hq (Ev.now _))) (if_neg h).symm
 by_cases w0 : W < 4
 ·exact Ev.pos w0 (bad (fun h => by have:=h.1;omega) _ rfl)
 refine Ev.neg w0 ?_
 by_cases w1 : W > 32
 ·exact Ev.pos w1 (bad (fun h => by have:=h.1;omega) _ rfl)
 refine Ev.neg w1 ?_
 by_cases h0 : H < 4
 ·exact Ev.pos h0 (bad (fun h => by have:=h.2.1;omega) _ rfl)
 refine Ev.neg h0 ?_
 by_cases h1 : H > 32
 ·exact Ev.pos h1 (bad (fun h => by have:=h.2.1;omega) _ rfl)
 refine Ev.neg h1 ?_
 have ha:=area (W:=W) (H:=H) ⟨by omega,by omega⟩ ⟨by omega,by omega⟩
 rw [wrap_in (x:=W * H) (by omega) (by omega)]
 by_cases l1 : (A.length : Int) = W * H
 rotate_left
 ·exact Ev.neg l1 (bad (fun h => l1 h.2.2.1) _ rfl)
 refine Ev.pos l1 ?_
 by_cases l2 : (Y.length : Int) = W * H
 rotate_left
 ·exact bad (fun h => l2 h.2.2.2) _ (bne_iff_ne.2 l2)
 have hs : Shape W H A Y:=⟨⟨by omega,by omega⟩,⟨by omega,by omega⟩,l1,l2⟩
 refine Ev.eq ?_ (if_pos hs).symm
 rw [show ((Y.length : Int) != W * H) = false from bne_eq_false_iff_eq.2 l2]
 refine Ev.step (fun k => by simp only [road_Validate.j0];rfl) (Ev.neg (by simp) ?_)
 have end1 : ∀ r,Ev (fun k => road_Validate.l1 k Y (Y.length : Int) (0 : Int) W H A Y) r → Ev (fun k => road_Validate.l0 k (A.length : Int) ((A.length : Nat) : Int) W H A Y) r:=by
  intro r hr
  exact Ev.step (fun k => by simp only [road_Validate.l0];rfl) (Ev.neg (by omega) hr)
 have good1 : ∀ i,i < A.length → (ArmAt A i ∧ WayAt Y i) → ∀ r,Ev (fun k => road_Validate.l0 k (A.length : Int) ((i : Int) + 1) W H A Y) r → Ev (fun k => road_Validate.l0 k (A.length : Int) (i : Int) W H A Y) r:=by
  intro i hi ⟨p1,p2⟩ r hr
  unfold ArmAt at p1
  unfold WayAt at p2
  refine Ev.step (fun k => by simp only [road_Validate.l0];rfl) ?_
  rw [rdN,rdN,wrap_in (x:=(i : Int) + 1) (by omega) (by omega)]
  exact Ev.pos (by omega) (Ev.pos (by omega) (Ev.pos (by omega) (Ev.neg (by omega) (Ev.neg (by omega) (Ev.pos (by omega) (Ev.neg (by omega) (Ev.neg (by omega) hr)))))))
 have bad1 : ∀ i,i < A.length → ¬ (ArmAt A i ∧ WayAt Y i) → Ev (fun k => road_Validate.l0 k (A.length : Int) (i : Int) W H A Y) 1:=by
  intro i hi hp
  unfold ArmAt WayAt at hp
  refine Ev.step (fun k => by simp only [road_Validate.l0];rfl) ?_
  rw [rdN,rdN]
  refine Ev.pos (by omega) (Ev.pos (by omega) (Ev.pos (by omega) ?_))
  by_cases q1 : A.getD i 0 < 0
  ·exact Ev.pos q1 (Ev.now _)
  refine Ev.neg q1 ?_
  by_cases q2 : A.getD i 0 > 15
  ·exact Ev.pos q2 (Ev.now _)
  refine Ev.neg q2 (Ev.pos (by omega) ?_)
  by_cases q3 : Y.getD i 0 < 0
  ·exact Ev.pos q3 (Ev.now _)
  exact Ev.neg q3 (Ev.pos (by omega) (Ev.now _))
 have good2 : ∀ i,i < Y.length → OneAt A Y i → ∀ r,Ev (fun k => road_Validate.l1 k Y (Y.length : Int) ((i : Int) + 1) W H A Y) r → Ev (fun k => road_Validate.l1 k Y (Y.length : Int) (i : Int) W H A Y) r:=by
  intro i hi p r hr
  unfold OneAt at p
  refine Ev.step (fun k => by simp only [road_Validate.l1];rfl) ?_
  rw [rdN,rdN,wrap_in (x:=(i : Int) + 1) (by omega) (by omega)]
  refine Ev.pos (by omega) (Ev.pos (by omega) (Ev.pos (by omega) ?_))
  by_cases q1 : Y.getD i 0 = 0
  ·exact Ev.pos q1 hr
  refine Ev.neg q1 (Ev.pos (by omega) ?_)
  by_cases q2 : A.getD i 0 = 5
  ·exact Ev.pos q2 hr
  exact Ev.neg q2 (Ev.pos (by omega) hr)
 have bad2 : ∀ i,i < Y.length → ¬ OneAt A Y i → Ev (fun k => road_Validate.l1 k Y (Y.length : Int) (i : Int) W H A Y) 9:=by
  intro i hi p
  unfold OneAt at p
  refine Ev.step (fun k => by simp only [road_Validate.l1];rfl) ?_
  rw [rdN,rdN]
  exact Ev.pos (by omega) (Ev.pos (by omega) (Ev.pos (by omega) (Ev.neg (by omega) (Ev.pos (by omega) (Ev.neg (by omega) (Ev.neg (by omega) (Ev.now _)))))))
 have end2 : Ev (fun k => road_Validate.l1 k Y (Y.length : Int) ((Y.length : Nat) : Int) W H A Y) 0 :=
  Ev.step (fun k => by simp only [road_Validate.l1];rfl) (Ev.neg (by omega) (Ev.now _))
 by_cases g1 : Arms A ∧ Wayz Y
 ·refine Ev.eq ?_ (if_pos g1).symm
  refine Ev.scan_all (g:=fun k i => road_Validate.l0 k (A.length : Int) i W H A Y) (end1 _ ?_) good1 A.length 0 (by omega) (fun j h1 h2 => ⟨g1.1 j h1 h2,g1.2 j h1 (by omega)⟩)
  by_cases g2 : Ones A Y
  ·exact Ev.eq (Ev.scan_all (g:=fun k i => road_Validate.l1 k Y (Y.length : Int) i W H A Y) end2 good2 Y.length 0 (by omega) g2) (if_pos g2).symm
  ·exact Ev.eq (Ev.scan_some (g:=fun k i => road_Validate.l1 k Y (Y.length : Int) i W H A Y) good2 bad2 Y.length 0 (by omega) (not_all g2)) (if_neg g2).symm
 ·refine Ev.eq (Ev.scan_some (g:=fun k i => road_Validate.l0 k (A.length : Int) i W H A Y) good1 bad1 A.length 0 (by omega) (not_all fun h => g1 ⟨fun j h1 h2 => (h j h1 h2).1,fun j h1 h2 => (h j h1 (by omega)).2⟩)) (if_neg g1).symm
end
def bey (W H t s : Int) : Int :=
 if s = 0 then (if t % W + 1 < W then t + 1 else -1)
 else if s = 1 then (if t / W + 1 < H then t + W else -1)
 else if s = 2 then (if 0 < t % W then t - 1 else -1)
 else (if 0 < t / W then t - W else -1)
structure On (W H t : Int) : Prop where
 hW : 4 ≤ W ∧ W ≤ 32
 hH : 4 ≤ H ∧ H ≤ 32
 ht : 0 ≤ t ∧ t < W * H
section
variable {W H t s : Int}
theorem On.xy (h : On W H t) : (0 ≤ t % W ∧ t % W < W) ∧ (0 ≤ t / W ∧ t / W < H) ∧ t / W * W + t % W = t ∧ 16 ≤ W * H ∧ W * H ≤ 1024 := by
 have hW:=h.hW
 have ht:=h.ht
 have ha:=area h.hW h.hH
 have h1:=Int.emod_nonneg t (show W ≠ 0 by omega)
 have h2:=Int.emod_lt_of_pos t (show 0 < W by omega)
 have h3 : 0 ≤ t / W:=Int.ediv_nonneg (by omega) (by omega)
 have h4 : t / W < H:=Int.ediv_lt_of_lt_mul (by omega) (by rw [Int.mul_comm];omega)
 have h5 : t / W * W + t % W = t:=by rw [Int.mul_comm];exact Int.mul_ediv_add_emod t W
 exact ⟨⟨h1,h2⟩,⟨h3,h4⟩,h5,ha⟩
theorem bey_at (h : On W H t) (s : Int) : bey W H t s = -1 ∨ (0 ≤ bey W H t s ∧ bey W H t s < W * H) := by
 obtain ⟨⟨x0,x1⟩,⟨y0,y1⟩,e,a0,a1⟩:=h.xy
 have hW:=h.hW
 have hH:=h.hH
 have ht:=h.ht
 have m1 : t / W * W ≤ (H - 1) * W:=Int.mul_le_mul_of_nonneg_right (by omega) (by omega)
 have m2 : (H - 1) * W = W * H - W:=by rw [Int.sub_mul,Int.mul_comm H W];omega
 unfold bey
 by_cases s0 : s = 0
 ·rw [if_pos s0]
  by_cases c : t % W + 1 < W
  ·rw [if_pos c];exact .inr ⟨by omega,by omega⟩
  ·rw [if_neg c];exact .inl rfl
 rw [if_neg s0]
 by_cases s1 : s = 1
 ·rw [if_pos s1]
  by_cases c : t / W + 1 < H
  ·rw [if_pos c]
   have m3 : (t / W + 1) * W ≤ (H - 1) * W:=Int.mul_le_mul_of_nonneg_right (by omega) (by omega)
   have m4 : (t / W + 1) * W = t / W * W + W:=by rw [Int.add_mul];omega
   exact .inr ⟨by omega,by omega⟩
  ·rw [if_neg c];exact .inl rfl
 rw [if_neg s1]
 by_cases s2 : s = 2
 ·rw [if_pos s2]
  by_cases c : 0 < t % W
  ·rw [if_pos c];
   have m5 : 0 ≤ t / W * W:=Int.mul_nonneg y0 (by omega)
   exact .inr ⟨by omega,by omega⟩
  ·rw [if_neg c];exact .inl rfl
 rw [if_neg s2]
 by_cases c : 0 < t / W
 ·rw [if_pos c]
  have m6 : 1 * W ≤ t / W * W:=Int.mul_le_mul_of_nonneg_right (by omega) (by omega)
  exact .inr ⟨by omega,by omega⟩
 ·rw [if_neg c];exact .inl rfl
theorem tdm (h : On W H t) : Int.tmod t W = t % W ∧ Int.tdiv t W = t / W :=
 ⟨Int.tmod_eq_emod_of_nonneg h.ht.1,Int.tdiv_eq_ediv_of_nonneg h.ht.1⟩
theorem beyond_eq (A Y : List Int) (h : On W H t) : road_beyond.f W H A Y t s = some (bey W H t s) := by
 obtain ⟨⟨x0,x1⟩,⟨y0,y1⟩,e,a0,a1⟩:=h.xy
 have hW:=h.hW
 have hH:=h.hH
 have ht:=h.ht
 have m5 : 0 ≤ t / W * W:=Int.mul_nonneg y0 (by omega)
 have m4 : (t / W + 1) * W = t / W * W + W:=by rw [Int.add_mul];omega
 have m7 : (t / W - 1) * W = t / W * W - W:=by rw [Int.sub_mul];omega
 unfold road_beyond.f bey
 rw [(tdm h).1,(tdm h).2,wrap_in (x:=t % W + 1) (by omega) (by omega),wrap_in (x:=t % W - 1) (by omega) (by omega),wrap_in (x:=t / W) (by omega) (by omega),wrap_in (x:=t / W + 1) (by omega) (by omega),wrap_in (x:=t / W - 1) (by omega) (by omega),m4,m7,wrap_in (x:=t / W * W) (by omega) (by omega),wrap_in (x:=t / W * W + W) (by omega) (by omega),wrap_in (x:=t / W * W - W) (by omega) (by omega),wrap_in (x:=t / W * W + (t % W + 1)) (by omega) (by omega),wrap_in (x:=t / W * W + (t % W - 1)) (by omega) (by omega),wrap_in (x:=t / W * W + W + t % W) (by omega) (by omega),wrap_in (x:=t / W * W - W + t % W) (by omega) (by omega)]
 repeat' split
 all_goals first | rfl | omega | (congr 1;omega)
theorem ref_beyond_eq (h : On W H t) (hs : 0 ≤ s ∧ s ≤ 3) : hinterlandref02_Beyond.f W H t s = some (bey W H t s) := by
 rw [← beyond_eq [] [] h]
 unfold hinterlandref02_Beyond.f road_beyond.f
 have sw : ∀ (p q u : Prop) [Decidable p] [Decidable q] [Decidable u] (x y : Option Int),(if p then x else if q then x else if u then x else y) = (if p then x else if u then x else if q then x else y):=by
  intro p q u _ _ _ x y
  by_cases hp : p <;> by_cases hq : q <;> by_cases hu : u <;> simp [hp,hq,hu]
 rcases (by omega : s = 0 ∨ s = 1 ∨ s = 2 ∨ s = 3) with e | e | e | e
 ·subst e
  by_cases c : W = 0
  ·rw [if_pos c,if_pos c]
  ·rw [if_neg c,if_neg c,if_pos rfl,if_pos rfl]
   exact sw _ _ _ _ _
 ·subst e
  by_cases c : W = 0
  ·rw [if_pos c,if_pos c]
  ·rw [if_neg c,if_neg c]
   simp only [if_neg (show ¬ (1 : Int) = 0 by decide),if_pos (show (1 : Int) = 1 from rfl)]
   exact sw _ _ _ _ _
 ·subst e
  by_cases c : W = 0
  ·rw [if_pos c,if_pos c]
  ·rw [if_neg c,if_neg c]
   simp only [if_neg (show ¬ (2 : Int) = 0 by decide),if_neg (show ¬ (2 : Int) = 1 by decide),if_pos (show (2 : Int) = 2 from rfl)]
   exact sw _ _ _ _ _
 ·subst e
  by_cases c : W = 0
  ·rw [if_pos c,if_pos c]
  ·rw [if_neg c,if_neg c]
   simp only [if_neg (show ¬ (3 : Int) = 0 by decide),if_neg (show ¬ (3 : Int) = 1 by decide),if_neg (show ¬ (3 : Int) = 2 by decide),if_pos (show (3 : Int) = 3 from rfl)]
   exact sw _ _ _ _ _
def opp (s : Int) : Int := Int.tmod (wrap64 (s + 2)) 4
theorem opp_at (hs : 0 ≤ s ∧ s ≤ 3) : (0 ≤ opp s ∧ opp s ≤ 3) ∧ opp (opp s) = s := by
 rcases (by omega : s = 0 ∨ s = 1 ∨ s = 2 ∨ s = 3) with h | h | h | h <;> subst h <;> decide +kernel
theorem opp_is (hs : 0 ≤ s ∧ s ≤ 3) : (s = 0 ∧ opp s = 2) ∨ (s = 1 ∧ opp s = 3) ∨ (s = 2 ∧ opp s = 0) ∨ (s = 3 ∧ opp s = 1) := by
 rcases (by omega : s = 0 ∨ s = 1 ∨ s = 2 ∨ s = 3) with h | h | h | h <;> subst h <;> decide +kernel
theorem bey_back (h : On W H t) (hs : 0 ≤ s ∧ s ≤ 3) (hb : 0 ≤ bey W H t s) : bey W H (bey W H t s) (opp s) = t := by
 obtain ⟨⟨x0,x1⟩,⟨y0,y1⟩,e,a0,a1⟩:=h.xy
 have hW:=h.hW
 have hH:=h.hH
 have ht:=h.ht
 have key : ∀ x y : Int,0 ≤ x → x < W → (y * W + x) % W = x ∧ (y * W + x) / W = y:=by
  intro x y h0 h1
  constructor
  ·rw [Int.add_comm,Int.add_mul_emod_self_right,Int.emod_eq_of_lt h0 h1]
  ·rw [Int.add_comm,Int.add_mul_ediv_right _ _ (by omega),Int.ediv_eq_zero_of_lt h0 h1];omega
 have m4 : (t / W + 1) * W = t / W * W + W:=by rw [Int.add_mul];omega
 have m7 : (t / W - 1) * W = t / W * W - W:=by rw [Int.sub_mul];omega
 rcases opp_is hs with ⟨h1,h2⟩ | ⟨h1,h2⟩ | ⟨h1,h2⟩ | ⟨h1,h2⟩
 ·rw [h2]
  rw [h1] at hb ⊢
  unfold bey at hb ⊢
  rw [if_pos rfl] at hb ⊢
  by_cases c : t % W + 1 < W
  ·rw [if_pos c]
   have k:=key (t % W + 1) (t / W) (by omega) (by omega)
   rw [show t / W * W + (t % W + 1) = t + 1 by omega] at k
   rw [if_neg (by decide),if_neg (by decide),if_pos rfl,k.1,if_pos (by omega)];omega
  ·rw [if_neg c] at hb;omega
 ·rw [h2]
  rw [h1] at hb ⊢
  unfold bey at hb ⊢
  rw [if_neg (by decide),if_pos rfl] at hb
  by_cases c : t / W + 1 < H
  ·have k:=key (t % W) (t / W + 1) (by omega) (by omega)
   rw [m4,show t / W * W + W + t % W = t + W by omega] at k
   rw [if_neg (by decide : ¬ (3 : Int) = 0),if_neg (by decide : ¬ (3 : Int) = 1),if_neg (by decide : ¬ (3 : Int) = 2),if_neg (by decide : ¬ (1 : Int) = 0),if_pos (rfl : (1 : Int) = 1),if_pos c,k.2,if_pos (by omega)];omega
  ·rw [if_neg c] at hb;omega
 ·rw [h2]
  rw [h1] at hb ⊢
  unfold bey at hb ⊢
  rw [if_neg (by decide),if_neg (by decide),if_pos rfl] at hb
  by_cases c : 0 < t % W
  ·have k:=key (t % W - 1) (t / W) (by omega) (by omega)
   rw [show t / W * W + (t % W - 1) = t - 1 by omega] at k
   rw [if_neg (by decide : ¬ (2 : Int) = 0),if_neg (by decide : ¬ (2 : Int) = 1),if_pos (rfl : (2 : Int) = 2),if_pos c,if_pos (rfl : (0 : Int) = 0),k.1,if_pos (by omega)];omega
  ·rw [if_neg c] at hb;omega
 ·rw [h2]
  rw [h1] at hb ⊢
  unfold bey at hb ⊢
  rw [if_neg (by decide),if_neg (by decide),if_neg (by decide)] at hb
  by_cases c : 0 < t / W
  ·have k:=key (t % W) (t / W - 1) (by omega) (by omega)
   rw [m7,show t / W * W - W + t % W = t - W by omega] at k
   rw [if_neg (by decide : ¬ (3 : Int) = 0),if_neg (by decide : ¬ (3 : Int) = 1),if_neg (by decide : ¬ (3 : Int) = 2),if_neg (by decide : ¬ (1 : Int) = 0),if_pos (rfl : (1 : Int) = 1),if_pos c,k.2,if_pos (by omega)];omega
  ·rw [if_neg c] at hb;omega
end
def has (a s : Int) : Bool := Go.bits .and .i64 (shr .i64 a s) 1 == 1
theorem has_none {s : Int} (hs : 0 ≤ s ∧ s ≤ 3) : has 0 s = false := by
 rcases (by omega : s = 0 ∨ s = 1 ∨ s = 2 ∨ s = 3) with h | h | h | h <;> subst h <;> decide +kernel
def meets (W H : Int) (A : List Int) (t s : Int) : Int := if 0 ≤ bey W H t s ∧ has (rd A t) s = true ∧ has (rd A (bey W H t s)) (opp s) = true then bey W H t s else -1
structure Good (W H : Int) (A Y : List Int) : Prop where
 hW : 4 ≤ W ∧ W ≤ 32
 hH : 4 ≤ H ∧ H ≤ 32
 hA : (A.length : Int) = W * H
 hY : (Y.length : Int) = W * H
 arms : Arms A
 ways : Wayz Y
 ones : Ones A Y
theorem good_of {W H : Int} {A Y : List Int} (h : vcode W H A Y = 0) : Good W H A Y := by
 have h:=vcode_zero.1 h
 exact ⟨h.1.1,h.1.2.1,h.1.2.2.1,h.1.2.2.2,h.2.1,h.2.2.1,h.2.2.2⟩
section
variable {W H t s : Int} {A Y : List Int}
theorem Good.on (h : Good W H A Y) (ht : 0 ≤ t ∧ t < W * H) : On W H t := ⟨h.hW, h.hH, ht⟩
theorem Good.arm (h : Good W H A Y) (ht : 0 ≤ t ∧ t < W * H) : 0 ≤ rd A t ∧ rd A t ≤ 15 := h.arms t.toNat (by omega) (by have := h.hA; omega)
theorem meets_at (h : Good W H A Y) (ht : 0 ≤ t ∧ t < W * H) (s : Int) : meets W H A t s = -1 ∨ (0 ≤ meets W H A t s ∧ meets W H A t s < W * H ∧ meets W H A t s = bey W H t s) := by
 unfold meets
 have hb:=bey_at (h.on ht) s
 by_cases c : 0 ≤ bey W H t s ∧ has (rd A t) s = true ∧ has (rd A (bey W H t s)) (opp s) = true
 ·rw [if_pos c];exact .inr ⟨by omega,by omega,rfl⟩
 ·rw [if_neg c];exact .inl rfl
theorem meets_back (h : Good W H A Y) (ht : 0 ≤ t ∧ t < W * H) (hs : 0 ≤ s ∧ s ≤ 3) (hm : 0 ≤ meets W H A t s) : meets W H A (meets W H A t s) (opp s) = t := by
 unfold meets at hm ⊢
 by_cases c : 0 ≤ bey W H t s ∧ has (rd A t) s = true ∧ has (rd A (bey W H t s)) (opp s) = true
 ·rw [if_pos c] at hm ⊢
  have hb:=bey_back (h.on ht) hs c.1
  rw [hb,(opp_at hs).2,if_pos ⟨ht.1,c.2.2,c.2.1⟩]
 ·rw [if_neg c] at hm;omega
theorem meets_arm (hs : 0 ≤ s ∧ s ≤ 3) (hm : 0 ≤ meets W H A t s) : rd A t ≠ 0 := by
 intro h0
 unfold meets at hm
 rw [h0,has_none hs,if_neg (by simp)] at hm
 omega
theorem joined_eq (h : Good W H A Y) (ht : 0 ≤ t ∧ t < W * H) (hs : 0 ≤ s ∧ s ≤ 3) : road_joined.f W H A Y t s = some (decide (0 ≤ meets W H A t s)) := by
 unfold road_joined.f
 rw [beyond_eq A Y (h.on ht),Option.bind_some]
 have hb:=bey_at (h.on ht) s
 have hA:=h.hA
 have ho:=(opp_at hs).1
 unfold meets
 by_cases c0 : 0 ≤ bey W H t s
 rotate_left
 ·rw [if_neg (by omega),if_neg (by omega)];rfl
 rw [if_pos (show bey W H t s ≥ 0 from c0),if_pos ht.1,if_pos (by omega),if_pos hs.1]
 by_cases c1 : has (rd A t) s = true
 rotate_left
 ·rw [if_neg (fun h => c1 (beq_iff_eq.2 h)),if_neg (fun h => c1 h.2.1)];rfl
 rw [if_pos (beq_iff_eq.1 c1),if_pos c0,if_pos (by omega),if_pos (show 0 ≤ Int.tmod (wrap64 (s + 2)) 4 from ho.1)]
 show some (has (rd A (bey W H t s)) (opp s)) = _
 by_cases c2 : has (rd A (bey W H t s)) (opp s) = true
 ·rw [c2,if_pos ⟨c0,c1,rfl⟩,decide_eq_true c0]
 ·rw [if_neg (fun h => c2 h.2.2),Bool.eq_false_iff.2 c2];rfl
def lets (w s : Int) : Bool := decide (w = 0 ∨ (w = 1 ∧ s < 2) ∨ (w = 2 ∧ s ≥ 2))
theorem lets_eq (w s : Int) : road_lets.f w s = some (lets w s) := by
 unfold road_lets.f lets
 by_cases h0 : w = 0
 ·rw [if_pos h0,decide_eq_true (.inl h0)]
 rw [if_neg h0]
 by_cases h1 : w = 1
 ·rw [if_pos h1]
  by_cases h2 : s < 2
  ·rw [if_pos h2,decide_eq_true (.inr (.inl ⟨h1,h2⟩))]
  ·rw [if_neg h2,if_neg (by omega),decide_eq_false (by omega)]
 ·rw [if_neg h1]
  by_cases h2 : w = 2
  ·rw [if_pos h2];congr 1;apply decide_eq_decide.2;omega
  ·rw [if_neg h2,decide_eq_false (by omega)]
def may (W H : Int) (A Y : List Int) (t s : Int) : Bool := decide (0 ≤ meets W H A t s) && lets (rd Y t) s && lets (rd Y (bey W H t s)) s
theorem may_eq (h : Good W H A Y) (ht : 0 ≤ t ∧ t < W * H) (hs : 0 ≤ s ∧ s ≤ 3) : road_may.f W H A Y t s = some (may W H A Y t s) := by
 unfold road_may.f may
 rw [joined_eq h ht hs,Option.bind_some]
 have hY:=h.hY
 by_cases c0 : 0 ≤ meets W H A t s
 rotate_left
 ·rw [decide_eq_false c0,if_neg (by simp)];rfl
 have hm:=meets_at h ht s
 rw [decide_eq_true c0,if_pos rfl,if_pos ht.1,if_pos (by omega),lets_eq,Option.bind_some,beyond_eq A Y (h.on ht),Option.bind_some]
 by_cases c1 : lets (rd Y t) s = true
 ·rw [if_pos c1,if_pos (by omega),if_pos (by omega),lets_eq,Option.bind_some,c1];simp
 ·rw [if_neg c1,Bool.eq_false_iff.2 c1];rfl
def sel (W H : Int) (A Y : List Int) (t f : Int) : Nat → List Int
 | 0 => []
 | i + 1 => if (i : Int) = f then sel W H A Y t f i else if may W H A Y t i = true then sel W H A Y t f i ++ [(i : Int)] else sel W H A Y t f i
def outs (W H : Int) (A Y : List Int) (t f : Int) : List Int := if sel W H A Y t f 4 = [] ∧ 0 ≤ f ∧ may W H A Y t f = true then [f] else sel W H A Y t f 4
theorem sel_len (f : Int) : ∀ i, (sel W H A Y t f i).length ≤ i
 | 0 => Nat.le_refl _
 | i + 1 => by
  have ih:=sel_len f i
  unfold sel
  repeat' split
  all_goals first | omega | (simp;omega)
theorem sel_mem (f : Int) : ∀ i x, x ∈ sel W H A Y t f i → (0 ≤ x ∧ x < i) ∧ may W H A Y t x = true
 | 0,x,h => by simp [sel] at h
 | i + 1,x,h => by
  have ih:=sel_mem f i x
  unfold sel at h
  split at h
  ·have:=ih h;exact ⟨by omega,this.2⟩
  ·split at h
   ·rcases List.mem_append.1 h with h | h
    ·have:=ih h;exact ⟨by omega,this.2⟩
    ·obtain rfl:=List.mem_singleton.1 h
     exact ⟨by omega,by assumption⟩
   ·have:=ih h;exact ⟨by omega,this.2⟩
theorem outs_mem {f x : Int} (hf : f ≤ 3) (hx : x ∈ outs W H A Y t f) : (0 ≤ x ∧ x ≤ 3) ∧ may W H A Y t x = true := by
 unfold outs at hx
 split at hx
 ·rename_i c
  obtain rfl:=List.mem_singleton.1 hx
  exact ⟨⟨c.2.1,hf⟩,c.2.2⟩
 ·have:=sel_mem f 4 x hx
  exact ⟨by omega,this.2⟩
theorem outs_len (f : Int) : (outs W H A Y t f).length ≤ 4 := by
 unfold outs
 split
 ·simp
 ·exact sel_len f 4
theorem at_eq (h : Good W H A Y) (ht : 0 ≤ t ∧ t < W * H) (f : Int) : ∀ i, i ≤ 4 → road_next.at_ W H A Y t f i = some (sel W H A Y t f i)
 | 0,_ => rfl
 | i + 1,hi => by
  unfold road_next.at_ sel
  rw [at_eq h ht f i (by omega),Option.bind_some]
  by_cases c : (i : Int) = f
  ·rw [if_pos c,if_pos c]
  ·rw [if_neg c,if_neg c]
   unfold road_next.try_
   rw [may_eq h ht ⟨by omega,by omega⟩,Option.bind_some]
theorem next_eq (h : Good W H A Y) (ht : 0 ≤ t ∧ t < W * H) {f : Int} (hf : f ≤ 3) : road_next.f W H A Y t f = some (outs W H A Y t f) := by
 unfold road_next.f outs
 rw [at_eq h ht f 4 (by omega),Option.bind_some]
 by_cases c : sel W H A Y t f 4 = []
 ·rw [if_pos c]
  by_cases c0 : f ≥ 0
  ·rw [if_pos c0]
   unfold road_next.try_
   rw [may_eq h ht ⟨c0,hf⟩,Option.bind_some]
   by_cases c1 : may W H A Y t f = true
   ·rw [if_pos c1,if_pos ⟨c,c0,c1⟩,c];rfl
   ·rw [if_neg c1,if_neg (fun h => c1 h.2.2)]
  ·rw [if_neg c0,if_neg (fun h => c0 h.2.1)]
 ·rw [if_neg c,if_neg (fun h => c h.1)]
end
section
variable {W H t s : Int} {A Y : List Int}
theorem check_ev (hA : A.length ≤ 4000) (hY : Y.length ≤ 4000) : Ev (fun k => road_check.f k W H A Y t) (if vcode W H A Y = 0 then (if 0 ≤ t ∧ t < W * H then 0 else 2) else vcode W H A Y) := by
 unfold road_check.f
 refine Ev.bind (validate_ev hA hY) ?_
 by_cases h : vcode W H A Y = 0
 ·refine Ev.eq (Ev.pos h ?_) (if_pos h).symm
  have g:=good_of h
  have ha:=area g.hW g.hH
  rw [wrap_in (x:=W * H) (by omega) (by omega)]
  by_cases h1 : t < 0
  ·exact Ev.eq (Ev.pos h1 (Ev.now _)) (if_neg (by omega)).symm
  refine Ev.neg h1 ?_
  by_cases h2 : t ≥ W * H
  ·exact Ev.eq (Ev.pos h2 (Ev.now _)) (if_neg (by omega)).symm
  ·exact Ev.eq (Ev.neg h2 (Ev.now _)) (if_pos ⟨by omega,by omega⟩).symm
 ·exact Ev.eq (Ev.neg h (Ev.now _)) (if_neg h).symm
open Classical in
noncomputable def tcode (W H : Int) (A Y : List Int) (t a b s : Int) : Int := if vcode W H A Y = 0 then (if 0 ≤ t ∧ t < W * H then (if a ≤ s ∧ s ≤ b then 0 else 1) else 2) else vcode W H A Y
theorem tcode_zero {a b : Int} : tcode W H A Y t a b s = 0 ↔ vcode W H A Y = 0 ∧ (0 ≤ t ∧ t < W * H) ∧ a ≤ s ∧ s ≤ b := by
 unfold tcode
 by_cases h1 : vcode W H A Y = 0
 ·rw [if_pos h1]
  by_cases h2 : 0 ≤ t ∧ t < W * H
  ·rw [if_pos h2]
   by_cases h3 : a ≤ s ∧ s ≤ b
   ·rw [if_pos h3];exact ⟨fun _ => ⟨h1,h2,h3⟩,fun _ => rfl⟩
   ·rw [if_neg h3];exact ⟨fun h => absurd h (by decide),fun h => absurd h.2.2 h3⟩
  ·rw [if_neg h2];exact ⟨fun h => absurd h (by decide),fun h => absurd h.2.1 h2⟩
 ·rw [if_neg h1];exact ⟨fun h => absurd h h1,fun h => absurd h.1 h1⟩
theorem checked {α : Type} {a b : Int} (hA : A.length ≤ 4000) (hY : Y.length ≤ 4000) {f : Nat → Int → Option α} {r : α}
  (h : vcode W H A Y = 0 → 0 ≤ t ∧ t < W * H → Ev (fun k => f k 0) r) (hb : ∀ c,c ≠ 0 → c = tcode W H A Y t a b s → Ev (fun k => f k c) r) : Ev (fun k => (road_check.f k W H A Y t).bind (f k)) r:=by
 refine Ev.bind (check_ev hA hY) ?_
 by_cases h1 : vcode W H A Y = 0
 ·rw [if_pos h1]
  by_cases h2 : 0 ≤ t ∧ t < W * H
  ·rw [if_pos h2];exact h h1 h2
  ·rw [if_neg h2];exact hb 2 (by decide) (by unfold tcode;rw [if_pos h1,if_neg h2])
 ·rw [if_neg h1];exact hb _ h1 (by unfold tcode;rw [if_neg h1])
theorem Joined_ev (hA : A.length ≤ 4000) (hY : Y.length ≤ 4000) : Ev (fun k => road_Joined.f k W H A Y t s) (if tcode W H A Y t 0 3 s = 0 then (decide (0 ≤ meets W H A t s), 0) else (false, tcode W H A Y t 0 3 s)) := by
 unfold road_Joined.f
 refine checked (a:=0) (b:=3) (s:=s) hA hY (fun h1 h2 => ?_) (fun c hc he => ?_)
 ·refine Ev.pos (by first | rfl | trivial) ?_
  have bad : ¬ (0 ≤ s ∧ s ≤ 3) → tcode W H A Y t 0 3 s = 1:=by intro h;unfold tcode;rw [if_pos h1,if_pos h2,if_neg h]
  by_cases c0 : s < 0
  ·rw [bad (by omega)];exact Ev.pos c0 (Ev.now _)
  refine Ev.neg c0 ?_
  by_cases c1 : s > 3
  ·rw [bad (by omega)];exact Ev.pos c1 (Ev.now _)
  refine Ev.eq (Ev.neg c1 (Ev.bindc (joined_eq (good_of h1) h2 ⟨by omega,by omega⟩) (Ev.now _))) (if_pos (tcode_zero.2 ⟨h1,h2,by omega,by omega⟩)).symm
 ·rw [← he]
  exact Ev.eq (Ev.neg hc (Ev.now _)) (if_neg hc).symm
theorem Next_ev (hA : A.length ≤ 4000) (hY : Y.length ≤ 4000) : Ev (fun k => road_Next.f k W H A Y t s) (if tcode W H A Y t (-1) 3 s = 0 then (outs W H A Y t s, 0) else ([], tcode W H A Y t (-1) 3 s)) := by
 unfold road_Next.f
 refine checked (a:=-1) (b:=3) (s:=s) hA hY (fun h1 h2 => ?_) (fun c hc he => ?_)
 ·refine Ev.pos (by first | rfl | trivial) ?_
  have bad : ¬ (-1 ≤ s ∧ s ≤ 3) → tcode W H A Y t (-1) 3 s = 1:=by intro h;unfold tcode;rw [if_pos h1,if_pos h2,if_neg h]
  by_cases c0 : s < -1
  ·rw [bad (by omega)];exact Ev.pos c0 (Ev.now _)
  refine Ev.neg c0 ?_
  by_cases c1 : s > 3
  ·rw [bad (by omega)];exact Ev.pos c1 (Ev.now _)
  refine Ev.eq (Ev.neg c1 (Ev.bindc (next_eq (good_of h1) h2 (by omega)) (Ev.now _))) (if_pos (tcode_zero.2 ⟨h1,h2,by omega,by omega⟩)).symm
 ·rw [← he]
  exact Ev.eq (Ev.neg hc (Ev.now _)) (if_neg hc).symm
end
section
variable {W H t s : Int} {A Y : List Int}
theorem may_meets (h : may W H A Y t s = true) : 0 ≤ meets W H A t s := by
 unfold may at h
 simp only [Bool.and_eq_true,decide_eq_true_eq] at h
 exact h.1.1
theorem pick {l : List Int} {m : Int} (hl : l.length ≠ 0) : 0 ≤ m % (l.length : Int) ∧ m % (l.length : Int) < (l.length : Int) ∧ rd l (m % (l.length : Int)) ∈ l := by
 have h0:=Int.emod_nonneg m (show (l.length : Int) ≠ 0 by omega)
 have h1:=Int.emod_lt_of_pos m (show 0 < (l.length : Int) by omega)
 refine ⟨h0,h1,?_⟩
 unfold rd
 rw [List.getD_eq_getElem?_getD,List.getElem?_eq_getElem (by omega)]
 exact List.getElem_mem _
end
section
variable {W H : Int} {A Y : List Int}
def Link (W H : Int) (A : List Int) (t u : Nat) : Prop := t < A.length ∧ ∃ s : Int, (0 ≤ s ∧ s ≤ 3) ∧ meets W H A (t : Int) s = (u : Int)
inductive Reach (W H : Int) (A : List Int) (i : Nat) : Nat → Prop
 | refl : Reach W H A i i
 | step {u v : Nat} : Reach W H A i u → Link W H A u v → Reach W H A i v
theorem tile_in (g : Good W H A Y) {j : Nat} (h : j < A.length) : 0 ≤ (j : Int) ∧ (j : Int) < W * H := by have := g.hA; omega
theorem Link.back (g : Good W H A Y) {t u : Nat} (h : Link W H A t u) : Link W H A u t := by
 obtain ⟨ht,s,hs,hm⟩:=h
 have hm0 : 0 ≤ meets W H A (t : Int) s:=by omega
 have h1:=meets_at g (tile_in g ht) s
 have h2:=meets_back g (tile_in g ht) hs hm0
 rw [hm] at h2
 exact ⟨by have:=g.hA;omega,opp s,(opp_at hs).1,h2⟩
theorem Link.lt (g : Good W H A Y) {t u : Nat} (h : Link W H A t u) : u < A.length := (h.back g).1
theorem Link.arm {t u : Nat} (h : Link W H A t u) : rd A (t : Int) ≠ 0 := by
 obtain ⟨ht,s,hs,hm⟩:=h
 exact meets_arm (W:=W) (H:=H) hs (by omega)
theorem Reach.trans {i j k : Nat} (h : Reach W H A i j) (h' : Reach W H A j k) : Reach W H A i k := by
 induction h' with
 | refl => exact h
 | step _ l ih => exact ih.step l
theorem Reach.symm (g : Good W H A Y) {i j : Nat} (h : Reach W H A i j) : Reach W H A j i := by
 induction h with
 | refl => exact .refl
 | step _ l ih => exact (Reach.step .refl (l.back g)).trans ih
theorem Reach.lt (g : Good W H A Y) {i j : Nat} (h : Reach W H A i j) (hi : i < A.length) : j < A.length := by
 cases h with
 | refl => exact hi
 | step _ l => exact l.lt g
theorem Reach.arm (g : Good W H A Y) {i j : Nat} (h : Reach W H A i j) (hij : i ≠ j) : rd A (j : Int) ≠ 0 := by
 cases h with
 | refl => exact absurd rfl hij
 | step _ l => exact (l.back g).arm
theorem least_ex (W H : Int) (A : List Int) (j : Nat) : ∃ n, Reach W H A j n ∧ ∀ m, Reach W H A j m → n ≤ m := exists_least ⟨j, .refl⟩
noncomputable def low (W H : Int) (A : List Int) (j : Nat) : Nat := Classical.choose (least_ex W H A j)
theorem low_reach (W H : Int) (A : List Int) (j : Nat) : Reach W H A j (low W H A j) := (Classical.choose_spec (least_ex W H A j)).1
theorem low_least {j k : Nat} (h : Reach W H A j k) : low W H A j ≤ k := (Classical.choose_spec (least_ex W H A j)).2 k h
theorem low_le (W H : Int) (A : List Int) (j : Nat) : low W H A j ≤ j := low_least .refl
theorem low_eq (g : Good W H A Y) {i j : Nat} (h : Reach W H A i j) : low W H A i = low W H A j :=
 Nat.le_antisymm (low_least (h.trans (low_reach W H A j))) (low_least ((h.symm g).trans (low_reach W H A i)))
theorem reach_low (g : Good W H A Y) {i j : Nat} (h : low W H A j = i) : Reach W H A i j := by
 subst h
 exact (low_reach W H A j).symm g
theorem count_set (i : Int) : ∀ (L : List Int) (u : Nat), u < L.length → L.getD u 0 ≠ i → (L.set u i).countP (fun x => x != i) + 1 = L.countP (fun x => x != i)
 | [],u,h,_ => absurd h (by simp)
 | x :: L,0,_,h => by
  have hx : x ≠ i:=by simpa using h
  simp [List.countP_cons,hx]
 | x :: L,u + 1,hu,h => by
  have ih:=count_set i L u (by simpa using hu) (by simpa using h)
  simp only [List.set_cons_succ,List.countP_cons]
  omega
theorem set_at (l : List Int) (i j : Nat) (v : Int) : (l.set i v).getD j 0 = if i = j ∧ j < l.length then v else l.getD j 0 := by
 rw [List.getD_eq_getElem?_getD,List.getElem?_set,List.getD_eq_getElem?_getD]
 by_cases h : i = j
 ·rw [if_pos h]
  by_cases h2 : i < l.length
  ·rw [if_pos h2,if_pos ⟨h,by omega⟩];rfl
  ·rw [if_neg h2,if_neg (by omega),List.getElem?_eq_none (by omega)]
 ·rw [if_neg h,if_neg (fun hh => h hh.1)]
structure Inv (W H : Int) (A : List Int) (i : Nat) (L0 L q : List Int) (x : Nat) : Prop where
 len : L.length = A.length
 old : ∀ j,j < A.length → L.getD j 0 = L0.getD j 0 ∨ (L.getD j 0 = (i : Int) ∧ Reach W H A i j)
 inq : ∀ y ∈ q,∃ j : Nat,y = (j : Int) ∧ Reach W H A i j ∧ L.getD j 0 = (i : Int)
 cls : ∀ j,Reach W H A i j → L.getD j 0 = (i : Int) → (j : Int) ∈ q ∨ j = x ∨ ∀ u,Link W H A j u → L.getD u 0 = (i : Int)
 src : L.getD i 0 = (i : Int)
theorem Inv.full {i : Nat} {L0 L : List Int} (g : Good W H A Y) (h : Inv W H A i L0 L [] A.length) : ∀ {j}, Reach W H A i j → i < A.length → L.getD j 0 = (i : Int) := by
 intro j hj hi
 induction hj with
 | refl => exact h.src
 | step r l ih =>
  rcases h.cls _ r ih with h1 | h1 | h1
  ·exact absurd h1 (by simp)
  ·have:=r.lt g hi;omega
  ·exact h1 _ l
variable {α : Type} {i : Nat} {L0 : List Int} {r : α} {F2 : Nat → List Int → List Int → Option α} {F3 : Nat → List Int → List Int → Int → Int → Option α}
structure Floods (W H : Int) (A : List Int) (i : Nat) (L0 : List Int) (r : α) (F2 : Nat → List Int → List Int → Option α) (F3 : Nat → List Int → List Int → Int → Int → Option α) : Prop where
 take : ∀ L q,q ≠ [] → q.length ≤ 9000 → ∃ (t : Int) (q' : List Int),q'.length + 1 = q.length ∧ (∀ y,y ∈ q ↔ y = t ∨ y ∈ q') ∧ (Ev (fun k => F3 k L q' t 0) r → Ev (fun k => F2 k L q) r)
 fin : ∀ L,L.length = A.length → (∀ j,j < A.length → L.getD j 0 = L0.getD j 0 ∨ (L.getD j 0 = (i : Int) ∧ Reach W H A i j)) → (∀ j,Reach W H A i j → L.getD j 0 = (i : Int)) → Ev (fun k => F2 k L []) r
 turn : ∀ L q t,Ev (fun k => F2 k L q) r → Ev (fun k => F3 k L q t 4) r
 none : ∀ L q (t : Nat) (s : Int),t < A.length → (0 ≤ s ∧ s ≤ 3) → meets W H A (t : Int) s = -1 → Ev (fun k => F3 k L q (t : Int) (s + 1)) r → Ev (fun k => F3 k L q (t : Int) s) r
 done : ∀ L q (t : Nat) (s : Int) (u : Nat),t < A.length → (0 ≤ s ∧ s ≤ 3) → meets W H A (t : Int) s = (u : Int) → u < A.length → L.length = A.length → L.getD u 0 = (i : Int) → Ev (fun k => F3 k L q (t : Int) (s + 1)) r → Ev (fun k => F3 k L q (t : Int) s) r
 mark : ∀ L q (t : Nat) (s : Int) (u : Nat),t < A.length → (0 ≤ s ∧ s ≤ 3) → meets W H A (t : Int) s = (u : Int) → u < A.length → L.length = A.length → q.length ≤ 9000 → Reach W H A i u → L.getD u 0 = L0.getD u 0 → L.getD u 0 ≠ (i : Int) → Ev (fun k => F3 k (L.set u (i : Int)) (q ++ [(u : Int)]) (t : Int) (s + 1)) r → Ev (fun k => F3 k L q (t : Int) s) r
theorem flood3 (g : Good W H A Y) (hi : i < A.length) (F : Floods W H A i L0 r F2 F3) (t : Nat) (ht : Reach W H A i t) :
  ∀ (n : Nat) (s : Int) (L q : List Int),s + n = 4 → 0 ≤ s → 2 * L.countP (fun x => x != (i : Int)) + q.length ≤ 9000 → L.getD t 0 = (i : Int) → Inv W H A i L0 L q t → (∀ s' : Int,(0 ≤ s' ∧ s' < s) → ∀ u : Nat,meets W H A (t : Int) s' = (u : Int) → L.getD u 0 = (i : Int)) →
  (∀ L' q',2 * L'.countP (fun x => x != (i : Int)) + q'.length ≤ 2 * L.countP (fun x => x != (i : Int)) + q.length → Inv W H A i L0 L' q' A.length → Ev (fun k => F2 k L' q') r) → Ev (fun k => F3 k L q (t : Int) s) r
 | 0,s,L,q,hs,h0,hB,hL,I,ts,K => by
  obtain rfl : s = 4:=by omega
  refine F.turn L q t (K L q (Nat.le_refl _) ⟨I.len,I.old,I.inq,fun j hj hl => ?_,I.src⟩)
  rcases I.cls j hj hl with h | h | h
  ·exact .inl h
  ·refine .inr (.inr fun u hu => ?_)
   subst h
   obtain ⟨_,s',hs',hm⟩:=hu
   exact ts s' ⟨hs'.1,by omega⟩ u hm
  ·exact .inr (.inr h)
 | n + 1,s,L,q,hs,h0,hB,hL,I,ts,K => by
  have htl:=ht.lt g hi
  have hm:=meets_at g (tile_in g htl) s
  have hA:=g.hA
  by_cases hneg : meets W H A (t : Int) s = -1
  ·refine F.none L q t s htl ⟨h0,by omega⟩ hneg (flood3 g hi F t ht n (s + 1) L q (by omega) (by omega) hB hL I (fun s' hs' u hu => ?_) K)
   by_cases e : s' = s
   ·subst e;omega
   ·exact ts s' ⟨hs'.1,by omega⟩ u hu
  obtain ⟨u,hu⟩ : ∃ u : Nat,meets W H A (t : Int) s = (u : Int):=⟨(meets W H A (t : Int) s).toNat,by omega⟩
  have hul : u < A.length:=by omega
  have hlink : Link W H A t u:=⟨htl,s,⟨h0,by omega⟩,hu⟩
  have hru : Reach W H A i u:=ht.step hlink
  by_cases hd : L.getD u 0 = (i : Int)
  ·refine F.done L q t s u htl ⟨h0,by omega⟩ hu hul I.len hd (flood3 g hi F t ht n (s + 1) L q (by omega) (by omega) hB hL I (fun s' hs' v hv => ?_) K)
   by_cases e : s' = s
   ·subst e
    have : u = v:=by omega
    rw [← this];exact hd
   ·exact ts s' ⟨hs'.1,by omega⟩ v hv
  have hold : L.getD u 0 = L0.getD u 0:=(I.old u hul).resolve_right (fun h => hd h.1)
  have hc:=count_set (i : Int) L u (by rw [I.len];exact hul) hd
  have keep : ∀ v,L.getD v 0 = (i : Int) → (L.set u (i : Int)).getD v 0 = (i : Int):=by
   intro v hv
   rw [set_at]
   split
   ·rfl
   ·exact hv
  have at_u : (L.set u (i : Int)).getD u 0 = (i : Int):=by rw [set_at,if_pos ⟨rfl,by rw [I.len];exact hul⟩]
  refine F.mark L q t s u htl ⟨h0,by omega⟩ hu hul I.len (by omega) hru hold hd (flood3 g hi F t ht n (s + 1) (L.set u (i : Int)) (q ++ [(u : Int)]) (by omega) (by omega) (by simp;omega) (keep t hL) ⟨by rw [List.length_set];exact I.len,?_,?_,?_,keep i I.src⟩ (fun s' hs' v hv => ?_) (fun L' q' hm' I' => K L' q' (by simp at hm';omega) I'))
  ·intro j hj
   rw [set_at]
   by_cases e : u = j
   ·rw [if_pos ⟨e,by rw [I.len];exact hj⟩]
    subst e
    exact .inr ⟨rfl,hru⟩
   ·rw [if_neg (fun h => e h.1)]
    exact I.old j hj
  ·intro y hy
   rcases List.mem_append.1 hy with h | h
   ·obtain ⟨j,e,hj,hl⟩:=I.inq y h
    exact ⟨j,e,hj,keep j hl⟩
   ·exact ⟨u,List.mem_singleton.1 h,hru,at_u⟩
  ·intro j hj hl
   by_cases e : u = j
   ·subst e
    exact .inl (List.mem_append.2 (.inr (List.mem_singleton.2 rfl)))
   ·rw [set_at,if_neg (fun h => e h.1)] at hl
    rcases I.cls j hj hl with h | h | h
    ·exact .inl (List.mem_append.2 (.inl h))
    ·exact .inr (.inl h)
    ·exact .inr (.inr fun v hv => keep v (h v hv))
  ·by_cases e : s' = s
   ·subst e
    have : u = v:=by omega
    rw [← this];exact at_u
   ·exact keep v (ts s' ⟨hs'.1,by omega⟩ v hv)
theorem flood2 (g : Good W H A Y) (hi : i < A.length) (F : Floods W H A i L0 r F2 F3) :
  ∀ (m : Nat) (L q : List Int),2 * L.countP (fun x => x != (i : Int)) + q.length ≤ m → m ≤ 9000 → Inv W H A i L0 L q A.length → Ev (fun k => F2 k L q) r:=by
 intro m
 induction m with
 | zero =>
  intro L q hm _ I
  obtain rfl : q = []:=List.length_eq_zero_iff.1 (by omega)
  exact F.fin L I.len I.old (fun j hj => I.full g hj hi)
 | succ m ih =>
  intro L q hm hB I
  by_cases hq : q = []
  ·subst hq
   exact F.fin L I.len I.old (fun j hj => I.full g hj hi)
  obtain ⟨t,q',hl,hmem,hF⟩:=F.take L q hq (by omega)
  obtain ⟨t',rfl,hrt,hlt⟩:=I.inq t ((hmem t).2 (.inl rfl))
  refine hF ?_
  refine flood3 g hi F t' hrt 4 0 L q' (by omega) (by omega) (by omega) hlt ⟨I.len,I.old,fun y hy => I.inq y ((hmem y).2 (.inr hy)),fun j hj hl' => ?_,I.src⟩ (fun s' hs' => by omega) (fun L' q'' hm' I' => ih L' q'' (by omega) (by omega) I')
  rcases I.cls j hj hl' with h | h | h
  ·rcases (hmem _).1 h with h | h
   ·exact .inr (.inl (by omega))
   ·exact .inl h
  ·exact absurd (hj.lt g hi) (by omega)
  ·exact .inr (.inr h)
end
theorem list_ext {L R : List Int} (hl : L.length = R.length) (h : ∀ j, j < L.length → L.getD j 0 = R.getD j 0) : L = R := by
 apply List.ext_getElem hl
 intro j h1 h2
 have:=h j h1
 rw [List.getD_eq_getElem?_getD,List.getD_eq_getElem?_getD,List.getElem?_eq_getElem h1,List.getElem?_eq_getElem h2] at this
 exact this
section
variable {W H : Int} {A Y : List Int}
open Classical in
noncomputable def lab (W H : Int) (A : List Int) (i j : Nat) : Int := if rd A (j : Int) ≠ 0 ∧ low W H A j < i then (low W H A j : Int) else -1
noncomputable def parts (W H : Int) (A : List Int) : List Int := (List.range A.length).map fun j => lab W H A A.length j
theorem parts_len (W H : Int) (A : List Int) : (parts W H A).length = A.length := by unfold parts; simp
theorem parts_at {j : Nat} (hj : j < A.length) : (parts W H A).getD j 0 = lab W H A A.length j := by
 unfold parts
 rw [List.getD_eq_getElem?_getD,List.getElem?_map,List.getElem?_range hj]
 rfl
theorem lab_skip (g : Good W H A Y) {i : Nat} (h : rd A (i : Int) = 0 ∨ low W H A i < i) (j : Nat) : lab W H A (i + 1) j = lab W H A i j := by
 unfold lab
 by_cases hj : rd A (j : Int) ≠ 0 ∧ low W H A j = i
 ·have hr:=reach_low g hj.2
  rcases h with h | h
  ·by_cases e : j = i
   ·subst e;exact absurd h hj.1
   ·exact absurd h ((hr.symm g).arm g e)
  ·have:=low_eq g hr
   omega
 ·by_cases h0 : rd A (j : Int) ≠ 0 ∧ low W H A j < i
  ·rw [if_pos h0,if_pos ⟨h0.1,by omega⟩]
  ·rw [if_neg h0,if_neg (fun h' => by
    by_cases e : low W H A j = i
    ·exact hj ⟨h'.1,e⟩
    ·exact h0 ⟨h'.1,by omega⟩)]
theorem lab_low (g : Good W H A Y) {i j : Nat} (hi : low W H A i = i) (h : Reach W H A i j) : lab W H A i j = -1 := by
 unfold lab
 rw [if_neg]
 have:=low_eq g h
 omega
theorem lab_next (g : Good W H A Y) {i j : Nat} (ha : rd A (i : Int) ≠ 0) (hi : low W H A i = i) (h : Reach W H A i j) : lab W H A (i + 1) j = (i : Int) := by
 have:=low_eq g h
 have hne : rd A (j : Int) ≠ 0:=by
  by_cases e : i = j
  ·subst e;exact ha
  ·exact h.arm g e
 unfold lab
 rw [if_pos ⟨hne,by omega⟩,← this,hi]
theorem lab_else (g : Good W H A Y) {i j : Nat} (h : ¬ Reach W H A i j) : lab W H A (i + 1) j = lab W H A i j := by
 unfold lab
 have hn : low W H A j ≠ i:=fun e => h (reach_low g e)
 by_cases h0 : rd A (j : Int) ≠ 0 ∧ low W H A j < i
 ·rw [if_pos h0,if_pos ⟨h0.1,by omega⟩]
 ·rw [if_neg h0,if_neg (fun h' => h0 ⟨h'.1,by omega⟩)]
theorem road_floods (g : Good W H A Y) {i : Nat} {L0 : List Int} {r : List Int × Int} (hi : i < A.length) (hlow : low W H A i = i) (h0 : ∀ j, j < A.length → L0.getD j 0 = lab W H A i j)
  (K : ∀ L,L.length = A.length → (∀ j,j < A.length → L.getD j 0 = L0.getD j 0 ∨ (L.getD j 0 = (i : Int) ∧ Reach W H A i j)) → (∀ j,Reach W H A i j → L.getD j 0 = (i : Int)) → Ev (fun k => road_Parts.l1 k L A (A.length : Int) ((i : Int) + 1) W H A Y) r) :
  Floods W H A i L0 r (fun k L q => road_Parts.l2 k L (i : Int) q A (A.length : Int) (i : Int) W H A Y) (fun k L q t s => road_Parts.l3 k L (i : Int) q t A (A.length : Int) (i : Int) s W H A Y) where
 take:=by
  intro L q hq hB
  obtain ⟨t,q',rfl⟩:=List.exists_cons_of_ne_nil hq
  refine ⟨t,q',rfl,fun y => List.mem_cons,fun hr => ?_⟩
  refine Ev.step (fun k => by simp only [road_Parts.l2];rfl) (Ev.pos (by simp only [List.length_cons];omega) (Ev.pos (by simp only [List.length_cons];omega) (Ev.pos (by simp only [List.length_cons];omega) ?_)))
  exact hr
 fin:=by
  intro L h1 h2 h3
  refine Ev.step (fun k => by simp only [road_Parts.l2];rfl) (Ev.neg (by simp) ?_)
  have ha:=area g.hW g.hH
  have hA:=g.hA
  rw [wrap_in (x:=(i : Int) + 1) (by omega) (by omega)]
  exact K L h1 h2 h3
 turn:=by
  intro L q t hr
  exact Ev.step (fun k => by simp only [road_Parts.l3];rfl) (Ev.neg (by omega) hr)
 none:=by
  intro L q t s ht hs hm hr
  refine Ev.step (fun k => by simp only [road_Parts.l3];rfl) (Ev.pos (by omega) (Ev.bindc (joined_eq g (tile_in g ht) hs) (Ev.neg (show ¬ decide (0 ≤ meets W H A (t : Int) s) = true by rw [hm];decide) ?_)))
  rw [wrap_in (x:=s + 1) (by omega) (by omega)]
  exact hr
 done:=by
  intro L q t s u ht hs hm hu hL hd hr
  have hma:=meets_at g (tile_in g ht) s
  refine Ev.step (fun k => by simp only [road_Parts.l3];rfl) (Ev.pos (by omega) (Ev.bindc (joined_eq g (tile_in g ht) hs) (Ev.pos (decide_eq_true (show 0 ≤ meets W H A (t : Int) s by omega)) (Ev.bindc (beyond_eq A Y (g.on (tile_in g ht))) ?_))))
  rw [show bey W H (t : Int) s = (u : Int) by omega,wrap_in (x:=s + 1) (by omega) (by omega),rdN,hd]
  exact Ev.pos (by omega) (Ev.pos (by omega) (Ev.neg (by omega) hr))
 mark:=by
  intro L q t s u ht hs hm hu hL hq hru hold hne hr
  have hma:=meets_at g (tile_in g ht) s
  have hneg : L.getD u 0 = -1:=by rw [hold,h0 u hu,lab_low g hlow hru]
  refine Ev.step (fun k => by simp only [road_Parts.l3];rfl) (Ev.pos (by omega) (Ev.bindc (joined_eq g (tile_in g ht) hs) (Ev.pos (decide_eq_true (show 0 ≤ meets W H A (t : Int) s by omega)) (Ev.bindc (beyond_eq A Y (g.on (tile_in g ht))) ?_))))
  rw [show bey W H (t : Int) s = (u : Int) by omega,wrap_in (x:=s + 1) (by omega) (by omega),rdN,hneg,Int.toNat_natCast]
  exact Ev.pos (by omega) (Ev.pos (by omega) (Ev.pos (by omega) (Ev.pos (by omega) hr)))
theorem road_l1 (g : Good W H A Y) : ∀ (n i : Nat) (L : List Int), i + n = A.length → L.length = A.length → (∀ j, j < A.length → L.getD j 0 = lab W H A i j) → Ev (fun k => road_Parts.l1 k L A (A.length : Int) (i : Int) W H A Y) (parts W H A, 0)
 | 0,i,L,h,hl,hL => by
  obtain rfl : i = A.length:=by omega
  refine Ev.step (fun k => by simp only [road_Parts.l1];rfl) (Ev.neg (by omega) (Ev.const ?_))
  rw [list_ext (L:=L) (R:=parts W H A) (by rw [parts_len];exact hl) (fun j hj => by rw [parts_at (by omega)];exact hL j (by omega))]
 | n + 1,i,L,h,hl,hL => by
  have ha:=area g.hW g.hH
  have hA:=g.hA
  have hi : i < A.length:=by omega
  have skip : rd A (i : Int) = 0 ∨ low W H A i < i → ∀ q,q = true → Ev (fun k => road_Parts.j2 k L (i : Int) A (A.length : Int) (i : Int) q W H A Y) (parts W H A,0):=by
   intro hs q hq
   refine Ev.step (fun k => by simp only [road_Parts.j2];rfl) (Ev.pos hq ?_)
   rw [wrap_in (x:=(i : Int) + 1) (by omega) (by omega)]
   exact road_l1 g n (i + 1) L (by omega) hl (fun j hj => by rw [lab_skip g hs];exact hL j hj)
  refine Ev.step (fun k => by simp only [road_Parts.l1];rfl) (Ev.pos (by omega) (Ev.pos (by omega) (Ev.pos (by omega) ?_)))
  by_cases a0 : rd A (i : Int) = 0
  ·exact Ev.pos a0 (skip (.inl a0) _ rfl)
  refine Ev.neg a0 (Ev.pos (by omega) ?_)
  rw [rdN,hL i hi]
  have hle:=low_le W H A i
  by_cases hlow : low W H A i < i
  ·exact skip (.inr hlow) _ (decide_eq_true (by unfold lab;rw [if_pos ⟨a0,hlow⟩];omega))
  have hlow : low W H A i = i:=by omega
  rw [lab_low g hlow .refl]
  refine Ev.step (fun k => by simp only [road_Parts.j2];rfl) (Ev.neg (by decide) (Ev.pos (by omega) (Ev.pos (by omega) ?_)))
  rw [Int.toNat_natCast]
  have c1:=List.countP_le_length (p:=fun x => x != (i : Int)) (l:=L.set i (i : Int))
  rw [List.length_set] at c1
  have at_i : (L.set i (i : Int)).getD i 0 = (i : Int):=by rw [set_at,if_pos ⟨rfl,by omega⟩]
  refine flood2 g hi (road_floods g hi hlow hL (fun L' h1 h2 h3 => ?_)) (2 * A.length + 1) (L.set i (i : Int)) [(i : Int)] (by simp;omega) (by omega) ⟨by rw [List.length_set];exact hl,fun j hj => ?_,fun y hy => ⟨i,List.mem_singleton.1 hy,.refl,at_i⟩,fun j hj hlj => ?_,at_i⟩
  ·refine road_l1 g n (i + 1) L' (by omega) h1 (fun j hj => ?_)
   by_cases hr : Reach W H A i j
   ·rw [h3 j hr,lab_next g a0 hlow hr]
   ·rcases h2 j hj with h | h
    ·rw [h,hL j hj,lab_else g hr]
    ·exact absurd h.2 hr
  ·rw [set_at]
   by_cases e : i = j
   ·subst e
    rw [if_pos ⟨rfl,by omega⟩];exact .inr ⟨rfl,.refl⟩
   ·rw [if_neg (fun h => e h.1)];exact .inl rfl
  ·by_cases e : i = j
   ·subst e;exact .inl (List.mem_singleton.2 rfl)
   ·have hjl:=hj.lt g hi
    rw [set_at,if_neg (fun h => e h.1),hL j hjl,lab_low g hlow hj] at hlj
    omega
theorem road_l0 (g : Good W H A Y) : ∀ (n i : Nat) (L : List Int), i + n = A.length → L.length = A.length → (∀ j, j < i → L.getD j 0 = -1) → Ev (fun k => road_Parts.l0 k L (A.length : Int) (i : Int) W H A Y) (parts W H A, 0)
 | 0,i,L,h,hl,hL => by
  obtain rfl : i = A.length:=by omega
  refine Ev.step (fun k => by simp only [road_Parts.l0];rfl) (Ev.neg (by omega) ?_)
  refine road_l1 g A.length 0 L (by omega) hl (fun j hj => ?_)
  unfold lab
  rw [hL j hj,if_neg (by omega)]
 | n + 1,i,L,h,hl,hL => by
  have ha:=area g.hW g.hH
  have hA:=g.hA
  refine Ev.step (fun k => by simp only [road_Parts.l0];rfl) (Ev.pos (by omega) (Ev.pos (by omega) (Ev.pos (by omega) ?_)))
  rw [wrap_in (x:=(i : Int) + 1) (by omega) (by omega),Int.toNat_natCast]
  refine road_l0 g n (i + 1) (L.set i (-1)) (by omega) (by rw [List.length_set];exact hl) (fun j hj => ?_)
  rw [set_at]
  by_cases e : i = j
  ·subst e;rw [if_pos ⟨rfl,by omega⟩]
  ·rw [if_neg (fun h => e h.1)];exact hL j (by omega)
theorem Parts_ev (hA : A.length ≤ 4000) (hY : Y.length ≤ 4000) : Ev (fun k => road_Parts.f k W H A Y) (if vcode W H A Y = 0 then (parts W H A, 0) else ([], vcode W H A Y)) := by
 unfold road_Parts.f
 refine Ev.bind (validate_ev hA hY) ?_
 by_cases h : vcode W H A Y = 0
 ·refine Ev.eq (Ev.pos h (Ev.pos (by omega) (Ev.pos (by omega) (Ev.bindc rfl ?_)))) (if_pos h).symm
  rw [Int.toNat_natCast,List.length_replicate]
  exact road_l0 (good_of h) A.length 0 _ (by omega) (by simp) (fun j hj => by omega)
 ·exact Ev.eq (Ev.neg h (Ev.now _)) (if_neg h).symm
end
section
variable {W H t : Int} {A Y : List Int}
structure Trip (W H : Int) (A Y : List Int) (t : Int) (r : List Int) : Prop where
 first : r.getD 0 0 = t
 some : 0 < r.length
 next : ∀ i,i + 1 < r.length → ∃ s : Int,(0 ≤ s ∧ s ≤ 3) ∧ may W H A Y (r.getD i 0) s = true ∧ r.getD (i + 1) 0 = bey W H (r.getD i 0) s
theorem at_app (o : List Int) (u : Int) (i : Nat) : (o ++ [u]).getD i 0 = if i < o.length then o.getD i 0 else if i = o.length then u else 0 := by
 rw [List.getD_eq_getElem?_getD,List.getElem?_append]
 by_cases h : i < o.length
 ·rw [if_pos h,if_pos h,List.getD_eq_getElem?_getD]
 ·rw [if_neg h,if_neg h]
  by_cases e : i = o.length
  ·rw [if_pos e,e,Nat.sub_self];rfl
  ·rw [if_neg e,List.getElem?_eq_none (by simp;omega)];rfl
theorem Trip.add {r : List Int} {s : Int} (h : Trip W H A Y t r) (hs : 0 ≤ s ∧ s ≤ 3) (hm : may W H A Y (r.getD (r.length - 1) 0) s = true) : Trip W H A Y t (r ++ [bey W H (r.getD (r.length - 1) 0) s]) := by
 have h0:=h.some
 refine ⟨?_,by simp,fun i hi => ?_⟩
 ·rw [at_app,if_pos h0];exact h.first
 ·rw [List.length_append,List.length_singleton] at hi
  rw [at_app,at_app,if_pos (show i < r.length by omega)]
  by_cases e : i + 1 < r.length
  ·rw [if_pos e];exact h.next i e
  ·rw [if_neg e,if_pos (by omega)]
   obtain rfl : i = r.length - 1:=by omega
   exact ⟨s,hs,hm,rfl⟩
theorem Trip.range (g : Good W H A Y) (ht : 0 ≤ t ∧ t < W * H) {r : List Int} (h : Trip W H A Y t r) : ∀ i, i < r.length → 0 ≤ r.getD i 0 ∧ r.getD i 0 < W * H
 | 0,_ => by rw [h.first];exact ht
 | i + 1,hi => by
  have ih:=Trip.range g ht h i (by omega)
  obtain ⟨s,hs,hm,e⟩:=h.next i hi
  have:=may_meets hm
  have:=meets_at g ih s
  omega
theorem Trip.link (g : Good W H A Y) (ht : 0 ≤ t ∧ t < W * H) {r : List Int} (h : Trip W H A Y t r) (i : Nat) (hi : i + 1 < r.length) : Link W H A (r.getD i 0).toNat (r.getD (i + 1) 0).toNat := by
 have h0:=h.range g ht i (by omega)
 have h1:=h.range g ht (i + 1) hi
 obtain ⟨s,hs,hm,e⟩:=h.next i hi
 have hge:=may_meets hm
 have hma:=meets_at g h0 s
 have hA:=g.hA
 refine ⟨by omega,s,hs,?_⟩
 rw [Int.toNat_of_nonneg h0.1,Int.toNat_of_nonneg h1.1]
 omega
theorem Trip.reach (g : Good W H A Y) (ht : 0 ≤ t ∧ t < W * H) {r : List Int} (h : Trip W H A Y t r) : ∀ i, i < r.length → Reach W H A t.toNat (r.getD i 0).toNat
 | 0,_ => by rw [h.first];exact .refl
 | i + 1,hi => (Trip.reach g ht h i (by omega)).step (h.link g ht i hi)
theorem trip_l0 (g : Good W H A Y) (t0 : Int) (l : List Int) (hl : l.length ≤ 4000) : ∀ (n i : Nat) (t f : Int) (o : List Int), i + n = l.length → o.length = i + 1 → o.getD i 0 = t → Trip W H A Y t0 o → (0 ≤ t ∧ t < W * H) → f ≤ 3 → ∃ r : List Int, r.length ≤ l.length + 1 ∧ Trip W H A Y t0 r ∧ Ev (fun k => road_Go.l0 k t f o l (l.length : Int) (i : Int) W H A Y) (r, 0)
 | 0,i,t,f,o,h,ho,he,T,ht,hf => by
  refine ⟨o,by omega,T,Ev.step (fun k => by simp only [road_Go.l0];rfl) (Ev.neg (by omega) (Ev.now _))⟩
 | n + 1,i,t,f,o,h,ho,he,T,ht,hf => by
  by_cases c : (outs W H A Y t f).length = 0
  ·refine ⟨o,by omega,T,Ev.step (fun k => by simp only [road_Go.l0];rfl) ?_⟩
   exact Ev.pos (by omega) (Ev.pos (by omega) (Ev.pos (by omega) (Ev.bindc (next_eq g ht hf) (Ev.pos (by omega) (Ev.now _)))))
  obtain ⟨p0,p1,pm⟩:=pick (l:=outs W H A Y t f) (m:=mx (rd l (i : Int)) 0) c
  obtain ⟨hs,hmay⟩:=outs_mem hf pm
  have hm:=may_meets hmay
  have hma:=meets_at g ht (rd (outs W H A Y t f) (mx (rd l (i : Int)) 0 % ((outs W H A Y t f).length : Int)))
  have hop:=(opp_at hs).1
  have hlast : o.getD (o.length - 1) 0 = t:=by rw [ho];exact he
  have T':=T.add (s:=rd (outs W H A Y t f) (mx (rd l (i : Int)) 0 % ((outs W H A Y t f).length : Int))) hs (by rw [hlast];exact hmay)
  rw [hlast] at T'
  obtain ⟨r,hr,hT,h1⟩:=trip_l0 g t0 l hl n (i + 1) (bey W H t (rd (outs W H A Y t f) (mx (rd l (i : Int)) 0 % ((outs W H A Y t f).length : Int)))) (opp (rd (outs W H A Y t f) (mx (rd l (i : Int)) 0 % ((outs W H A Y t f).length : Int)))) (o ++ [bey W H t (rd (outs W H A Y t f) (mx (rd l (i : Int)) 0 % ((outs W H A Y t f).length : Int)))]) (by omega) (by simp [ho]) (by rw [at_app,if_neg (by omega),if_pos (by omega)]) T' (by omega) (by omega)
  rw [show ((i + 1 : Nat) : Int) = (i : Int) + 1 from by omega] at h1
  refine ⟨r,hr,hT,Ev.step (fun k => by simp only [road_Go.l0];rfl) ?_⟩
  refine Ev.pos (by omega) (Ev.pos (by omega) (Ev.pos (by omega) (Ev.bindc (next_eq g ht hf) (Ev.neg (by omega) (Ev.pos p0 (Ev.pos p1 (Ev.bindc (beyond_eq A Y (g.on ht)) (Ev.pos (by omega) ?_))))))))
  rw [wrap_in (x:=(i : Int) + 1) (by omega) (by omega)]
  exact h1
theorem parts_same (g : Good W H A Y) (ht : 0 ≤ t ∧ t < W * H) {r : List Int} (h : Trip W H A Y t r) (i : Nat) (hi : i + 1 < r.length) : rd (parts W H A) (r.getD (i + 1) 0) = rd (parts W H A) t := by
 have hA:=g.hA
 have h1:=h.range g ht (i + 1) hi
 have l0:=h.link g ht 0 (by omega)
 have l1:=h.link g ht i hi
 have hr:=h.reach g ht (i + 1) hi
 rw [h.first] at l0
 unfold rd
 rw [parts_at (by omega),parts_at (by omega)]
 unfold lab
 have a0:=l0.arm
 have a1:=(l1.back g).arm
 have w0:=low_le W H A t.toNat
 have w1:=low_le W H A (r.getD (i + 1) 0).toNat
 rw [if_pos ⟨a1,by omega⟩,if_pos ⟨a0,by omega⟩,low_eq g hr]
theorem lets_is {w s : Int} (hw : 0 ≤ w ∧ w ≤ 2) (h : lets w s = true) : w = 0 ∨ ((w == 1) == decide (s < 2)) = true := by
 unfold lets at h
 rcases of_decide_eq_true h with h | ⟨h1,h2⟩ | ⟨h1,h2⟩
 ·exact .inl h
 ·right;rw [h1,decide_eq_true h2];rfl
 ·right;rw [h1,decide_eq_false (by omega)];rfl
end

end Go.Proofs.Ytbdekjjdojbokaa.Pure
