/- What the functions of layer 6 (waters) come to, in plain words: lists and distances. No conditions. -/
import Derived.Test.YtiencnnkphipoaaPx0
import Derived.Test.YtiencnnkphipoaaWater5
namespace Go.Proofs.Ytiencnnkphipoaa.Pure
set_option linter.unusedVariables false
set_option linter.unusedSimpArgs false
open Go.RowKit Go.Proofs.YtiencnnkphipoaaW.PrintWords Go.Proofs.YtiencnnkphipoaaW.PrintMore Go.Proofs.Ytiencnnkphipoaa.P Go.Proofs.Ytiencnnkphipoaa

theorem set_at (l : List Int) (i j : Nat) (v : Int) : (l.set i v).getD j 0 = if i = j ∧ j < l.length then v else l.getD j 0 := by
 by_cases hj : j < l.length
 ·by_cases hij : i = j
  ·subst hij;simp [hj]
  ·rw [if_neg (fun h => hij h.1)]
   simp [List.getElem?_set,hij]
 ·rw [if_neg (fun h => hj h.2)]
  simp [List.getElem?_set,hj]
  try (intro h1 h2;omega)
theorem at_mem {l : List Int} {j : Nat} (h : j < l.length) : l.getD j 0 ∈ l := by
 rw [List.getD_eq_getElem?_getD,List.getElem?_eq_getElem h]
 exact List.getElem_mem h
theorem mem_at {l : List Int} {x : Int} (h : x ∈ l) : ∃ j, j < l.length ∧ l.getD j 0 = x := by
 obtain ⟨j,hj,e⟩:=List.mem_iff_getElem.1 h
 exact ⟨j,hj,by rw [List.getD_eq_getElem?_getD,List.getElem?_eq_getElem hj];exact e⟩
theorem drop_at {B : List Int} {i : Nat} (h : i < B.length) : B.drop i = B.getD i 0 :: B.drop (i + 1) := by
 rw [List.drop_eq_getElem_cons h,List.getD_eq_getElem?_getD,List.getElem?_eq_getElem h]
 rfl
abbrev has (B : List Int) (n : Int) : Prop := n ∈ B
theorem put_has (k v : Int) (j : Int) : ∀ m : List (Int × Int), mpHas j (mpPut k v m) = if j = k then true else mpHas j m
 | [] => by
  by_cases h : j = k
  ·simp [mpPut,mpHas,h]
  ·simp [mpPut,mpHas,h]
 | p :: r => by
  have ih:=put_has k v j r
  by_cases hk : k = p.1
  ·by_cases h : j = k
   ·simp [mpPut,mpHas,hk,h]
   ·have : ¬ j = p.1:=fun e => h (e.trans hk.symm)
    simp [mpPut,mpHas,← hk,h]
  ·by_cases h : j = p.1
   ·have h2 : ¬ j = k:=fun e => hk (e.symm.trans h)
    have h3 : ¬ k = j:=fun e => h2 e.symm
    simp [mpPut,mpHas,← h,h3]
   ·simp only [mpPut,mpHas,hk,h,if_false]
    exact ih
theorem put_val (k v : Int) (j : Int) : ∀ m : List (Int × Int), mpV j (mpPut k v m) = if j = k then v else mpV j m
 | [] => by
  by_cases h : j = k
  ·simp [mpPut,mpV,h]
  ·simp [mpPut,mpV,h]
 | p :: r => by
  have ih:=put_val k v j r
  by_cases hk : k = p.1
  ·by_cases h : j = k
   ·simp [mpPut,mpV,hk,h]
   ·simp [mpPut,mpV,← hk,h]
  ·by_cases h : j = p.1
   ·have h2 : ¬ j = k:=fun e => hk (e.symm.trans h)
    have h3 : ¬ k = j:=fun e => h2 e.symm
    simp [mpPut,mpV,← h,h2,h3]
   ·simp only [mpPut,mpV,hk,h,if_false]
    exact ih
def unl (L : List Int) : Nat := L.countP (fun x => decide (x < 0))
theorem unl_set (L : List Int) (u : Nat) (v : Int) (hu : u < L.length) (h1 : L.getD u 0 < 0) (h2 : 0 ≤ v) : unl (L.set u v) + 1 = unl L := by
 unfold unl
 induction L generalizing u with
 | nil => simp at hu
 | cons a r ih =>
  cases u with
  | zero =>
   simp only [List.getD_cons_zero] at h1
   simp only [List.set_cons_zero]
   rw [List.countP_cons,List.countP_cons,if_neg (by simp only [decide_eq_true_eq];omega),if_pos (by simpa using h1)]
  | succ u =>
   have:=ih u (by simpa using hu) (by simpa using h1)
   simp only [List.set_cons_succ]
   rw [List.countP_cons,List.countP_cons]
   omega
theorem unl_le (L : List Int) : unl L ≤ L.length := List.countP_le_length

theorem rep_at (n j : Nat) (v : Int) (h : j < n) : (List.replicate n v).getD j 0 = v := by simp [h]
theorem unl_rep (n : Nat) : unl (List.replicate n (-1)) = n := by
 unfold unl
 rw [List.countP_replicate]
 simp
theorem list_ext {L R : List Int} (hl : L.length = R.length) (h : ∀ j, j < L.length → L.getD j 0 = R.getD j 0) : L = R := by
 apply List.ext_getElem hl
 intro j h1 h2
 have:=h j h1
 rw [List.getD_eq_getElem?_getD,List.getD_eq_getElem?_getD,List.getElem?_eq_getElem h1,List.getElem?_eq_getElem h2] at this
 simpa using this
section
variable (w h : Nat) (C K : List Int)
structure Lab (to_ : Nat) (L line : List Int) : Prop where
 len : L.length = w * h
 goal : to_ < w * h ∧ L.getD to_ 0 = 0
 low : ∀ t,t < w * h → -1 ≤ L.getD t 0
 cap : ∀ t,t < w * h → L.getD t 0 < (line.length : Int)
 from_ : ∀ t,t < w * h → 0 ≤ L.getD t 0 → t = to_ ∨ (1 ≤ L.getD t 0 ∧ ∃ s : Int,(0 ≤ s ∧ s ≤ 3) ∧ join w h C K t s = true ∧ L.getD (bey w h t s).toNat 0 = L.getD t 0 - 1)
 all : line.length + unl L = w * h
 line_in : ∀ x,x ∈ line → ∃ t : Nat,x = (t : Int) ∧ t < w * h ∧ 0 ≤ L.getD t 0
def Tells (L : List Int) (m : List (Int × Int)) : Prop := ∀ t : Nat, t < w * h → (mpHas (t : Int) m = decide (0 ≤ L.getD t 0)) ∧ (0 ≤ L.getD t 0 → mpV (t : Int) m = L.getD t 0)
end
section
variable {w h : Nat} {C K B : List Int} {to_ : Nat}
theorem Lab.step {L line : List Int} (hL : Lab w h C K to_ L line) {p : Nat} (hp : p < w * h) (hpl : 0 ≤ L.getD p 0) {s : Int} (hs : 0 ≤ s ∧ s ≤ 3) (hj : join w h C K p s = true) {b : Nat} (hb : bey w h p s = (b : Int)) (hbl : b < w * h) (hn : L.getD b 0 < 0) :
  Lab w h C K to_ (L.set b (L.getD p 0 + 1)) (line ++ [(b : Int)]):=by
 have hlen:=hL.len
 have hbto : b ≠ to_:=fun e => by rw [e,hL.goal.2] at hn;omega
 have hpb : p ≠ b:=fun e => by rw [e] at hpl;omega
 have hcap:=hL.cap p hp
 have hu:=unl_set L b (L.getD p 0 + 1) (by omega) hn (by omega)
 have hall:=hL.all
 refine ⟨by simpa using hlen,⟨hL.goal.1,?_⟩,?_,?_,?_,?_,?_⟩
 ·rw [set_at,if_neg (fun e => hbto e.1)];exact hL.goal.2
 ·intro t ht
  rw [set_at]
  split
  ·omega
  ·exact hL.low t ht
 ·intro t ht
  rw [set_at,List.length_append,List.length_singleton]
  split
  ·omega
  ·have:=hL.cap t ht;omega
 ·intro t ht h0
  rw [set_at] at h0 ⊢
  by_cases e : b = t ∧ t < L.length
  ·rw [if_pos e] at h0 ⊢
   refine .inr ⟨by omega,Int.tmod (s + 2) 4,(back2 hs).1,?_,?_⟩
   ·have:=(join_back hp hs hj).2
    rw [hb,Int.toNat_natCast] at this
    rw [← e.1];exact this
   ·have:=bey_back hp hs (by omega)
    rw [hb,Int.toNat_natCast] at this
    rw [← e.1,this,Int.toNat_natCast,set_at,if_neg (fun e2 => hpb e2.1.symm)]
    omega
  ·rw [if_neg e] at h0 ⊢
   rcases hL.from_ t ht h0 with q | ⟨q1,s',q2,q3,q4⟩
   ·exact .inl q
   ·refine .inr ⟨q1,s',q2,q3,?_⟩
    rw [set_at]
    split
    ·rename_i e2
     rw [← e2.1] at q4
     omega
    ·exact q4
 ·rw [List.length_append,List.length_singleton];omega
 ·intro x hx
  rcases List.mem_append.1 hx with q | q
  ·obtain ⟨t,rfl,ht,h0⟩:=hL.line_in x q
   refine ⟨t,rfl,ht,?_⟩
   rw [set_at]
   split
   ·omega
   ·exact h0
  ·rw [List.mem_singleton] at q
   exact ⟨b,q,hbl,by rw [set_at,if_pos ⟨rfl,by omega⟩];omega⟩
theorem Tells.step {L : List Int} {m : List (Int × Int)} (hT : Tells w h L m) (hlen : L.length = w * h) {b : Nat} (hbl : b < w * h) {v : Int} (hv : 0 ≤ v) : Tells w h (L.set b v) (mpPut (b : Int) v m) := by
 intro t ht
 have:=hT t ht
 rw [put_has,put_val,set_at]
 by_cases e : b = t
 ·have h1 : (t : Int) = (b : Int):=by omega
  have h2 : b = t ∧ t < L.length:=⟨e,by omega⟩
  simp only [if_pos h1,if_pos h2]
  exact ⟨(decide_eq_true hv).symm,fun _ => by first | trivial | rfl⟩
 ·have h1 : ¬ (t : Int) = (b : Int):=by omega
  have h2 : ¬ (b = t ∧ t < L.length):=fun q => e q.1
  simp only [if_neg h1,if_neg h2]
  exact this

end
section
variable {w h : Nat} {C K B : List Int}
theorem lab_start {to_ : Nat} (ht : to_ < w * h) : Lab w h C K to_ ((List.replicate (w * h) (-1)).set to_ 0) [(to_ : Int)] ∧ Tells w h ((List.replicate (w * h) (-1)).set to_ 0) (mpPut (to_ : Int) 0 []) := by
 have at_ : ∀ t,t < w * h → ((List.replicate (w * h) (-1 : Int)).set to_ 0).getD t 0 = if to_ = t then 0 else -1:=by
  intro t h1
  rw [set_at]
  by_cases e : to_ = t
  ·rw [if_pos ⟨e,by simpa using h1⟩,if_pos e]
  ·rw [if_neg (fun q => e q.1),if_neg e,rep_at _ _ _ h1]
 have hu:=unl_set (List.replicate (w * h) (-1)) to_ 0 (by simpa using ht) (by rw [rep_at _ _ _ ht];decide) (by decide)
 rw [unl_rep] at hu
 refine ⟨⟨by simp,⟨ht,by rw [at_ to_ ht,if_pos rfl]⟩,?_,?_,?_,by simp;omega,?_⟩,?_⟩
 ·intro t h1;rw [at_ t h1];split <;> decide
 ·intro t h1;rw [at_ t h1];split <;> simp
 ·intro t h1 h0
  rw [at_ t h1] at h0
  by_cases e : to_ = t
  ·exact .inl e.symm
  ·rw [if_neg e] at h0;exact absurd h0 (by decide)
 ·intro x hx
  rw [List.mem_singleton] at hx
  exact ⟨to_,hx,ht,by rw [at_ to_ ht,if_pos rfl];decide⟩
 ·refine Tells.step (L:=List.replicate (w * h) (-1)) (m:=[]) ?_ (by simp) ht (by decide)
  intro t h1
  rw [rep_at _ _ _ h1]
  exact ⟨rfl,fun q => absurd q (by decide)⟩
end
end Go.Proofs.Ytiencnnkphipoaa.Pure
