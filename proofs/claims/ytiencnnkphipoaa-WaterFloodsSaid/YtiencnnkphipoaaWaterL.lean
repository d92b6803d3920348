/- What the functions of layer 6 (waters) come to, in plain words: lists. No conditions. -/
import Derived.Test.YtiencnnkphipoaaPx0
import Derived.Test.YtiencnnkphipoaaWater5
namespace Go.Proofs.Ytiencnnkphipoaa.Pure
set_option linter.unusedVariables false
set_option linter.unusedSimpArgs false
open Go.RowKit Go.Proofs.YtiencnnkphipoaaW.PrintWords Go.Proofs.YtiencnnkphipoaaW.PrintMore Go.Proofs.Ytiencnnkphipoaa.P Go.Proofs.Ytiencnnkphipoaa

theorem set_at (l : List Int) (i j : Nat) (v : Int) : (l.set i v).getD j 0 = if i = j ∧ j < l.length then v else l.getD j 0 := by
 by_cases hj : j < l.length
 ·by_cases hij : i = j
  ·subst hij;simp [hj]
  ·rw [if_neg (fun h => hij h.1)]
   simp [List.getElem?_set,hij]
 ·rw [if_neg (fun h => hj h.2)]
  simp [List.getElem?_set,hj]
  try (intro h1 h2;omega)
theorem at_mem {l : List Int} {j : Nat} (h : j < l.length) : l.getD j 0 ∈ l := by
 rw [List.getD_eq_getElem?_getD,List.getElem?_eq_getElem h]
 exact List.getElem_mem h
theorem mem_at {l : List Int} {x : Int} (h : x ∈ l) : ∃ j, j < l.length ∧ l.getD j 0 = x := by
 obtain ⟨j,hj,e⟩:=List.mem_iff_getElem.1 h
 exact ⟨j,hj,by rw [List.getD_eq_getElem?_getD,List.getElem?_eq_getElem hj];exact e⟩
theorem drop_at {B : List Int} {i : Nat} (h : i < B.length) : B.drop i = B.getD i 0 :: B.drop (i + 1) := by
 rw [List.drop_eq_getElem_cons h,List.getD_eq_getElem?_getD,List.getElem?_eq_getElem h]
 rfl
abbrev has (B : List Int) (n : Int) : Prop := n ∈ B
theorem put_has (k v : Int) (j : Int) : ∀ m : List (Int × Int), mpHas j (mpPut k v m) = if j = k then true else mpHas j m
 | [] => by
  by_cases h : j = k
  ·simp [mpPut,mpHas,h]
  ·simp [mpPut,mpHas,h]
 | p :: r => by
  have ih:=put_has k v j r
  by_cases hk : k = p.1
  ·by_cases h : j = k
   ·simp [mpPut,mpHas,hk,h]
   ·have : ¬ j = p.1:=fun e => h (e.trans hk.symm)
    simp [mpPut,mpHas,← hk,h]
  ·by_cases h : j = p.1
   ·have h2 : ¬ j = k:=fun e => hk (e.symm.trans h)
    have h3 : ¬ k = j:=fun e => h2 e.symm
    simp [mpPut,mpHas,← h,h3]
   ·simp only [mpPut,mpHas,hk,h,if_false]
    exact ih
theorem put_val (k v : Int) (j : Int) : ∀ m : List (Int × Int), mpV j (mpPut k v m) = if j = k then v else mpV j m
 | [] => by
  by_cases h : j = k
  ·simp [mpPut,mpV,h]
  ·simp [mpPut,mpV,h]
 | p :: r => by
  have ih:=put_val k v j r
  by_cases hk : k = p.1
  ·by_cases h : j = k
   ·simp [mpPut,mpV,hk,h]
   ·simp [mpPut,mpV,← hk,h]
  ·by_cases h : j = p.1
   ·have h2 : ¬ j = k:=fun e => hk (e.symm.trans h)
    have h3 : ¬ k = j:=fun e => h2 e.symm
    simp [mpPut,mpV,← h,h2,h3]
   ·simp only [mpPut,mpV,hk,h,if_false]
    exact ih
def unl (L : List Int) : Nat := L.countP (fun x => decide (x < 0))
theorem unl_set (L : List Int) (u : Nat) (v : Int) (hu : u < L.length) (h1 : L.getD u 0 < 0) (h2 : 0 ≤ v) : unl (L.set u v) + 1 = unl L := by
 unfold unl
 induction L generalizing u with
 | nil => simp at hu
 | cons a r ih =>
  cases u with
  | zero =>
   simp only [List.getD_cons_zero] at h1
   simp only [List.set_cons_zero]
   rw [List.countP_cons,List.countP_cons,if_neg (by simp only [decide_eq_true_eq];omega),if_pos (by simpa using h1)]
  | succ u =>
   have:=ih u (by simpa using hu) (by simpa using h1)
   simp only [List.set_cons_succ]
   rw [List.countP_cons,List.countP_cons]
   omega
theorem unl_le (L : List Int) : unl L ≤ L.length := List.countP_le_length

theorem rep_at (n j : Nat) (v : Int) (h : j < n) : (List.replicate n v).getD j 0 = v := by simp [h]
theorem unl_rep (n : Nat) : unl (List.replicate n (-1)) = n := by
 unfold unl
 rw [List.countP_replicate]
 simp
theorem list_ext {L R : List Int} (hl : L.length = R.length) (h : ∀ j, j < L.length → L.getD j 0 = R.getD j 0) : L = R := by
 apply List.ext_getElem hl
 intro j h1 h2
 have:=h j h1
 rw [List.getD_eq_getElem?_getD,List.getD_eq_getElem?_getD,List.getElem?_eq_getElem h1,List.getElem?_eq_getElem h2] at this
 simpa using this
end Go.Proofs.Ytiencnnkphipoaa.Pure
