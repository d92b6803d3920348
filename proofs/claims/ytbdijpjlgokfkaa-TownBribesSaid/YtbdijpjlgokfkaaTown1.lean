/- What the functions of layer 11 (towns) come to, in plain words: deeds and moods. No conditions. -/
import Derived.Test.YtbdijpjlgokfkaaPx0
import Derived.Test.YtbdijpjlgokfkaaPx11
import Derived.Test.YtbdijpjlgokfkaaPx14
import Derived.Test.YtbdijpjlgokfkaaTown0
namespace Go.Proofs.Ytbdijpjlgokfkaa.Pure
set_option linter.unusedVariables false
set_option linter.unusedSimpArgs false
open Go.RowKit Go.Proofs.YtbdijpjlgokfkaaW.PrintWords Go.Proofs.Ytbdijpjlgokfkaa.P Go.Proofs.Ytbdijpjlgokfkaa

open Classical in
noncomputable def dcode (tile : Int) (H : List S68) (M : List Int) (mv du c d : Int) : Int :=
 if tcode tile H M mv du = 0 then (if (0 ≤ c ∧ c ≤ 11) ∧ 0 ≤ d ∧ d ≤ 7 then 0 else 1) else tcode tile H M mv du
theorem dcode_zero {tile : Int} {H : List S68} {M : List Int} {mv du c d : Int} : dcode tile H M mv du c d = 0 ↔ tcode tile H M mv du = 0 ∧ (0 ≤ c ∧ c ≤ 11) ∧ 0 ≤ d ∧ d ≤ 7 := by
 unfold dcode
 by_cases h : tcode tile H M mv du = 0
 ·rw [if_pos h]
  by_cases h1 : (0 ≤ c ∧ c ≤ 11) ∧ 0 ≤ d ∧ d ≤ 7
  ·rw [if_pos h1];exact ⟨fun _ => ⟨h,h1⟩,fun _ => rfl⟩
  ·rw [if_neg h1];exact ⟨fun h => absurd h (by decide),fun h => absurd h.2 h1⟩
 ·rw [if_neg h];exact ⟨fun h' => absurd h' h,fun h' => absurd h'.1 h⟩
theorem check_ev (tile : Int) (H : List S68) (M : List Int) (mv du c d : Int) (hl : M.length ≤ 300) : Ev (fun k => town_check.f k tile H M mv du c d) (dcode tile H M mv du c d) := by
 unfold town_check.f
 refine Ev.bind (sound_ev tile H M mv du (by omega)) ?_
 by_cases h : tcode tile H M mv du = 0
 ·rw [show dcode tile H M mv du c d = _ from if_pos h]
  refine Ev.pos h (Ev.bindc (within_eq _ _) ?_)
  by_cases h1 : 0 ≤ c ∧ c ≤ 11
  ·refine Ev.pos (decide_eq_true h1) (Ev.bindc (show town_deeds.f = some _ from rfl) (Ev.bindc (within_eq _ _) ?_))
   by_cases h2 : 0 ≤ d ∧ d ≤ 7
   ·exact Ev.eq (Ev.pos (decide_eq_true h2) (Ev.now _)) (if_pos ⟨h1,h2⟩).symm
   ·exact Ev.eq (Ev.neg (fun h => h2 (of_decide_eq_true h)) (Ev.now _)) (if_neg (fun h => h2 h.2)).symm
  ·exact Ev.eq (Ev.neg (fun h => h1 (of_decide_eq_true h)) (Ev.now _)) (if_neg (fun h => h1 h.1)).symm
 ·rw [show dcode tile H M mv du c d = _ from if_neg h];exact Ev.neg h (Ev.now _)
theorem deedError_ev (tile : Int) (H : List S68) (M : List Int) (mv du c d : Int) : Ev (fun k => hinterlandref11_deedError.f k tile H M mv du c d) (dcode tile H M mv du c d) := by
 unfold hinterlandref11_deedError.f
 refine Ev.bind (fields_ev tile H M mv du) ?_
 by_cases h : tcode tile H M mv du = 0
 ·rw [show dcode tile H M mv du c d = _ from if_pos h]
  refine Ev.pos h ?_
  by_cases h1 : c < 0
  ·exact Ev.eq (Ev.pos h1 (Ev.now _)) (if_neg (by omega)).symm
  refine Ev.neg h1 ?_
  by_cases h2 : c ≥ 12
  ·exact Ev.eq (Ev.pos h2 (Ev.now _)) (if_neg (by omega)).symm
  refine Ev.neg h2 ?_
  by_cases h3 : d < 0
  ·exact Ev.eq (Ev.pos h3 (Ev.now _)) (if_neg (by omega)).symm
  refine Ev.neg h3 ?_
  by_cases h4 : d > 7
  ·exact Ev.eq (Ev.pos h4 (Ev.now _)) (if_neg (by omega)).symm
  exact Ev.eq (Ev.neg h4 (Ev.now _)) (if_pos ⟨⟨by omega,by omega⟩,by omega,by omega⟩).symm
 ·rw [show dcode tile H M mv du c d = _ from if_neg h];exact Ev.neg h (Ev.now _)

def adds (d : Int) : Int := ix77 (⟨(-150), (-20), 10, (-50), (-20), 15, (-400), 150⟩ : S77) d
theorem change_ev {d : Int} (h0 : 0 ≤ d) (h7 : d ≤ 7) : Ev (fun k => hinterlandref11_change.f k d) (adds d) := by
 refine Ev.of (fun k => hinterlandref11_change.mono d k) (k:=1) ?_
 rcases (by omega : d = 0 ∨ d = 1 ∨ d = 2 ∨ d = 3 ∨ d = 4 ∨ d = 5 ∨ d = 6 ∨ d = 7) with h | h | h | h | h | h | h | h <;> subst h <;> rfl
theorem adds_in (d : Int) : -400 ≤ adds d ∧ adds d ≤ 150 := by
 unfold adds ix77
 dsimp only
 repeat' split
 all_goals omega
def felt (M : List Int) (c d : Int) : List Int := M.set c.toNat (mx (-1000) (mn (M.getD c.toNat 0 + adds d) 1000))
theorem felt_length (M : List Int) (c d : Int) : (felt M c d).length = M.length := by unfold felt; simp
theorem mn_comm (a b : Int) : mn a b = mn b a := by unfold mn; split <;> split <;> omega
theorem mxmn_in (x : Int) : -1000 ≤ mx (-1000) (mn x 1000) ∧ mx (-1000) (mn x 1000) ≤ 1000 := by
 unfold mx mn
 constructor
 all_goals (repeat' split)
 all_goals omega
theorem mood_in {M : List Int} (h : Moods M) (j : Nat) : -1000 ≤ M.getD j 0 ∧ M.getD j 0 ≤ 1000 := by
 by_cases hj : j < M.length
 ·exact h.1 j (by omega) hj
 ·rw [List.getD_eq_getElem?_getD,List.getElem?_eq_none (by omega)];decide
theorem felt_moods {M : List Int} (h : Moods M) (c d : Int) : Moods (felt M c d) := by
 refine ⟨fun j _ _ => ?_,by rw [felt_length];exact h.2⟩
 have h1:=mood_in h j
 have h2:=mxmn_in (M.getD c.toNat 0 + adds d)
 unfold MoodAt felt
 rw [List.getD_eq_getElem?_getD,List.getElem?_set]
 by_cases hc : c.toNat = j
 ·rw [if_pos hc]
  by_cases hl : c.toNat < M.length
  ·rw [if_pos hl];exact h2
  ·rw [if_neg hl];decide
 ·rw [if_neg hc,← List.getD_eq_getElem?_getD];exact h1
theorem feel_ok {tile : Int} {H : List S68} {M : List Int} {mv du c d : Int} (h : dcode tile H M mv du c d = 0) : Ev (fun k => town_Feel.f k tile H M mv du c d) (tile, H, felt M c d, mv, du, 0) := by
 have hd:=dcode_zero.1 h
 have hv:=tcode_zero.1 hd.1
 have hm : Moods M:=hv.2.1.2.1
 have h12 : M.length = 12:=hm.2
 unfold town_Feel.f
 refine Ev.bind (check_ev tile H M mv du c d (by omega)) (Ev.pos h (Ev.bindc (copied_eq (by omega) h12) ?_))
 refine Ev.pos (by omega) (Ev.pos (by dsimp only;omega) (Ev.bindc (show town_deeds.f = some _ from rfl) (Ev.pos (by omega) (Ev.pos (by omega) (Ev.const ?_)))))
 have h1:=mood_in hm c.toNat
 have h2:=adds_in d
 dsimp only
 rw [show rd M c = M.getD c.toNat 0 from rfl,show ix77 (⟨(-150),(-20),10,(-50),(-20),15,(-400),150⟩ : S77) d = adds d from rfl,wrap_in (by omega) (by omega)]
 rfl
theorem feel_bad {tile : Int} {H : List S68} {M : List Int} {mv du c d : Int} (hl : M.length ≤ 300) (h : dcode tile H M mv du c d ≠ 0) : Ev (fun k => town_Feel.f k tile H M mv du c d) (0, [], [], 0, 0, dcode tile H M mv du c d) := by
 unfold town_Feel.f
 exact Ev.bind (check_ev tile H M mv du c d hl) (Ev.neg h (Ev.now _))
theorem ref_feel_ok {tile : Int} {H : List S68} {M : List Int} {mv du c d : Int} (h : dcode tile H M mv du c d = 0) : Ev (fun k => hinterlandref11_Feel.f k tile H M mv du c d) (tile, H, felt M c d, mv, du, 0) := by
 have hd:=dcode_zero.1 h
 have hv:=tcode_zero.1 hd.1
 have hm : Moods M:=hv.2.1.2.1
 have h12 : M.length = 12:=hm.2
 unfold hinterlandref11_Feel.f
 refine Ev.bind (deedError_ev tile H M mv du c d) (Ev.pos h (Ev.bindc (Copy_eq (by omega) h12) ?_))
 refine Ev.pos (by omega) (Ev.pos (by dsimp only;omega) (Ev.bind (change_ev (by omega) (by omega)) (Ev.const ?_)))
 have h1:=mood_in hm c.toNat
 have h2:=adds_in d
 dsimp only
 rw [show rd M c = M.getD c.toNat 0 from rfl,wrap_in (by omega) (by omega),mn_comm]
 rfl
theorem ref_feel_bad {tile : Int} {H : List S68} {M : List Int} {mv du c d : Int} (h : dcode tile H M mv du c d ≠ 0) : Ev (fun k => hinterlandref11_Feel.f k tile H M mv du c d) (0, [], [], 0, 0, dcode tile H M mv du c d) := by
 unfold hinterlandref11_Feel.f
 exact Ev.bind (deedError_ev tile H M mv du c d) (Ev.neg h (Ev.now _))

end Go.Proofs.Ytbdijpjlgokfkaa.Pure
