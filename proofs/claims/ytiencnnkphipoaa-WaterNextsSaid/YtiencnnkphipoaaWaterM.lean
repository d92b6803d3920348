/- What the functions of layer 6 (waters) come to, in plain words: which tiles are joined, in the document. No conditions. -/
import Derived.Test.YtiencnnkphipoaaPx0
import Derived.Test.YtiencnnkphipoaaPx8
import Derived.Test.YtiencnnkphipoaaPx9
import Derived.Test.YtiencnnkphipoaaPx26
import Derived.Test.YtiencnnkphipoaaPx27
import Derived.Test.YtiencnnkphipoaaWaterY
import Derived.Test.YtiencnnkphipoaaWaterV
namespace Go.Proofs.Ytiencnnkphipoaa.Pure
set_option linter.unusedVariables false
set_option linter.unusedSimpArgs false
open Go.RowKit Go.Proofs.YtiencnnkphipoaaW.PrintWords Go.Proofs.YtiencnnkphipoaaW.PrintMore Go.Proofs.Ytiencnnkphipoaa.P Go.Proofs.Ytiencnnkphipoaa

section
variable {w h : Nat} {C K B : List Int}
theorem depth_ev (L : Land w h C) {t : Nat} (ht : t < w * h) : Ev (fun k => hinterlandref06_Depth.f k (w : Int) (h : Int) C (t : Int)) (level w C t) := by
 unfold hinterlandref06_Depth.f level
 refine Ev.bind (sea_ev L ht) ?_
 cases sea w C t with
 | true => exact Ev.pos rfl (Ev.now _)
 | false => exact Ev.neg (by simp) (Ev.bind (face_ev L ht) (Ev.now _))
theorem lock_inc (U : Waters w h C K B) {t : Nat} (ht : t < w * h) (k : K.getD t 0 = 2) : inc (slope w C t) := by
 have:=U.may t (Nat.zero_le _) (by rw [U.len];exact ht)
 unfold MayAt lie at this
 rw [k] at this
 cases he : sea w C t with
 | true => rw [he] at this;simp at this
 | false =>
  rw [he] at this
  by_cases hi : inc (slope w C t)
  ·exact hi
  ·simp [hi] at this
theorem up_inc {s : Int} (hi : inc s) : hinterlandref06_upper.f s = some (upp s) := by
 rw [upper_eq]
 unfold inc at hi
 unfold upp
 rcases hi with rfl | rfl | rfl | rfl <;> rfl
theorem meets_ev (U : Waters w h C K B) {t : Nat} (ht : t < w * h) {s : Int} (hs : 0 ≤ s ∧ s ≤ 3) : Ev (fun k => hinterlandref06_Meets.f k (w : Int) (h : Int) C K B (t : Int) s) (if join w h C K t s = true then bey w h t s else -1) := by
 have L:=U.land
 have hK:=U.len
 have wv : ∀ {u : Nat},u < w * h → Ev (fun k => hinterlandref06_Wet.f k (w : Int) (h : Int) C K (u : Int)) (wet w C K u):=fun hu => ref_wet_ev L hu hK (U.kinds _ (Nat.zero_le _) (by omega)) (U.may _ (Nat.zero_le _) (by omega))
 unfold hinterlandref06_Meets.f
 refine Ev.bindc (ref_beyond_eq L ht hs) ?_
 obtain ⟨b1,b2⟩:=bey_lt ht s
 have no : ∀ q,q = true → Ev (fun k => hinterlandref06_Meets.j0 k (t : Int) s (bey w h t s) q (w : Int) (h : Int) C K B) (-1):=fun q hq => Ev.step (fun k => by simp only [hinterlandref06_Meets.j0];rfl) (Ev.pos hq (Ev.now _))
 by_cases q0 : bey w h t s < 0
 ·rw [join_no1 q0];exact Ev.pos q0 (no _ rfl)
 refine Ev.neg q0 ?_
 obtain ⟨b,hb⟩:=Int.eq_ofNat_of_zero_le (show 0 ≤ bey w h t s by omega)
 have hbl : b < w * h:=by omega
 rw [hb] at no ⊢
 refine Ev.bind (wv ht) ?_
 by_cases w1 : wet w C K t = true
 rotate_left
 ·rw [join_no2 w1];exact Ev.neg w1 (no _ rfl)
 refine Ev.pos w1 (Ev.bind (wv hbl) ?_)
 by_cases w2 : wet w C K b = true
 rotate_left
 ·rw [join_no3 hb w2];exact no _ (by simp [w2])
 rw [join_yes hb w1 w2]
 refine Ev.step (fun k => by simp only [hinterlandref06_Meets.j0];rfl) (Ev.neg (by simp [w2]) (Ev.pos (by omega) (Ev.pos (by omega) ?_)))
 rw [rdN,rdN]
 have fin : ∀ (lock oth : Nat) (rise : Int),lock < w * h → oth < w * h → 0 ≤ rise ∧ rise ≤ 1 → Ev (fun k => hinterlandref06_Meets.j2 k (b : Int) (lock : Int) (oth : Int) rise (w : Int) (h : Int) C) (if level w C oth = level w C lock + rise then (b : Int) else -1):=by
  intro lock oth rise hl ho hr
  have:=level_in L hl
  refine Ev.step (fun k => by simp only [hinterlandref06_Meets.j2];rfl) (Ev.bind (depth_ev L ho) (Ev.bind (depth_ev L hl) ?_))
  rw [wrap_in (x:=level w C lock + rise) (by omega) (by omega)]
  exact Ev.both (fun _ => Ev.now _) (fun _ => Ev.now _)
 have lk : ∀ (lock oth : Nat) (a : Int),lock < w * h → oth < w * h → 0 ≤ a ∧ a ≤ 3 → K.getD lock 0 = 2 → Ev (fun k => hinterlandref06_Meets.j1 k (b : Int) (lock : Int) (oth : Int) a (w : Int) (h : Int) C K B) (if thru w C lock a (level w C oth) = true then (b : Int) else -1):=by
  intro lock oth a hl ho ha hk
  have hi:=lock_inc U hl hk
  have hu:=upp_in (slope w C lock)
  refine Ev.step (fun k => by simp only [hinterlandref06_Meets.j1];rfl) (Ev.pos (by omega) (Ev.pos (by omega) ?_))
  rw [rdN]
  refine Ev.pos hk (Ev.bind (face_ev L hl) (Ev.bindc (up_inc hi) ?_))
  unfold thru
  generalize upp (slope w C lock) = u at hu ⊢
  by_cases p : Int.tmod a 2 = Int.tmod u 2
  ·refine Ev.pos p ?_
   by_cases pu : a = u
   ·rw [if_pos pu]
    refine Ev.pos pu (Ev.eq (fin lock oth 1 hl ho (by decide)) ?_)
    by_cases q : level w C oth = level w C lock + 1
    ·rw [if_pos q,if_pos (by simp [q])]
    ·rw [if_neg q,if_neg (by simp [q])]
   ·rw [if_neg pu]
    have e : a = Int.tmod (u + 2) 4:=by
     rcases (by omega : a = 0 ∨ a = 1 ∨ a = 2 ∨ a = 3) with rfl | rfl | rfl | rfl <;> rcases (by omega : u = 0 ∨ u = 1 ∨ u = 2 ∨ u = 3) with rfl | rfl | rfl | rfl <;> revert p pu <;> decide
    rw [if_pos e]
    refine Ev.neg pu (Ev.eq (fin lock oth 0 hl ho (by decide)) ?_)
    rw [Int.add_zero]
    by_cases q : level w C oth = level w C lock
    ·rw [if_pos q,if_pos (by simp [q])]
    ·rw [if_neg q,if_neg (by simp [q])]
  ·have e : a ≠ u ∧ a ≠ Int.tmod (u + 2) 4:=by
    rcases (by omega : a = 0 ∨ a = 1 ∨ a = 2 ∨ a = 3) with rfl | rfl | rfl | rfl <;> rcases (by omega : u = 0 ∨ u = 1 ∨ u = 2 ∨ u = 3) with rfl | rfl | rfl | rfl <;> revert p <;> decide
   rw [if_neg e.1,if_neg e.2]
   exact Ev.neg p (Ev.eq (Ev.now _) (by simp))
 by_cases k2 : K.getD b 0 = 2
 ·refine Ev.pos k2 (Ev.pos (by omega) (Ev.pos (by omega) ?_))
  by_cases k1 : K.getD t 0 = 2
  ·exact Ev.pos k1 (Ev.eq (Ev.now _) (by rw [if_pos k1,if_pos k2];simp))
  ·refine Ev.neg k1 ?_
   rw [wrap_in (x:=s + 2) (by omega) (by omega)]
   exact Ev.eq (lk b t _ hbl ht (back2 hs).1 k2) (by rw [if_neg k1,if_pos k2])
 ·refine Ev.neg k2 ?_
  by_cases k1 : K.getD t 0 = 2
  ·exact Ev.eq (lk t b s ht hbl hs k1) (by rw [if_pos k1,if_neg k2])
  ·refine Ev.eq ?_ (show (if (level w C t == level w C b) = true then (b : Int) else -1) = _ by rw [if_neg k1,if_neg k2])
   refine Ev.step (fun k => by simp only [hinterlandref06_Meets.j1];rfl) (Ev.pos (by omega) (Ev.pos (by omega) ?_))
   rw [rdN]
   refine Ev.neg k1 (Ev.eq (fin t b 0 ht hbl (by decide)) ?_)
   rw [Int.add_zero]
   by_cases q : level w C t = level w C b
   ·rw [if_pos q.symm,if_pos (by simp [q])]
   ·rw [if_neg (fun hc => q hc.symm),if_neg (by simp [q])]
end
end Go.Proofs.Ytiencnnkphipoaa.Pure
