/- What the functions of layer 6 (waters) come to, in plain words: a tile that is changed. No conditions. -/
import Derived.Test.YtiencnnkphipoaaPx0
import Derived.Test.YtiencnnkphipoaaPx16
import Derived.Test.YtiencnnkphipoaaWaterL
namespace Go.Proofs.Ytiencnnkphipoaa.Pure
set_option linter.unusedVariables false
set_option linter.unusedSimpArgs false
open Go.RowKit Go.Proofs.YtiencnnkphipoaaW.PrintWords Go.Proofs.YtiencnnkphipoaaW.PrintMore Go.Proofs.Ytiencnnkphipoaa.P Go.Proofs.Ytiencnnkphipoaa

theorem same_ev (l : List Int) (hl : l.length ≤ 8000) : Ev (fun k => hinterlandsame_List_int.f k l l) true := by
 unfold hinterlandsame_List_int.f
 refine Ev.pos rfl ?_
 refine Ev.scan_all (g:=fun k i => hinterlandsame_List_int.l0 k l l i) (p:=fun _ => True) (n:=l.length) (Ev.step (fun k => by simp only [hinterlandsame_List_int.l0];rfl) (Ev.neg (by omega) (Ev.now _))) ?_ l.length 0 (by omega) (fun _ _ _ => trivial)
 intro i hi _ r hr
 refine Ev.step (fun k => by simp only [hinterlandsame_List_int.l0];rfl) ?_
 rw [wrap_in (x:=(i : Int) + 1) (by omega) (by omega)]
 exact Ev.pos (by omega) (Ev.pos (by omega) (Ev.pos (by omega) (Ev.pos (by first | trivial | rfl) hr)))
theorem same_waters_ev (K B : List Int) (hK : K.length ≤ 8000) (hB : B.length ≤ 8000) : Ev (fun k => hinterlandsame_Waters.f k K B K B) true := by
 unfold hinterlandsame_Waters.f
 exact Ev.bind (same_ev K hK) (Ev.pos rfl (Ev.bind (same_ev B hB) (Ev.now _)))
section
variable {w h : Nat} {C K B : List Int}
theorem set_waters (U : Waters w h C K B) {t : Nat} (ht : t < w * h) {k : Int} (hk : 0 ≤ k ∧ k ≤ 3) (hm : lie (sea w C t) (slope w C t) k = 0) (hb : k = 0 → ∀ j, j < B.length → B.getD j 0 = (t : Int) → sea w C t = true) : Waters w h C (K.set t k) B := by
 have hK:=U.len
 refine ⟨U.land,by simpa using hK,?_,U.inc,U.inB,?_,?_⟩
 ·intro j _ hj
  rw [List.length_set] at hj
  unfold KAt
  rw [set_at]
  by_cases e : t = j ∧ j < K.length
  ·rw [if_pos e];exact hk
  ·rw [if_neg e];exact U.kinds j (Nat.zero_le _) hj
 ·intro j _ hj
  rw [List.length_set] at hj
  unfold MayAt
  rw [set_at]
  by_cases e : t = j ∧ j < K.length
  ·rw [if_pos e,← e.1];exact hm
  ·rw [if_neg e];exact U.may j (Nat.zero_le _) hj
 ·intro j hj0 hj
  have hw:=U.wetB j hj0 hj
  have hin:=U.inB j hj0 hj
  unfold WetAt wet at hw ⊢
  unfold InAt at hin
  rw [set_at]
  by_cases e : t = (B.getD j 0).toNat ∧ (B.getD j 0).toNat < K.length
  ·rw [if_pos e]
   by_cases k0 : k = 0
   ·have:=hb k0 j hj (by have:=e.1;omega)
    rw [← e.1,this];rfl
   ·rw [show (k != 0) = true from bne_iff_ne.2 k0,Bool.or_true]
  ·rw [if_neg e];exact hw
end
end Go.Proofs.Ytiencnnkphipoaa.Pure
