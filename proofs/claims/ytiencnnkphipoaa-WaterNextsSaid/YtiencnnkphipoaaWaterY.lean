/- What the functions of layer 6 (waters) come to, in plain words: what lies beyond a tile, in the document. No conditions. -/
import Derived.Test.YtiencnnkphipoaaPx0
import Derived.Test.YtiencnnkphipoaaPx26
import Derived.Test.YtiencnnkphipoaaWater5
namespace Go.Proofs.Ytiencnnkphipoaa.Pure
set_option linter.unusedVariables false
set_option linter.unusedSimpArgs false
open Go.RowKit Go.Proofs.YtiencnnkphipoaaW.PrintWords Go.Proofs.YtiencnnkphipoaaW.PrintMore Go.Proofs.Ytiencnnkphipoaa.P Go.Proofs.Ytiencnnkphipoaa

section
variable {w h : Nat} {C K B : List Int}
theorem bey0 (w h t : Nat) : bey w h t 0 = if t % w + 1 < w then ((t + 1 : Nat) : Int) else -1 := rfl
theorem bey1 (w h t : Nat) : bey w h t 1 = if t / w + 1 < h then ((t + w : Nat) : Int) else -1 := rfl
theorem bey2 (w h t : Nat) : bey w h t 2 = if 0 < t % w then ((t - 1 : Nat) : Int) else -1 := rfl
theorem bey3 (w h t : Nat) : bey w h t 3 = if 0 < t / w then ((t - w : Nat) : Int) else -1 := rfl
theorem ref_beyond_eq (L : Land w h C) {t : Nat} (ht : t < w * h) {s : Int} (hs : 0 ≤ s ∧ s ≤ 3) : hinterlandref02_Beyond.f (w : Int) (h : Int) (t : Int) s = some (bey w h t s) := by
 obtain ⟨h1,h2,h3⟩:=tile ht
 have:=L.w0
 have:=L.w1
 have:=L.h1
 have e1 : Int.tdiv (t : Int) (w : Int) = ((t / w : Nat) : Int):=rfl
 have e2 : Int.tmod (t : Int) (w : Int) = ((t % w : Nat) : Int):=rfl
 have hb : t / w * w ≤ 32 * 32:=mulle (by omega) (by omega)
 have hyw : 0 < t / w → w ≤ t / w * w:=fun q => by have:=Nat.mul_le_mul_right w (show 1 ≤ t / w by omega);rw [Nat.one_mul] at this;exact this
 have my : ((t / w * w : Nat) : Int) = ((t / w : Nat) : Int) * (w : Int):=by push_cast;rfl
 rcases (by omega : s = 0 ∨ s = 1 ∨ s = 2 ∨ s = 3) with rfl | rfl | rfl | rfl
 ·rw [bey0]
  unfold hinterlandref02_Beyond.f
  rw [e1,e2,if_neg (by omega),if_pos (show (0 : Int) = 0 from rfl)]
  clear e1 e2
  generalize t / w = y at h1 h3 hb hyw my ⊢
  generalize t % w = x at h2 h3 ⊢
  rw [wrap_in (x:=(y : Int)) (by omega) (by omega),wrap_in (x:=(x : Int) + 1) (by omega) (by omega),if_neg (by omega),if_neg (by omega)]
  by_cases q : x + 1 < w
  ·rw [if_pos q,if_neg (by omega),if_neg (by omega),← my,wrap_in (x:=((y * w : Nat) : Int)) (by omega) (by omega),wrap_in (by omega) (by omega)];congr 1;omega
  ·rw [if_neg q,if_pos (by omega)]
 ·rw [bey1]
  unfold hinterlandref02_Beyond.f
  rw [e1,e2,if_neg (by omega),if_neg (show ¬ (1 : Int) = 0 by decide),if_pos (show (1 : Int) = 1 from rfl)]
  clear e1 e2
  generalize t / w = y at h1 h3 hb hyw my ⊢
  generalize t % w = x at h2 h3 ⊢
  rw [wrap_in (x:=(y : Int)) (by omega) (by omega),wrap_in (x:=(y : Int) + 1) (by omega) (by omega),if_neg (by omega),if_neg (by omega),if_neg (by omega)]
  by_cases q : y + 1 < h
  ·rw [if_pos q,if_neg (by omega),Int.add_mul,← my,wrap_in (x:=((y * w : Nat) : Int) + 1 * (w : Int)) (by omega) (by omega),wrap_in (by omega) (by omega)];congr 1;omega
  ·rw [if_neg q,if_pos (by omega)]
 ·rw [bey2]
  unfold hinterlandref02_Beyond.f
  rw [e1,e2,if_neg (by omega),if_neg (show ¬ (2 : Int) = 0 by decide),if_neg (show ¬ (2 : Int) = 1 by decide),if_pos (show (2 : Int) = 2 from rfl)]
  clear e1 e2
  generalize t / w = y at h1 h3 hb hyw my ⊢
  generalize t % w = x at h2 h3 ⊢
  rw [wrap_in (x:=(y : Int)) (by omega) (by omega),wrap_in (x:=(x : Int) - 1) (by omega) (by omega)]
  by_cases q : 0 < x
  ·rw [if_pos q,if_neg (by omega),if_neg (by omega),if_neg (by omega),if_neg (by omega),← my,wrap_in (x:=((y * w : Nat) : Int)) (by omega) (by omega),wrap_in (by omega) (by omega)];congr 1;omega
  ·rw [if_neg q,if_pos (by omega)]
 ·rw [bey3]
  unfold hinterlandref02_Beyond.f
  rw [e1,e2,if_neg (by omega),if_neg (show ¬ (3 : Int) = 0 by decide),if_neg (show ¬ (3 : Int) = 1 by decide),if_neg (show ¬ (3 : Int) = 2 by decide),if_pos (show (3 : Int) = 3 from rfl)]
  clear e1 e2
  generalize t / w = y at h1 h3 hb hyw my ⊢
  generalize t % w = x at h2 h3 ⊢
  rw [wrap_in (x:=(y : Int)) (by omega) (by omega),wrap_in (x:=(y : Int) - 1) (by omega) (by omega),if_neg (by omega)]
  by_cases q : 0 < y
  ·have:=hyw q
   rw [if_pos q,if_neg (by omega),if_neg (by omega),if_neg (by omega),Int.sub_mul,← my,wrap_in (x:=((y * w : Nat) : Int) - 1 * (w : Int)) (by omega) (by omega),wrap_in (by omega) (by omega)];congr 1;omega
  ·rw [if_neg q,if_pos (by omega)]
end
end Go.Proofs.Ytiencnnkphipoaa.Pure
