/- Layer 6, WaterAreas (P6.4): which tiles hang together. No conditions. -/
import Derived.Test.YtiencnnkphipoaaPx0
import Derived.Test.YtiencnnkphipoaaPx31
import Derived.Test.YtiencnnkphipoaaPx32
import Derived.Test.YtiencnnkphipoaaPSWaterAreas
import Derived.Test.YtiencnnkphipoaaWater9
import Derived.Test.YtiencnnkphipoaaWaterM
import Derived.Test.YtiencnnkphipoaaWater6
namespace Go.Proofs.Ytiencnnkphipoaa.Pure
set_option linter.unusedVariables false
set_option linter.unusedSimpArgs false
open Go.RowKit Go.Proofs.YtiencnnkphipoaaW.PrintWords Go.Proofs.YtiencnnkphipoaaW.PrintMore Go.Proofs.Ytiencnnkphipoaa.P Go.Proofs.Ytiencnnkphipoaa

section
variable {w h : Nat} {C K B : List Int}
theorem ref_floods (U : Waters w h C K B) {i : Nat} {L0 : List Int} {r : List Int × Int} (hi : i < w * h) (ha0 : wet w C K i = true) (hlow : low (w * h) (mtW w h C K) i = i) (h0 : ∀ j, j < w * h → L0.getD j 0 = rlab (w * h) (mtW w h C K) (wet w C K) i j)
  (Kn : ∀ L,L.length = w * h → (∀ j,j < w * h → L.getD j 0 = L0.getD j 0 ∨ (L.getD j 0 = (i : Int) ∧ Reach (w * h) (mtW w h C K) i j)) → (∀ j,Reach (w * h) (mtW w h C K) i j → L.getD j 0 = (i : Int)) → Ev (fun k => hinterlandref06_Areas.l1 k L ((w * h : Nat) : Int) ((i : Int) + 1) (w : Int) (h : Int) C K B) r) :
  Floods (w * h) (mtW w h C K) i L0 (fun L q => Ev (fun k => hinterlandref06_Areas.l2 k L (i : Int) q ((w * h : Nat) : Int) (i : Int) (w : Int) (h : Int) C K B) r) (fun L q t s => Ev (fun k => hinterlandref06_Areas.l3 k L (i : Int) q t ((w * h : Nat) : Int) (i : Int) s (w : Int) (h : Int) C K B) r) where
 take:=by
  intro L q hq hB
  have hq0 : q.length ≠ 0:=fun h => hq (List.length_eq_zero_iff.1 h)
  have hlast : rd q (((q.length - 1 : Nat)) : Int) = q.getLast hq:=by
   rw [rdN,List.getD_eq_getElem?_getD,List.getElem?_eq_getElem (by omega),List.getLast_eq_getElem]
   rfl
  have hsplit : q.take (q.length - 1) ++ [q.getLast hq] = q:=by
   rw [← List.dropLast_eq_take]
   exact List.dropLast_concat_getLast hq
  refine ⟨q.getLast hq,q.take (q.length - 1),by rw [List.length_take];omega,fun y => ?_,fun hr => ?_⟩
  ·have : y ∈ q ↔ y ∈ q.take (q.length - 1) ++ [q.getLast hq]:=by rw [hsplit]
   rw [this,List.mem_append,List.mem_singleton,or_comm]
  ·refine Ev.step (fun k => by simp only [hinterlandref06_Areas.l2];rfl) (Ev.pos (by omega) ?_)
   rw [wrap_in (x:=(q.length : Int) - 1) (by omega) (by omega),show (q.length : Int) - 1 = ((q.length - 1 : Nat) : Int) by omega,hlast,Int.toNat_natCast]
   exact Ev.pos (by omega) (Ev.pos (by omega) (Ev.pos (by omega) hr))
 fin:=by
  intro L h1 h2 h3
  have hwh : w * h ≤ 32 * 32:=mulle U.land.w1 U.land.h1
  refine Ev.step (fun k => by simp only [hinterlandref06_Areas.l2];rfl) (Ev.neg (by simp) ?_)
  rw [wrap_in (x:=(i : Int) + 1) (by omega) (by omega)]
  exact Kn L h1 h2 h3
 turn:=by
  intro L q t hr
  exact Ev.step (fun k => by simp only [hinterlandref06_Areas.l3];rfl) (Ev.neg (by omega) hr)
 none:=by
  intro L q t s ht hs hm hr
  refine Ev.step (fun k => by simp only [hinterlandref06_Areas.l3];rfl) (Ev.pos (by omega) (Ev.bind (meets_ev U ht hs) ?_))
  rw [if_neg (mt_none ht hs hm),wrap_in (x:=s + 1) (by omega) (by omega)]
  exact Ev.neg (by omega) hr
 done:=by
  intro L q t s u ht hs hm hu hL hd hr
  obtain ⟨hj,hb⟩:=mt_some hm
  refine Ev.step (fun k => by simp only [hinterlandref06_Areas.l3];rfl) (Ev.pos (by omega) (Ev.bind (meets_ev U ht hs) ?_))
  rw [if_pos hj,hb,wrap_in (x:=s + 1) (by omega) (by omega),rdN,hd]
  exact Ev.pos (by omega) (Ev.pos (by omega) (Ev.pos (by omega) (Ev.neg (by omega) hr)))
 mark:=by
  intro L q t s u ht hs hm hu hL hq hru hold hne hr
  obtain ⟨hj,hb⟩:=mt_some hm
  have hval : L.getD u 0 = (u : Int):=by rw [hold,h0 u hu,rlab_low (netW U) ha0 hlow hru]
  have hle : i ≤ u:=by have:=low_least (n:=w * h) (mt:=mtW w h C K) hru;omega
  have hgt : i < u:=by
   rcases Nat.lt_or_eq_of_le hle with h | h
   ·exact h
   ·subst h;exact absurd hval hne
  refine Ev.step (fun k => by simp only [hinterlandref06_Areas.l3];rfl) (Ev.pos (by omega) (Ev.bind (meets_ev U ht hs) ?_))
  rw [if_pos hj,hb,wrap_in (x:=s + 1) (by omega) (by omega),rdN,hval,Int.toNat_natCast]
  exact Ev.pos (by omega) (Ev.pos (by omega) (Ev.pos (by omega) (Ev.pos (by omega) (Ev.pos (by omega) hr))))
theorem ref_l1 (U : Waters w h C K B) : ∀ (d i : Nat) (L : List Int), i + d = w * h → L.length = w * h → (∀ j, j < w * h → L.getD j 0 = rlab (w * h) (mtW w h C K) (wet w C K) i j) → Ev (fun k => hinterlandref06_Areas.l1 k L ((w * h : Nat) : Int) (i : Int) (w : Int) (h : Int) C K B) (parts (w * h) (mtW w h C K) (wet w C K), 0)
 | 0,i,L,e,hl,hL => by
  obtain rfl : i = w * h:=by omega
  refine Ev.step (fun k => by simp only [hinterlandref06_Areas.l1];rfl) (Ev.neg (by omega) (Ev.const ?_))
  rw [list_ext (L:=L) (R:=parts (w * h) (mtW w h C K) (wet w C K)) (by rw [parts_len];exact hl) (fun j hj => by rw [parts_at (by omega),← rlab_end (by omega)];exact hL j (by omega))]
 | d + 1,i,L,e,hl,hL => by
  have g:=netW U
  have hwh : w * h ≤ 32 * 32:=mulle U.land.w1 U.land.h1
  have hi : i < w * h:=by omega
  have hle:=low_le (w * h) (mtW w h C K) i
  refine Ev.step (fun k => by simp only [hinterlandref06_Areas.l1];rfl) (Ev.pos (by omega) (Ev.pos (by omega) (Ev.pos (by omega) ?_)))
  have skip : ¬ wet w C K i = true ∨ low (w * h) (mtW w h C K) i < i → Ev (fun k => hinterlandref06_Areas.l1 k L ((w * h : Nat) : Int) (wrap64 ((i : Int) + 1)) (w : Int) (h : Int) C K B) (parts (w * h) (mtW w h C K) (wet w C K),0):=by
   intro hs
   rw [wrap_in (x:=(i : Int) + 1) (by omega) (by omega)]
   exact ref_l1 U d (i + 1) L (by omega) hl (fun j hj => by rw [rlab_skip g hs];exact hL j hj)
  rw [rdN,hL i hi]
  by_cases a0 : wet w C K i = true
  rotate_left
  ·exact Ev.neg (by unfold rlab;rw [if_pos a0];omega) (skip (.inl a0))
  by_cases hlow : low (w * h) (mtW w h C K) i < i
  ·exact Ev.neg (by unfold rlab;rw [if_neg (fun q => q a0),if_pos hlow];omega) (skip (.inr hlow))
  have hlow : low (w * h) (mtW w h C K) i = i:=by omega
  refine Ev.pos (rlab_low g a0 hlow .refl) ?_
  have at_i : L.getD i 0 = (i : Int):=by rw [hL i hi];exact rlab_low g a0 hlow .refl
  have c1:=List.countP_le_length (p:=fun x => x != (i : Int)) (l:=L)
  refine flood2 g hi (ref_floods U hi a0 hlow hL (fun L' h1 h2 h3 => ?_)) (2 * (w * h) + 1) L [(i : Int)] (by simp;omega) (by omega) ⟨hl,fun j hj => .inl rfl,fun y hy => ⟨i,List.mem_singleton.1 hy,.refl,at_i⟩,fun j hj hlj => ?_,at_i⟩
  ·refine ref_l1 U d (i + 1) L' (by omega) h1 (fun j hj => ?_)
   by_cases hr : Reach (w * h) (mtW w h C K) i j
   ·rw [h3 j hr,rlab_next g a0 hlow hr]
   ·rcases h2 j hj with h | h
    ·rw [h,hL j hj,rlab_else g hr]
    ·exact absurd h.2 hr
  ·have hjl:=hj.lt g hi
   rw [hL j hjl,rlab_low g a0 hlow hj] at hlj
   exact .inl (List.mem_singleton.2 hlj)
theorem ref_l0 (U : Waters w h C K B) : ∀ (d i : Nat) (L : List Int), i + d = w * h → L.length = w * h → (∀ j, j < i → L.getD j 0 = rlab (w * h) (mtW w h C K) (wet w C K) 0 j) → Ev (fun k => hinterlandref06_Areas.l0 k L ((w * h : Nat) : Int) (i : Int) (w : Int) (h : Int) C K B) (parts (w * h) (mtW w h C K) (wet w C K), 0)
 | 0,i,L,e,hl,hL => by
  obtain rfl : i = w * h:=by omega
  refine Ev.step (fun k => by simp only [hinterlandref06_Areas.l0];rfl) (Ev.neg (by omega) ?_)
  rw [hl]
  exact ref_l1 U (w * h) 0 L (by omega) hl hL
 | d + 1,i,L,e,hl,hL => by
  have hwh : w * h ≤ 32 * 32:=mulle U.land.w1 U.land.h1
  have hKl:=U.len
  have hi : i < w * h:=by omega
  refine Ev.step (fun k => by simp only [hinterlandref06_Areas.l0];rfl) (Ev.pos (by omega) (Ev.pos (by omega) (Ev.pos (by omega) (Ev.bindc rfl ?_))))
  rw [wrap_in (x:=(i : Int) + 1) (by omega) (by omega),Int.toNat_natCast]
  refine Ev.bind (ref_wet_ev U.land hi hKl (U.kinds _ (Nat.zero_le _) (by omega)) (U.may _ (Nat.zero_le _) (by omega))) ?_
  by_cases a0 : wet w C K i = true
  ·refine Ev.pos a0 (ref_l0 U d (i + 1) ((L.set i (-1)).set i (i : Int)) (by omega) (by simp [hl]) (fun j hj => ?_))
   rw [set_at,List.length_set]
   by_cases e : i = j
   ·subst e;rw [if_pos ⟨rfl,by omega⟩];unfold rlab;rw [if_neg (fun q => q a0),if_neg (by omega)]
   ·rw [if_neg (fun h => e h.1),set_at,if_neg (fun h => e h.1)];exact hL j (by omega)
  ·refine Ev.neg a0 (ref_l0 U d (i + 1) (L.set i (-1)) (by omega) (by rw [List.length_set];exact hl) (fun j hj => ?_))
   rw [set_at]
   by_cases e : i = j
   ·subst e;rw [if_pos ⟨rfl,by omega⟩];unfold rlab;rw [if_pos a0]
   ·rw [if_neg (fun h => e h.1)];exact hL j (by omega)
end
theorem ref_areas_ev {W H : Int} {C K B : List Int} (hC : C.length ≤ 4000) (hB : B.length ≤ 4000) : Ev (fun k => hinterlandref06_Areas.f k W H C K B) (areasR W H C K B) := by
 unfold hinterlandref06_Areas.f areasR
 refine Ev.bind (ref_validate_ev hC hB) ?_
 by_cases hw : wcode W H C K B = 0
 ·have hw':=hw
  obtain ⟨w,h,rfl,rfl,U⟩:=waters_of hw
  have hwh : w * h ≤ 32 * 32:=mulle U.land.w1 U.land.h1
  have hKl:=U.len
  rw [if_pos hw']
  simp only [Int.toNat_natCast]
  refine Ev.pos hw' (Ev.pos (by omega) (Ev.pos (by omega) (Ev.bindc rfl ?_)))
  rw [hKl,List.length_replicate]
  exact ref_l0 U (w * h) 0 _ (by omega) (by simp) (fun j hj => by omega)
 ·rw [if_neg hw];exact Ev.neg hw (Ev.now _)
theorem WaterAreas : hinterlandlaw06_WaterAreas.Pure := by
 intro W H C K B _ _ _ _ _
 refine Ev.rounds ?_
 unfold hinterlandlaw06_WaterAreas.f
 refine Ev.bindc (large_eq _ _ _ _ _) ?_
 by_cases hfar : (C.length : Int) > 4000 ∨ (K.length : Int) > 4000 ∨ (B.length : Int) > 4000
 ·exact Ev.pos (decide_eq_true hfar) known_then
 refine Ev.neg (fun h => hfar (of_decide_eq_true h)) ?_
 have hl:=areas_len (W:=W) (H:=H) (C:=C) (K:=K) (B:=B) (by omega)
 exact Ev.bind (areas_ev (by omega) (by omega)) (Ev.bind (ref_areas_ev (by omega) (by omega)) (Ev.pos rfl (Ev.bind (same_ev _ (by omega)) (Ev.pos rfl (Ev.bind known_ev (Ev.step (fun k => by simp only [hinterlandlaw06_WaterAreas.j0] <;> rfl) (Ev.now _)))))))

end Go.Proofs.Ytiencnnkphipoaa.Pure
