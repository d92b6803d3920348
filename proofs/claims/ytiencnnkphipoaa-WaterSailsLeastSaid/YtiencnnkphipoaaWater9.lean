/- What the functions of layer 6 (waters) come to, in plain words: which tiles hang together. No conditions. -/
import Derived.Test.YtiencnnkphipoaaPx0
import Derived.Test.YtiencnnkphipoaaPx30
import Derived.Test.YtiencnnkphipoaaWater8
import Derived.Test.YtiencnnkphipoaaWaterL
namespace Go.Proofs.Ytiencnnkphipoaa.Pure
set_option linter.unusedVariables false
set_option linter.unusedSimpArgs false
open Go.RowKit Go.Proofs.YtiencnnkphipoaaW.PrintWords Go.Proofs.YtiencnnkphipoaaW.PrintMore Go.Proofs.Ytiencnnkphipoaa.P Go.Proofs.Ytiencnnkphipoaa

def mtW (w h : Nat) (C K : List Int) (t : Nat) (s : Int) : Int := if join w h C K t s = true then bey w h t s else -1
section
variable {w h : Nat} {C K B : List Int}
theorem netW (U : Waters w h C K B) : Net (w * h) (mtW w h C K) (wet w C K) where
 at_:=by
  intro t ht s
  have:=bey_lt ht s
  unfold mtW
  split <;> omega
 back:=by
  intro t ht s hs h0
  unfold mtW at h0 ⊢
  by_cases hj : join w h C K t s = true
  ·rw [if_pos hj] at h0 ⊢
   have:=join_back ht hs hj
   rw [if_pos this.2,bey_back ht hs h0]
  ·rw [if_neg hj] at h0;exact absurd h0 (by decide)
 arm:=by
  intro t ht s hs h0
  unfold mtW at h0
  by_cases hj : join w h C K t s = true
  ·exact Classical.byContradiction fun hw => by rw [join_no2 hw] at hj;cases hj
  ·rw [if_neg hj] at h0;exact absurd h0 (by decide)
theorem mt_none {t : Nat} {s : Int} (ht : t < w * h) (hs : 0 ≤ s ∧ s ≤ 3) (hm : mtW w h C K t s = -1) : ¬ join w h C K t s = true := by
 intro hj
 unfold mtW at hm
 rw [if_pos hj] at hm
 have:=(join_back ht hs hj).1
 omega
theorem mt_some {t u : Nat} {s : Int} (hm : mtW w h C K t s = (u : Int)) : join w h C K t s = true ∧ bey w h t s = (u : Int) := by
 unfold mtW at hm
 by_cases hj : join w h C K t s = true
 ·rw [if_pos hj] at hm;exact ⟨hj,hm⟩
 ·rw [if_neg hj] at hm;omega

theorem areas_floods (U : Waters w h C K B) {i : Nat} {L0 : List Int} {r : List Int × Int} (hi : i < w * h) (hlow : low (w * h) (mtW w h C K) i = i) (h0 : ∀ j, j < w * h → L0.getD j 0 = lab (w * h) (mtW w h C K) (wet w C K) i j)
  (Kn : ∀ L,L.length = w * h → (∀ j,j < w * h → L.getD j 0 = L0.getD j 0 ∨ (L.getD j 0 = (i : Int) ∧ Reach (w * h) (mtW w h C K) i j)) → (∀ j,Reach (w * h) (mtW w h C K) i j → L.getD j 0 = (i : Int)) → ∀ m,Tells w h L m → Ev (fun k => water_Areas.l0 k ((w * h : Nat) : Int) ((i : Int) + 1) K B (w : Int) (h : Int) (gS w h C) (gB w h C) (gE w h C) m) r) :
  Floods (w * h) (mtW w h C K) i L0 (fun L q => L.length = w * h → ∀ m,Tells w h L m → Ev (fun k => water_Areas.l1 k (i : Int) q ((w * h : Nat) : Int) (i : Int) K B (w : Int) (h : Int) (gS w h C) (gB w h C) (gE w h C) m) r)
   (fun L q t s => L.length = w * h → ∀ m,Tells w h L m → Ev (fun k => water_Areas.l2 k (i : Int) (t :: q) ((w * h : Nat) : Int) (i : Int) s K B (w : Int) (h : Int) (gS w h C) (gB w h C) (gE w h C) m) r) where
 take:=by
  intro L q hq hB
  obtain ⟨t,q',rfl⟩:=List.exists_cons_of_ne_nil hq
  exact ⟨t,q',rfl,fun y => List.mem_cons,fun hr hl m hm => Ev.step (fun k => by simp only [water_Areas.l1];rfl) (Ev.pos (by simp only [List.length_cons];omega) (hr hl m hm))⟩
 fin:=by
  intro L h1 h2 h3 hl m hm
  have hwh : w * h ≤ 32 * 32:=mulle U.land.w1 U.land.h1
  refine Ev.step (fun k => by simp only [water_Areas.l1];rfl) (Ev.neg (by simp) ?_)
  rw [wrap_in (x:=(i : Int) + 1) (by omega) (by omega)]
  exact Kn L h1 h2 h3 m hm
 turn:=by
  intro L q t hr hl m hm
  exact Ev.step (fun k => by simp only [water_Areas.l2];rfl) (Ev.neg (by omega) (Ev.pos (by simp only [List.length_cons];omega) (hr hl m hm)))
 none:=by
  intro L q t s ht hs hm hr hl m hT
  refine Ev.step (fun k => by simp only [water_Areas.l2];rfl) (Ev.pos (by omega) (Ev.pos (by simp only [List.length_cons];omega) ?_))
  rw [show rd ((t : Int) :: q) 0 = (t : Int) from rfl,wrap_in (x:=s + 1) (by omega) (by omega)]
  exact Ev.bind (join_ev U ht hs) (Ev.neg (mt_none ht hs hm) (hr hl m hT))
 done:=by
  intro L q t s u ht hs hm hu hL hd hr hl m hT
  obtain ⟨hj,hb⟩:=mt_some hm
  refine Ev.step (fun k => by simp only [water_Areas.l2];rfl) (Ev.pos (by omega) (Ev.pos (by simp only [List.length_cons];omega) ?_))
  rw [show rd ((t : Int) :: q) 0 = (t : Int) from rfl,wrap_in (x:=s + 1) (by omega) (by omega)]
  refine Ev.bind (join_ev U ht hs) (Ev.pos hj (Ev.bind (beyond_ev U.land ht hs _ _ _) ?_))
  rw [hb]
  exact Ev.pos (by rw [(hT u hu).1];exact decide_eq_true (by omega)) (hr hl m hT)
 mark:=by
  intro L q t s u ht hs hm hu hL hq hru hold hne hr hl m hT
  obtain ⟨hj,hb⟩:=mt_some hm
  have hneg : L.getD u 0 = -1:=by rw [hold,h0 u hu,lab_low (netW U) hlow hru]
  refine Ev.step (fun k => by simp only [water_Areas.l2];rfl) (Ev.pos (by omega) (Ev.pos (by simp only [List.length_cons];omega) ?_))
  rw [show rd ((t : Int) :: q) 0 = (t : Int) from rfl,wrap_in (x:=s + 1) (by omega) (by omega)]
  refine Ev.bind (join_ev U ht hs) (Ev.pos hj (Ev.bind (beyond_ev U.land ht hs _ _ _) ?_))
  rw [hb]
  refine Ev.neg (by rw [(hT u hu).1];simp only [decide_eq_true_eq];omega) (Ev.pos (by simp only [List.length_cons];omega) ?_)
  exact hr (by simpa using hl) _ (hT.step hL hu (by omega))
theorem areas_out (U : Waters w h C K B) {m : List (Int × Int)} (hT : ∀ t : Nat, t < w * h → (mpHas (t : Int) m = decide (0 ≤ lab (w * h) (mtW w h C K) (wet w C K) (w * h) t)) ∧ (0 ≤ lab (w * h) (mtW w h C K) (wet w C K) (w * h) t → mpV (t : Int) m = lab (w * h) (mtW w h C K) (wet w C K) (w * h) t)) : ∀ d i : Nat, i + d = w * h → ∀ L : List Int, L.length = w * h → (∀ j, j < i → L.getD j 0 = lab (w * h) (mtW w h C K) (wet w C K) (w * h) j) →
  Ev (fun k => water_Areas.l3 k L ((w * h : Nat) : Int) (i : Int) m) (parts (w * h) (mtW w h C K) (wet w C K),0)
 | 0,i,e,L,hl,hL => by
  refine Ev.step (fun k => by simp only [water_Areas.l3];rfl) (Ev.neg (by omega) (Ev.const ?_))
  rw [list_ext (L:=L) (R:=parts (w * h) (mtW w h C K) (wet w C K)) (by rw [parts_len];exact hl) (fun j hj => by rw [parts_at (by omega)];exact hL j (by omega))]
 | d + 1,i,e,L,hl,hL => by
  have hwh : w * h ≤ 32 * 32:=mulle U.land.w1 U.land.h1
  have hi : i < w * h:=by omega
  have ti:=hT i hi
  have lb : -1 ≤ lab (w * h) (mtW w h C K) (wet w C K) (w * h) i:=by unfold lab;split <;> omega
  have ln : 0 ≤ lab (w * h) (mtW w h C K) (wet w C K) (w * h) i ∨ lab (w * h) (mtW w h C K) (wet w C K) (w * h) i = -1:=by omega
  refine Ev.step (fun k => by simp only [water_Areas.l3];rfl) (Ev.pos (by omega) (Ev.pos (by omega) (Ev.pos (by omega) (Ev.bindc rfl ?_))))
  rw [wrap_in (x:=(i : Int) + 1) (by omega) (by omega),Int.toNat_natCast]
  rcases ln with q | q
  ·refine Ev.pos (by rw [ti.1];exact decide_eq_true q) ?_
   rw [ti.2 q]
   refine areas_out U hT d (i + 1) (by omega) _ (by simp [hl]) (fun j hj => ?_)
   rw [set_at,List.length_set]
   by_cases e2 : i = j
   ·subst e2;rw [if_pos ⟨rfl,by omega⟩]
   ·rw [if_neg (fun h => e2 h.1),set_at,if_neg (fun h => e2 h.1)];exact hL j (by omega)
  ·refine Ev.neg (by rw [ti.1];simp only [decide_eq_true_eq];omega) ?_
   refine areas_out U hT d (i + 1) (by omega) _ (by simp [hl]) (fun j hj => ?_)
   rw [set_at]
   by_cases e2 : i = j
   ·subst e2;rw [if_pos ⟨rfl,by omega⟩,q]
   ·rw [if_neg (fun h => e2 h.1)];exact hL j (by omega)
theorem areas_l0 (U : Waters w h C K B) : ∀ (d i : Nat) (L : List Int), i + d = w * h → L.length = w * h → (∀ j, j < w * h → L.getD j 0 = lab (w * h) (mtW w h C K) (wet w C K) i j) → ∀ m, Tells w h L m → Ev (fun k => water_Areas.l0 k ((w * h : Nat) : Int) (i : Int) K B (w : Int) (h : Int) (gS w h C) (gB w h C) (gE w h C) m) (parts (w * h) (mtW w h C K) (wet w C K), 0)
 | 0,i,L,e,hl,hL,m,hT => by
  have hwh : w * h ≤ 32 * 32:=mulle U.land.w1 U.land.h1
  have hKl:=U.len
  obtain rfl : i = w * h:=by omega
  refine Ev.step (fun k => by simp only [water_Areas.l0];rfl) (Ev.neg (by omega) (Ev.pos (by omega) (Ev.pos (by omega) (Ev.bindc rfl ?_))))
  rw [Int.toNat_natCast,hKl,List.length_replicate]
  exact areas_out U (fun t ht => by have:=hT t ht;rw [hL t ht] at this;exact this) (w * h) 0 (by omega) _ (by simp) (fun j hj => by omega)
 | d + 1,i,L,e,hl,hL,m,hT => by
  have g:=netW U
  have hwh : w * h ≤ 32 * 32:=mulle U.land.w1 U.land.h1
  have hKl:=U.len
  have hi : i < w * h:=by omega
  have skip : (¬ wet w C K i = true ∨ low (w * h) (mtW w h C K) i < i) → Ev (fun k => water_Areas.l0 k ((w * h : Nat) : Int) (wrap64 ((i : Int) + 1)) K B (w : Int) (h : Int) (gS w h C) (gB w h C) (gE w h C) m) (parts (w * h) (mtW w h C K) (wet w C K),0):=by
   intro hs
   rw [wrap_in (x:=(i : Int) + 1) (by omega) (by omega)]
   exact areas_l0 U d (i + 1) L (by omega) hl (fun j hj => by rw [lab_skip g hs];exact hL j hj) m hT
  have ti:=hT i hi
  rw [hL i hi] at ti
  refine Ev.step (fun k => by simp only [water_Areas.l0];rfl) (Ev.pos (by omega) ?_)
  by_cases q0 : 0 ≤ lab (w * h) (mtW w h C K) (wet w C K) i i
  ·refine Ev.pos (by rw [ti.1];exact decide_eq_true q0) (skip (.inr ?_))
   unfold lab at q0
   by_cases c : wet w C K i = true ∧ low (w * h) (mtW w h C K) i < i
   ·exact c.2
   ·rw [if_neg c] at q0;exact absurd q0 (by decide)
  refine Ev.neg (by rw [ti.1];simp only [decide_eq_true_eq];exact q0) (Ev.bindc (wet_lt hKl hi) ?_)
  by_cases a0 : wet w C K i = true
  rotate_left
  ·exact Ev.neg a0 (skip (.inl a0))
  have hle:=low_le (w * h) (mtW w h C K) i
  have hlow : low (w * h) (mtW w h C K) i = i:=by
   apply Classical.byContradiction
   intro hn
   exact q0 (by unfold lab;rw [if_pos ⟨a0,by omega⟩];omega)
  refine Ev.pos a0 ?_
  have c1:=List.countP_le_length (p:=fun x => x != (i : Int)) (l:=L.set i (i : Int))
  rw [List.length_set] at c1
  have at_i : (L.set i (i : Int)).getD i 0 = (i : Int):=by rw [set_at,if_pos ⟨rfl,by omega⟩]
  refine flood2 g hi (areas_floods U hi hlow hL (fun L' h1 h2 h3 m' hm' => ?_)) (2 * (w * h) + 1) (L.set i (i : Int)) [(i : Int)] (by simp;omega) (by omega) ⟨by rw [List.length_set];exact hl,fun j hj => ?_,fun y hy => ⟨i,List.mem_singleton.1 hy,.refl,at_i⟩,fun j hj hlj => ?_,at_i⟩ (by simpa using hl) _ (hT.step hl hi (by omega))
  ·refine areas_l0 U d (i + 1) L' (by omega) h1 (fun j hj => ?_) m' hm'
   by_cases hr : Reach (w * h) (mtW w h C K) i j
   ·rw [h3 j hr,lab_next g a0 hlow hr]
   ·rcases h2 j hj with h | h
    ·rw [h,hL j hj,lab_else g hr]
    ·exact absurd h.2 hr
  ·rw [set_at]
   by_cases e : i = j
   ·subst e
    rw [if_pos ⟨rfl,by omega⟩];exact .inr ⟨rfl,.refl⟩
   ·rw [if_neg (fun h => e h.1)];exact .inl rfl
  ·by_cases e : i = j
   ·subst e;exact .inl (List.mem_singleton.2 rfl)
   ·have hjl:=hj.lt g hi
    rw [set_at,if_neg (fun h => e h.1),hL j hjl,lab_low g hlow hj] at hlj
    omega
end
noncomputable def areasR (W H : Int) (C K B : List Int) : List Int × Int := if wcode W H C K B = 0 then (parts (W.toNat * H.toNat) (mtW W.toNat H.toNat C K) (wet W.toNat C K), 0) else ([], wcode W H C K B)
theorem areas_ev {W H : Int} {C K B : List Int} (hC : C.length ≤ 4000) (hB : B.length ≤ 4000) : Ev (fun k => water_Areas.f k W H C K B) (areasR W H C K B) := by
 unfold water_Areas.f areasR
 refine Ev.bind (check_ev hC hB) ?_
 by_cases hw : wcode W H C K B = 0
 ·have hw':=hw
  obtain ⟨w,h,rfl,rfl,U⟩:=waters_of hw
  rw [if_pos hw']
  simp only [if_pos (of_land U.land),Int.toNat_natCast]
  refine Ev.pos hw' ?_
  rw [U.len]
  refine areas_l0 U (w * h) 0 (List.replicate (w * h) (-1)) (by omega) (by simp) (fun j hj => ?_) [] ?_
  ·rw [rep_at _ _ _ hj];unfold lab;rw [if_neg (by omega)]
  ·intro t ht
   rw [rep_at _ _ _ ht]
   exact ⟨rfl,fun q => absurd q (by decide)⟩
 ·rw [if_neg hw]
  by_cases l : lcode W H C = 0
  ·simp only [if_pos l];exact Ev.neg hw (Ev.now _)
  ·simp only [if_neg l];exact Ev.neg hw (Ev.now _)
theorem areas_len {W H : Int} {C K B : List Int} (hK : K.length ≤ 4000) : (areasR W H C K B).1.length ≤ 4000 := by
 unfold areasR
 by_cases hw : wcode W H C K B = 0
 ·have hw':=hw
  obtain ⟨w,h,rfl,rfl,U⟩:=waters_of hw
  rw [if_pos hw']
  have:=U.len
  simp only [Int.toNat_natCast,parts_len]
  omega
 ·rw [if_neg hw];simp
end Go.Proofs.Ytiencnnkphipoaa.Pure
