/- Layer 6, WaterDigsBack (P6.2): what was dug can be filled at once, and gives the waters that were. No conditions. -/
import Derived.Test.YtiencnnkphipoaaPSWaterDigsBack
import Derived.Test.YtiencnnkphipoaaWaterD
import Derived.Test.YtiencnnkphipoaaWaterF
namespace Go.Proofs.Ytiencnnkphipoaa.Pure
set_option linter.unusedVariables false
set_option linter.unusedSimpArgs false
open Go.RowKit Go.Proofs.YtiencnnkphipoaaW.PrintWords Go.Proofs.Ytiencnnkphipoaa.P Go.Proofs.Ytiencnnkphipoaa

theorem WaterDigsBack : hinterlandlaw06_WaterDigsBack.Pure := by
 intro W H C K B t k0 _ _ _ _ _ _ _
 refine Ev.rounds ?_
 unfold hinterlandlaw06_WaterDigsBack.f
 refine Ev.bindc (large_eq _ _ _ _ _) ?_
 by_cases hfar : (C.length : Int) > 4000 ∨ (K.length : Int) > 4000 ∨ (B.length : Int) > 4000
 ·exact Ev.pos (decide_eq_true hfar) known_then
 refine Ev.neg (fun h => hfar (of_decide_eq_true h)) ?_
 have hC : C.length ≤ 4000:=by omega
 have hK : K.length ≤ 4000:=by omega
 have hB : B.length ≤ 4000:=by omega
 refine Ev.bind (dig_ev hC hK hB) ?_
 by_cases e : (digR W H C K B t k0).2.2.2 = 0
 ·refine Ev.pos e ?_
  obtain ⟨w,h,n,rfl,rfl,rfl,hn,U,k1,z0,l0,r⟩:=dig_ok e
  rw [r]
  have U2:=set_waters U hn (k:=k0) (by omega) l0 (fun k => by omega)
  have hKl:=U.len
  have fr : fillR (w : Int) (h : Int) C (K.set n k0) B (n : Int) = (K,B,250,0):=by
   unfold fillR
   rw [if_pos (of_acode U2 hn)]
   simp only [Int.toNat_natCast]
   have s0 : (K.set n k0).getD n 0 = k0:=by rw [set_at,if_pos ⟨rfl,by omega⟩]
   rw [s0,if_neg (by omega)]
   have hno : ¬ (sea w C n = false ∧ has B (n : Int)):=by
    rintro ⟨hs,hm⟩
    obtain ⟨j,hj,hb⟩:=mem_at hm
    have:=U.wetB j (Nat.zero_le _) hj
    unfold WetAt wet at this
    rw [hb,Int.toNat_natCast,hs,z0] at this
    simp at this
   rw [if_neg hno,List.set_set]
   have : K.set n 0 = K:=by
    apply List.ext_getElem
    ·simp
    ·intro i h1 h2
     rw [List.getElem_set]
     split
     ·rename_i hi
      have:=z0
      rw [List.getD_eq_getElem?_getD,List.getElem?_eq_getElem (by omega)] at this
      subst hi
      simpa using this.symm
     ·rfl
   rw [this]
  have fe:=fill_ev (W:=(w : Int)) (H:=(h : Int)) (C:=C) (K:=K.set n k0) (B:=B) (t:=(n : Int)) hC (by simpa using hK) hB
  rw [fr] at fe
  refine Ev.bind fe (Ev.pos rfl (Ev.bind (same_waters_ev K B (by omega) (by omega)) (Ev.pos rfl (Ev.pos ?_ (Ev.bind known_ev (Ev.step (fun k => by simp only [hinterlandlaw06_WaterDigsBack.j1] <;> rfl) (Ev.now _)))))))
  show wrap64 (2 * 250) ≤ costOf k0
  unfold costOf
  rw [wrap_in (by decide) (by decide)]
  split
  ·decide
  ·split <;> decide
 ·refine Ev.neg e ?_
  have c0 : (digR W H C K B t k0).2.2.1 = 0:=by
   unfold digR at e ⊢
   repeat' split
   all_goals first | rfl | skip
   all_goals simp_all
  exact Ev.pos c0 (Ev.bind known_ev (Ev.step (fun k => by simp only [hinterlandlaw06_WaterDigsBack.j0] <;> rfl) (Ev.now _)))

end Go.Proofs.Ytiencnnkphipoaa.Pure
