/- What the functions of layer 6 (waters) come to, in plain words: filling. No conditions. -/
import Derived.Test.YtiencnnkphipoaaPx0
import Derived.Test.YtiencnnkphipoaaPx19
import Derived.Test.YtiencnnkphipoaaPx20
import Derived.Test.YtiencnnkphipoaaPx21
import Derived.Test.YtiencnnkphipoaaWater6
namespace Go.Proofs.Ytiencnnkphipoaa.Pure
set_option linter.unusedVariables false
set_option linter.unusedSimpArgs false
open Go.RowKit Go.Proofs.YtiencnnkphipoaaW.PrintWords Go.Proofs.YtiencnnkphipoaaW.PrintMore Go.Proofs.Ytiencnnkphipoaa.P Go.Proofs.Ytiencnnkphipoaa

theorem index_ev (B : List Int) (n : Int) (hB : B.length ≤ 8000) : Ev (fun k => slices_Contains_int_int.f k B n) (decide (has B n)) := by
 unfold slices_Contains_int_int.f slices_Index_int_int.f
 have go : ∀ d i,i + d = B.length → Ev (fun k => (slices_Index_int_int.l0 k B n (B.length : Int) (i : Int)).bind fun t => some (decide (t ≥ 0))) (decide (n ∈ B.drop i)):=by
  intro d
  induction d with
  | zero =>
   intro i e
   rw [List.drop_eq_nil_of_le (by omega)]
   exact Ev.bind (Ev.step (fun k => by simp only [slices_Index_int_int.l0];rfl) (Ev.neg (by omega) (Ev.now _))) (Ev.const (by simp))
  | succ d ih =>
   intro i e
   have hd:=drop_at (B:=B) (i:=i) (by omega)
   by_cases q : n = B.getD i 0
   ·refine Ev.bind (a:=(i : Int)) (Ev.step (fun k => by simp only [slices_Index_int_int.l0];rfl) (Ev.pos (by omega) (Ev.pos (by omega) (Ev.pos (by omega) ?_)))) (Ev.const (by rw [hd,← q];simp))
    rw [rdN]
    exact Ev.pos q (Ev.now _)
   ·have:=ih (i + 1) (by omega)
    rw [show decide (n ∈ B.drop i) = decide (n ∈ B.drop (i + 1)) by rw [hd];exact decide_eq_decide.2 ⟨fun z => (List.mem_cons.1 z).resolve_left q,fun z => List.mem_cons_of_mem _ z⟩]
    obtain ⟨M,hM⟩:=this
    refine ⟨M + 1,fun k hk => ?_⟩
    obtain ⟨k,rfl⟩ : ∃ m,k = m + 1:=⟨k - 1,by omega⟩
    have:=hM k (by omega)
    simp only [slices_Index_int_int.l0]
    rw [if_pos (by omega),if_pos (by omega),if_pos (by omega),rdN,if_neg q,wrap_in (x:=(i : Int) + 1) (by omega) (by omega)]
    exact this
 exact go B.length 0 (by omega)
noncomputable def fillR (W H : Int) (C K B : List Int) (t : Int) : List Int × List Int × Int × Int :=
 if acode W H C K B t = 0 then (if K.getD t.toNat 0 = 0 then ([],[],0,2) else (if sea W.toNat C t.toNat = false ∧ has B t then ([],[],0,7) else (K.set t.toNat 0,B,250,0))) else ([],[],0,acode W H C K B t)
theorem fill_ev {W H : Int} {C K B : List Int} {t : Int} (hC : C.length ≤ 4000) (hK : K.length ≤ 4000) (hB : B.length ≤ 4000) : Ev (fun k => water_Fill.f k W H C K B t) (fillR W H C K B t) := by
 unfold water_Fill.f fillR
 refine Ev.bind (at_ev hC hB) ?_
 by_cases e : acode W H C K B t = 0
 rotate_left
 ·rw [if_neg e]
  by_cases l : lcode W H C = 0
  ·simp only [if_pos l];exact Ev.neg e (Ev.now _)
  ·simp only [if_neg l];exact Ev.neg e (Ev.now _)
 have e':=e
 obtain ⟨w,h,n,rfl,rfl,rfl,hn,U⟩:=acode_zero e
 rw [if_pos e']
 simp only [if_pos (of_land U.land),Int.toNat_natCast]
 have hKl:=U.len
 obtain ⟨l1,l2,l3⟩:=g_len (w:=w) (h:=h) (C:=C)
 refine Ev.pos e' (Ev.pos (by omega) (Ev.pos (by omega) ?_))
 rw [rdN]
 by_cases z0 : K.getD n 0 = 0
 ·exact Ev.eq (Ev.pos z0 (Ev.now _)) (if_pos z0).symm
 refine Ev.eq (Ev.neg z0 (Ev.pos (by show (n : Int) < ((gE w h C).length : Int);omega) ?_)) (if_neg z0).symm
 have fin : ∀ q,q = false → Ev (fun k => water_Fill.j0 k (n : Int) q K B) (K.set n 0,B,250,0):=by
  intro q hq
  exact Ev.step (fun k => by simp only [water_Fill.j0];rfl) (Ev.neg (by simp [hq]) (Ev.bindc (clone_eq K B (by omega) (by omega)) (Ev.pos (Int.natCast_nonneg n) (Ev.pos (by show (n : Int) < (K.length : Int);omega) (Ev.now _)))))
 have hre : rdOf false (gE w h C) (n : Int) = sea w C n:=by rw [rdB,gE_at hn]
 change Ev (fun k => if rdOf false (gE w h C) (n : Int) = true then water_Fill.j0 k (n : Int) false K B else (slices_Contains_int_int.f k B (n : Int)).bind fun t => water_Fill.j0 k (n : Int) t K B) _
 rw [hre]
 cases he : sea w C n with
 | true => rw [if_neg (by simp)];exact Ev.pos rfl (fin _ rfl)
 | false =>
  refine Ev.neg (by simp) (Ev.bind (index_ev B _ (by omega)) ?_)
  by_cases hh : has B (n : Int)
  ·rw [if_pos ⟨rfl,hh⟩]
   exact Ev.step (fun k => by simp only [water_Fill.j0];rfl) (Ev.pos (decide_eq_true hh) (Ev.now _))
  ·rw [if_neg (fun hc => hh hc.2)]
   exact fin _ (decide_eq_false hh)
theorem fill_ok {W H : Int} {C K B : List Int} {t : Int} (e : (fillR W H C K B t).2.2.2 = 0) : ∃ w h n : Nat, W = (w : Int) ∧ H = (h : Int) ∧ t = (n : Int) ∧ n < w * h ∧ Waters w h C K B ∧ ¬ (sea w C n = false ∧ has B (n : Int)) ∧ fillR W H C K B t = (K.set n 0, B, 250, 0) := by
 unfold fillR at e ⊢
 by_cases ea : acode W H C K B t = 0
 rotate_left
 ·rw [if_neg ea] at e;exact absurd e ea
 rw [if_pos ea] at e ⊢
 obtain ⟨w,h,n,rfl,rfl,rfl,hn,U⟩:=acode_zero ea
 simp only [Int.toNat_natCast] at e ⊢
 by_cases z0 : K.getD n 0 = 0
 ·rw [if_pos z0] at e;exact absurd e (by decide)
 rw [if_neg z0] at e ⊢
 by_cases l0 : sea w C n = false ∧ has B (n : Int)
 ·rw [if_pos l0] at e;exact absurd e (by decide)
 exact ⟨w,h,n,rfl,rfl,rfl,hn,U,l0,by rw [if_neg l0]⟩
theorem fill_valid {W H : Int} {C K B : List Int} {t : Int} (e : (fillR W H C K B t).2.2.2 = 0) : wcode W H C (fillR W H C K B t).1 (fillR W H C K B t).2.1 = 0 := by
 obtain ⟨w,h,n,rfl,rfl,rfl,hn,U,l0,r⟩:=fill_ok e
 rw [r]
 refine of_waters (set_waters U hn (by decide) (by simp [lie]) (fun _ j hj hb => ?_))
 cases he : sea w C n with
 | true => rfl
 | false => exact absurd ⟨he,by rw [← hb];exact at_mem hj⟩ l0
theorem fill_len {W H : Int} {C K B : List Int} {t : Int} (hK : K.length ≤ 4000) (hB : B.length ≤ 4000) : (fillR W H C K B t).1.length ≤ 4000 ∧ (fillR W H C K B t).2.1.length ≤ 4000 := by
 unfold fillR
 repeat' split
 all_goals simp <;> omega
end Go.Proofs.Ytiencnnkphipoaa.Pure
