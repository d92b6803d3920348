/- What layer 11's growth leans on of lands, houses and sides, in plain words. No conditions. -/
import Derived.Test.YtbdijpjlgokfkaaPx0
import Derived.Test.YtbdijpjlgokfkaaPx6
import Derived.Test.YtbdijpjlgokfkaaPx7
import Derived.Test.YtbdijpjlgokfkaaPx9
import Derived.Test.YtbdijpjlgokfkaaPx12
import Derived.Test.YtbdijpjlgokfkaaPx13
import Derived.Test.YtbdijpjlgokfkaaTyL
import Derived.Test.YtbdijpjlgokfkaaTyR
import Derived.Test.YtbdijpjlgokfkaaTown0
namespace Go.Proofs.Ytbdijpjlgokfkaa.Pure
set_option linter.unusedVariables false
set_option linter.unusedSimpArgs false
open Go.RowKit Go.Proofs.YtbdijpjlgokfkaaW.PrintWords Go.Proofs.Ytbdijpjlgokfkaa.P Go.Proofs.Ytbdijpjlgokfkaa

section
variable {w h:Nat} {C:List Int}
theorem four_eq (D:L.Land w h C) {t:Nat} (ht:t<w * h):land_four.f (w:Int) (h:Int) C (t:Int)=some (⟨L.zk w C t 0,L.zk w C t 1,L.zk w C t 2,L.zk w C t 3⟩:S75):=by
 have:=D.w0
 have:=D.w1
 have hc:=L.co_lt D ht
 unfold land_four.f
 rw [if_neg (by omega),L.idx_t D ht,(L.idx_2 (L.co w t) w (by omega) (by omega)).1,(L.idx_2 (L.co w t) w (by omega) (by omega)).2,L.sucw (L.co w t) (by omega)]
 rw [if_pos (by omega),if_pos (by omega),if_pos (by omega),if_pos (by omega),if_pos (by omega),if_pos (by omega),if_pos (by omega),if_pos (by omega),L.rdN,L.rdN,L.rdN,L.rdN]
 rfl
theorem check_ok (D:L.Land w h C) {t:Nat} (ht:t<w * h) (hl:C.length≤4000):Ev (fun k=>land_check.f k (w:Int) (h:Int) C (t:Int)) 0:=by
 have hm:w * h≤32 * 32:=Nat.mul_le_mul D.w1 D.h1
 unfold land_check.f
 refine Ev.bind (L.land_ev hl) (Ev.pos (L.of_land D) ?_)
 have e:land_isTile.f (w:Int) (h:Int) C (t:Int)=some true:=by
  unfold land_isTile.f
  have hp:(t:Int)<(w:Int) * (h:Int):=by rw [← Int.natCast_mul];omega
  have hq:(w:Int) * (h:Int)≤1024:=by rw [← Int.natCast_mul];omega
  rw [if_pos (by omega),wrap_in (x:=(w:Int) * (h:Int)) (by omega) (by omega),decide_eq_true hp]
 exact Ev.bindc e (Ev.pos rfl (Ev.now _))
theorem water_ok (D:L.Land w h C) {t:Nat} (ht:t<w * h) (hl:C.length≤4000):Ev (fun k=>land_Water.f k (w:Int) (h:Int) C (t:Int)) (L.sea w C t,0):=by
 unfold land_Water.f
 refine Ev.bind (check_ok D ht hl) (Ev.pos rfl ?_)
 have e:land_wet.f (w:Int) (h:Int) C (t:Int)=some (L.sea w C t):=by
  unfold land_wet.f
  rw [four_eq D ht]
  rfl
 exact Ev.bindc e (Ev.now _)
theorem slope_step {a s:Int} {q:S75} {r:Int × Int × Int} (ha:0≤a∧a≤15) (i:Int) (hi:0≤i∧i<4) (k:Ev (fun k=>land_Slope.l0 k a (L.stp s a (ix75 q i) i) q (i+1)) r):Ev (fun k=>land_Slope.l0 k a s q i) r:=by
 refine Ev.step (fun k=>by simp only [land_Slope.l0];rfl) (Ev.pos hi.2 (Ev.pos hi.1 ?_))
 rw [wrap_in (x:=a+1) (by omega) (by omega),wrap_in (x:=i+1) (by omega) (by omega)]
 unfold L.stp at k
 by_cases h1:ix75 q i > a
 ·rw [if_pos h1] at k
  by_cases h2:ix75 q i > a+1
  ·rw [if_pos h2] at k;exact Ev.pos h1 (Ev.pos h2 k)
  ·rw [if_neg h2] at k;exact Ev.pos h1 (Ev.neg h2 k)
 ·rw [if_neg h1] at k
  by_cases h2:ix75 q i > a+1
  ·rw [if_pos h2] at k;exact Ev.neg h1 (Ev.pos h2 k)
  ·rw [if_neg h2] at k;exact Ev.neg h1 (Ev.neg h2 k)
theorem slope_ok (D:L.Land w h C) {t:Nat} (ht:t<w * h) (hl:C.length≤4000):Ev (fun k=>land_Slope.f k (w:Int) (h:Int) C (t:Int)) (L.slope w C t,L.base w C t,0):=by
 have hb:=L.base_in D ht
 unfold land_Slope.f
 refine Ev.bind (check_ok D ht hl) (Ev.pos rfl (Ev.bindc (four_eq D ht) ?_))
 refine slope_step (a:=L.base w C t) hb 0 (by decide) (slope_step hb 1 (by decide) (slope_step hb 2 (by decide) (slope_step hb 3 (by decide) ?_)))
 exact Ev.step (fun k=>by simp only [land_Slope.l0];rfl) (Ev.neg (by decide) (Ev.now _))
theorem is_ok (D:L.Land w h C) {t:Nat} (ht:t<w * h):h02_Is.f (w:Int) (h:Int) C (t:Int)=some true:=by
 rw [L.is_eq D,decide_eq_true]
 omega
theorem wet_ok (D:L.Land w h C) {t:Nat} (ht:t<w * h) (hl:C.length≤4000):Ev (fun k=>h11_wet.f k (w:Int) (h:Int) C (t:Int)) (L.sea w C t):=by
 unfold h11_wet.f h02_Water.f
 exact Ev.bind (Ev.bind (L.ref_land_ev hl) (Ev.pos (L.of_land D) (Ev.bindc (is_ok D ht) (Ev.pos rfl (Ev.bind (L.sea_ev D ht) (Ev.now _)))))) (Ev.now _)
theorem ref_slope_ok (D:L.Land w h C) {t:Nat} (ht:t<w * h) (hl:C.length≤4000):Ev (fun k=>h02_Slope.f k (w:Int) (h:Int) C (t:Int)) (L.slope w C t,L.base w C t,0):=by
 unfold h02_Slope.f
 exact Ev.bind (L.ref_land_ev hl) (Ev.pos (L.of_land D) (Ev.bindc (is_ok D ht) (Ev.pos rfl (Ev.bind (L.face_ev D ht) (Ev.now _)))))
end
theorem held_ev (W H:Int) (C:List Int) (SW SH:Int) (A Y D:List Int) (hD:D.length≤4000) (t:Int):Ev (fun k=>h11_held.f k W H C SW SH A Y D t) (decide (t ∈ D)):=by
 unfold h11_held.f
 have key:∀ (n i:Nat),i+n=D.length→Ev (fun k=>h11_held.l0 k t (i:Int) W H C SW SH A Y D) (decide (t ∈ D.drop i)):=by
  intro n
  induction n with
  | zero =>
   intro i hi
   rw [List.drop_of_length_le (by omega)]
   exact Ev.step (fun k=>by simp only [h11_held.l0];rfl) (Ev.neg (by omega) (Ev.eq (Ev.now _) (by simp)))
  | succ n ih =>
   intro i hi
   have hlt:i<D.length:=by omega
   have hr:rd D (i:Int)=D[i]:=by unfold rd;simp [List.getD_eq_getElem?_getD,List.getElem?_eq_getElem hlt]
   rw [List.drop_eq_getElem_cons hlt]
   refine Ev.step (fun k=>by simp only [h11_held.l0];rfl) (Ev.pos (by omega) (Ev.pos (by omega) ?_))
   rw [hr]
   by_cases c:D[i]=t
   ·exact Ev.pos c (Ev.eq (Ev.now _) (decide_eq_true (List.mem_cons.2 (.inl c.symm))).symm)
   ·refine Ev.neg c ?_
    rw [wrap_in (x:=(i:Int)+1) (by omega) (by omega),show (i:Int)+1=((i+1:Nat):Int) by omega]
    exact Ev.eq (ih (i+1) (by omega)) (by simp only [List.mem_cons,eq_false (Ne.symm c),false_or])
 exact Ev.eq (key D.length 0 (by omega)) (by simp)
theorem contains_ev (D:List Int) (hD:D.length≤4000) (t:Int):Ev (fun k=>sCon_int_int.f k D t) (decide (t ∈ D)):=by
 unfold sCon_int_int.f sInd_int_int.f
 have key:∀ (n i:Nat),i+n=D.length→∃ r:Int,(0≤r↔t ∈ D.drop i)∧Ev (fun k=>sInd_int_int.l0 k D t (D.length:Int) (i:Int)) r:=by
  intro n
  induction n with
  | zero =>
   intro i hi
   rw [List.drop_of_length_le (by omega)]
   exact ⟨-1,by simp,Ev.step (fun k=>by simp only [sInd_int_int.l0];rfl) (Ev.neg (by omega) (Ev.now _))⟩
  | succ n ih =>
   intro i hi
   have hlt:i<D.length:=by omega
   have hr:rd D (i:Int)=D[i]:=by unfold rd;simp [List.getD_eq_getElem?_getD,List.getElem?_eq_getElem hlt]
   rw [List.drop_eq_getElem_cons hlt]
   by_cases c:t=D[i]
   ·refine ⟨(i:Int),⟨fun _=>List.mem_cons.2 (.inl c),fun _=>by omega⟩,Ev.step (fun k=>by simp only [sInd_int_int.l0];rfl) (Ev.pos (by omega) (Ev.pos (by omega) (Ev.pos (by omega) ?_)))⟩
    rw [hr]
    exact Ev.pos c (Ev.now _)
   ·obtain ⟨r,h1,h2⟩:=ih (i+1) (by omega)
    refine ⟨r,by rw [h1,List.mem_cons];exact ⟨.inr,fun x=>x.resolve_left c⟩,Ev.step (fun k=>by simp only [sInd_int_int.l0];rfl) (Ev.pos (by omega) (Ev.pos (by omega) (Ev.pos (by omega) ?_)))⟩
    rw [hr]
    refine Ev.neg c ?_
    rw [wrap_in (x:=(i:Int)+1) (by omega) (by omega),show (i:Int)+1=((i+1:Nat):Int) by omega]
    exact h2
 obtain ⟨r,h1,h2⟩:=key D.length 0 (by omega)
 refine Ev.bind h2 (Ev.eq (Ev.now _) ?_)
 rw [List.drop_zero] at h1
 by_cases c:t ∈ D
 ·rw [decide_eq_true c,decide_eq_true (h1.2 c)]
 ·rw [decide_eq_false c,decide_eq_false (fun x=>c (h1.1 x))]
theorem has_ev (a:Int) (H:List S68) (M:List Int) (b c:Int) (hH:H.length≤4000) (t:Int):Ev (fun k=>h11_has.f k a H M b c t) (H.any (fun x=>decide (x.f0=t))):=by
 unfold h11_has.f
 have key:∀ (n i:Nat),i+n=H.length→Ev (fun k=>h11_has.l0 k t (i:Int) a H M b c) ((H.drop i).any (fun x=>decide (x.f0=t))):=by
  intro n
  induction n with
  | zero =>
   intro i hi
   rw [List.drop_of_length_le (by omega)]
   exact Ev.step (fun k=>by simp only [h11_has.l0];rfl) (Ev.neg (by omega) (Ev.eq (Ev.now _) (by simp)))
  | succ n ih =>
   intro i hi
   have hlt:i<H.length:=by omega
   have hr:rd_T68 H (i:Int)=H[i]:=by unfold rd_T68;simp [List.getD_eq_getElem?_getD,List.getElem?_eq_getElem hlt]
   rw [List.drop_eq_getElem_cons hlt]
   refine Ev.step (fun k=>by simp only [h11_has.l0];rfl) (Ev.pos (by omega) (Ev.pos (by omega) ?_))
   rw [hr]
   by_cases c:H[i].f0=t
   ·exact Ev.pos c (Ev.eq (Ev.now _) (by rw [List.any_cons,decide_eq_true c,Bool.true_or]))
   ·refine Ev.neg c ?_
    rw [wrap_in (x:=(i:Int)+1) (by omega) (by omega),show (i:Int)+1=((i+1:Nat):Int) by omega]
    exact Ev.eq (ih (i+1) (by omega)) (by rw [List.any_cons,decide_eq_false c,Bool.false_or])
 exact Ev.eq (key H.length 0 (by omega)) (by simp)
end Go.Proofs.Ytbdijpjlgokfkaa.Pure
