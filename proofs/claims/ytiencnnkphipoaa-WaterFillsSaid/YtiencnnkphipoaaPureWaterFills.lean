/- Layer 6, WaterFills (P6.2): what filling does, brings and is refused for. No conditions. -/
import Derived.Test.YtiencnnkphipoaaPx0
import Derived.Test.YtiencnnkphipoaaPx8
import Derived.Test.YtiencnnkphipoaaPx15
import Derived.Test.YtiencnnkphipoaaPx19
import Derived.Test.YtiencnnkphipoaaPx20
import Derived.Test.YtiencnnkphipoaaPx21
import Derived.Test.YtiencnnkphipoaaPx22
import Derived.Test.YtiencnnkphipoaaPx23
import Derived.Test.YtiencnnkphipoaaPx24
import Derived.Test.YtiencnnkphipoaaPSWaterFills
import Derived.Test.YtiencnnkphipoaaWater6
namespace Go.Proofs.Ytiencnnkphipoaa.Pure
set_option linter.unusedVariables false
set_option linter.unusedSimpArgs false
open Go.RowKit Go.Proofs.YtiencnnkphipoaaW.PrintWords Go.Proofs.Ytiencnnkphipoaa.P Go.Proofs.Ytiencnnkphipoaa

theorem with_eq (K B : List Int) (hK : K.length ≤ 8000) (hB : B.length ≤ 8000) (t : Nat) (ht : t < K.length) (v : Int) : hinterlandref06_with.f K B (t : Int) v = some (K.set t v, B) := by
 unfold hinterlandref06_with.f
 rw [if_pos (by simp;omega)]
 simp only [Option.bind_some,List.nil_append]
 rw [if_pos (by simp;omega),if_pos (by omega),if_pos (by omega)]
 rfl
theorem index_ev (B : List Int) (n : Int) (hB : B.length ≤ 8000) : Ev (fun k => slices_Contains_int_int.f k B n) (decide (has B n)) := by
 unfold slices_Contains_int_int.f slices_Index_int_int.f
 have go : ∀ d i,i + d = B.length → Ev (fun k => (slices_Index_int_int.l0 k B n (B.length : Int) (i : Int)).bind fun t => some (decide (t ≥ 0))) (decide (n ∈ B.drop i)):=by
  intro d
  induction d with
  | zero =>
   intro i e
   rw [List.drop_eq_nil_of_le (by omega)]
   exact Ev.bind (Ev.step (fun k => by simp only [slices_Index_int_int.l0];rfl) (Ev.neg (by omega) (Ev.now _))) (Ev.const (by simp))
  | succ d ih =>
   intro i e
   have hd:=drop_at (B:=B) (i:=i) (by omega)
   by_cases q : n = B.getD i 0
   ·refine Ev.bind (a:=(i : Int)) (Ev.step (fun k => by simp only [slices_Index_int_int.l0];rfl) (Ev.pos (by omega) (Ev.pos (by omega) (Ev.pos (by omega) ?_)))) (Ev.const (by rw [hd,← q];simp))
    rw [rdN]
    exact Ev.pos q (Ev.now _)
   ·have:=ih (i + 1) (by omega)
    rw [show decide (n ∈ B.drop i) = decide (n ∈ B.drop (i + 1)) by rw [hd];exact decide_eq_decide.2 ⟨fun z => (List.mem_cons.1 z).resolve_left q,fun z => List.mem_cons_of_mem _ z⟩]
    obtain ⟨M,hM⟩:=this
    refine ⟨M + 1,fun k hk => ?_⟩
    obtain ⟨k,rfl⟩ : ∃ m,k = m + 1:=⟨k - 1,by omega⟩
    have:=hM k (by omega)
    simp only [slices_Index_int_int.l0]
    rw [if_pos (by omega),if_pos (by omega),if_pos (by omega),rdN,if_neg q,wrap_in (x:=(i : Int) + 1) (by omega) (by omega)]
    exact this
 exact go B.length 0 (by omega)
noncomputable def fillR (W H : Int) (C K B : List Int) (t : Int) : List Int × List Int × Int × Int :=
 if acode W H C K B t = 0 then (if K.getD t.toNat 0 = 0 then ([],[],0,2) else (if sea W.toNat C t.toNat = false ∧ has B t then ([],[],0,7) else (K.set t.toNat 0,B,250,0))) else ([],[],0,acode W H C K B t)
theorem fill_ev {W H : Int} {C K B : List Int} {t : Int} (hC : C.length ≤ 4000) (hK : K.length ≤ 4000) (hB : B.length ≤ 4000) : Ev (fun k => water_Fill.f k W H C K B t) (fillR W H C K B t) := by
 unfold water_Fill.f fillR
 refine Ev.bind (at_ev hC hB) ?_
 by_cases e : acode W H C K B t = 0
 rotate_left
 ·rw [if_neg e]
  by_cases l : lcode W H C = 0
  ·simp only [if_pos l];exact Ev.neg e (Ev.now _)
  ·simp only [if_neg l];exact Ev.neg e (Ev.now _)
 have e':=e
 obtain ⟨w,h,n,rfl,rfl,rfl,hn,U⟩:=acode_zero e
 rw [if_pos e']
 simp only [if_pos (of_land U.land),Int.toNat_natCast]
 have hKl:=U.len
 obtain ⟨l1,l2,l3⟩:=g_len (w:=w) (h:=h) (C:=C)
 refine Ev.pos e' (Ev.pos (by omega) (Ev.pos (by omega) ?_))
 rw [rdN]
 by_cases z0 : K.getD n 0 = 0
 ·exact Ev.eq (Ev.pos z0 (Ev.now _)) (if_pos z0).symm
 refine Ev.eq (Ev.neg z0 (Ev.pos (by show (n : Int) < ((gE w h C).length : Int);omega) ?_)) (if_neg z0).symm
 have fin : ∀ q,q = false → Ev (fun k => water_Fill.j0 k (n : Int) q K B) (K.set n 0,B,250,0):=by
  intro q hq
  exact Ev.step (fun k => by simp only [water_Fill.j0];rfl) (Ev.neg (by simp [hq]) (Ev.bindc (clone_eq K B (by omega) (by omega)) (Ev.pos (Int.natCast_nonneg n) (Ev.pos (by show (n : Int) < (K.length : Int);omega) (Ev.now _)))))
 have hre : rdOf false (gE w h C) (n : Int) = sea w C n:=by rw [rdB,gE_at hn]
 change Ev (fun k => if rdOf false (gE w h C) (n : Int) = true then water_Fill.j0 k (n : Int) false K B else (slices_Contains_int_int.f k B (n : Int)).bind fun t => water_Fill.j0 k (n : Int) t K B) _
 rw [hre]
 cases he : sea w C n with
 | true => rw [if_neg (by simp)];exact Ev.pos rfl (fin _ rfl)
 | false =>
  refine Ev.neg (by simp) (Ev.bind (index_ev B _ (by omega)) ?_)
  by_cases hh : has B (n : Int)
  ·rw [if_pos ⟨rfl,hh⟩]
   exact Ev.step (fun k => by simp only [water_Fill.j0];rfl) (Ev.pos (decide_eq_true hh) (Ev.now _))
  ·rw [if_neg (fun hc => hh hc.2)]
   exact fin _ (decide_eq_false hh)
theorem fill_ok {W H : Int} {C K B : List Int} {t : Int} (e : (fillR W H C K B t).2.2.2 = 0) : ∃ w h n : Nat, W = (w : Int) ∧ H = (h : Int) ∧ t = (n : Int) ∧ n < w * h ∧ Waters w h C K B ∧ ¬ (sea w C n = false ∧ has B (n : Int)) ∧ fillR W H C K B t = (K.set n 0, B, 250, 0) := by
 unfold fillR at e ⊢
 by_cases ea : acode W H C K B t = 0
 rotate_left
 ·rw [if_neg ea] at e;exact absurd e ea
 rw [if_pos ea] at e ⊢
 obtain ⟨w,h,n,rfl,rfl,rfl,hn,U⟩:=acode_zero ea
 simp only [Int.toNat_natCast] at e ⊢
 by_cases z0 : K.getD n 0 = 0
 ·rw [if_pos z0] at e;exact absurd e (by decide)
 rw [if_neg z0] at e ⊢
 by_cases l0 : sea w C n = false ∧ has B (n : Int)
 ·rw [if_pos l0] at e;exact absurd e (by decide)
 exact ⟨w,h,n,rfl,rfl,rfl,hn,U,l0,by rw [if_neg l0]⟩
theorem fill_valid {W H : Int} {C K B : List Int} {t : Int} (e : (fillR W H C K B t).2.2.2 = 0) : wcode W H C (fillR W H C K B t).1 (fillR W H C K B t).2.1 = 0 := by
 obtain ⟨w,h,n,rfl,rfl,rfl,hn,U,l0,r⟩:=fill_ok e
 rw [r]
 refine of_waters (set_waters U hn (by decide) (by simp [lie]) (fun _ j hj hb => ?_))
 cases he : sea w C n with
 | true => rfl
 | false => exact absurd ⟨he,by rw [← hb];exact at_mem hj⟩ l0
theorem fill_len {W H : Int} {C K B : List Int} {t : Int} (hK : K.length ≤ 4000) (hB : B.length ≤ 4000) : (fillR W H C K B t).1.length ≤ 4000 ∧ (fillR W H C K B t).2.1.length ≤ 4000 := by
 unfold fillR
 repeat' split
 all_goals simp <;> omega
theorem marked_ev (K B : List Int) (n : Int) (hB : B.length ≤ 8000) : Ev (fun k => hinterlandref06_marked.f k K B n) (decide (has B n)) := by
 unfold hinterlandref06_marked.f
 have go : ∀ d i,i + d = B.length → Ev (fun k => hinterlandref06_marked.l0 k n B (B.length : Int) (i : Int)) (decide (n ∈ B.drop i)):=by
  intro d
  induction d with
  | zero =>
   intro i e
   rw [List.drop_eq_nil_of_le (by omega)]
   exact Ev.step (fun k => by simp only [hinterlandref06_marked.l0];rfl) (Ev.neg (by omega) (Ev.const (by simp)))
  | succ d ih =>
   intro i e
   have hd:=drop_at (B:=B) (i:=i) (by omega)
   refine Ev.step (fun k => by simp only [hinterlandref06_marked.l0];rfl) (Ev.pos (by omega) (Ev.pos (by omega) (Ev.pos (by omega) ?_)))
   rw [rdN,wrap_in (x:=(i : Int) + 1) (by omega) (by omega)]
   by_cases q : B.getD i 0 = n
   ·exact Ev.pos q (Ev.const (by rw [hd,← q];simp))
   ·refine Ev.neg q (Ev.eq (by simpa using ih (i + 1) (by omega)) ?_)
    rw [hd]
    exact decide_eq_decide.2 ⟨fun z => List.mem_cons_of_mem _ z,fun z => (List.mem_cons.1 z).resolve_left (Ne.symm q)⟩
 exact go B.length 0 (by omega)
theorem ref_fill_ev {W H : Int} {C K B : List Int} {t : Int} (hC : C.length ≤ 4000) (hK : K.length ≤ 4000) (hB : B.length ≤ 4000) : Ev (fun k => hinterlandref06_Fill.f k W H C K B t) (fillR W H C K B t) := by
 unfold hinterlandref06_Fill.f fillR
 refine Ev.bind (ref_validate_ev hC hB) ?_
 by_cases hw : wcode W H C K B = 0
 rotate_left
 ·have ac : acode W H C K B t = wcode W H C K B:=by unfold acode;rw [if_neg hw]
  rw [ac,if_neg hw]
  exact Ev.neg hw (Ev.now _)
 refine Ev.pos hw ?_
 have hw':=hw
 obtain ⟨w,h,rfl,rfl,U⟩:=waters_of hw
 refine Ev.bindc (is_eq U.land t) ?_
 have ac : acode (w : Int) (h : Int) C K B t = if 0 ≤ t ∧ t < ((w * h : Nat) : Int) then 0 else 2:=by unfold acode;rw [if_pos hw',← Int.natCast_mul]
 have bad : ∀ (t : Int) q,q = true → Ev (fun k => hinterlandref06_Fill.j0 k t q (w : Int) (h : Int) C K B) ([],[],0,2):=fun t q hq => Ev.step (fun k => by simp only [hinterlandref06_Fill.j0];rfl) (Ev.pos hq (Ev.now _))
 by_cases q : 0 ≤ t ∧ t < ((w * h : Nat) : Int)
 rotate_left
 ·rw [ac,if_neg q,if_neg (by decide)]
  exact Ev.neg (fun hc => q (of_decide_eq_true hc)) (bad _ _ rfl)
 rw [ac,if_pos q,if_pos rfl]
 obtain ⟨n,rfl⟩:=Int.eq_ofNat_of_zero_le q.1
 have hn : n < w * h:=by omega
 have hKl:=U.len
 simp only [Int.toNat_natCast,Int.ofNat_eq_natCast]
 refine Ev.pos (decide_eq_true q) (Ev.pos (by omega) (Ev.pos (by omega) ?_))
 rw [rdN]
 by_cases z0 : K.getD n 0 = 0
 ·rw [if_pos z0];exact bad _ _ (beq_iff_eq.2 z0)
 rw [if_neg z0]
 refine Ev.step (fun k => by simp only [hinterlandref06_Fill.j0];rfl) (Ev.neg (by simpa using z0) (Ev.bindc (with_eq K B (by omega) (by omega) n (by omega) 0) (Ev.bind (marked_ev K B _ (by omega)) ?_)))
 by_cases hh : has B (n : Int)
 ·refine Ev.pos (decide_eq_true hh) ?_
  have kk : KAt (K.set n 0) n:=by unfold KAt;rw [set_at,if_pos ⟨rfl,by omega⟩];decide
  have mm : MayAt w C (K.set n 0) n:=by unfold MayAt;rw [set_at,if_pos ⟨rfl,by omega⟩];simp [lie]
  refine Ev.bind (ref_wet_ev U.land hn (by simpa using hKl) kk mm) ?_
  have ww : wet w C (K.set n 0) n = sea w C n:=by unfold wet;rw [set_at,if_pos ⟨rfl,by omega⟩];simp
  rw [ww]
  cases he : sea w C n with
  | true => exact Ev.eq (Ev.pos rfl (Ev.now _)) (if_neg (by simp)).symm
  | false => exact Ev.eq (Ev.neg (by simp) (Ev.now _)) (if_pos ⟨rfl,hh⟩).symm
 ·rw [if_neg (fun hc => hh hc.2)]
  exact Ev.neg (fun hc => hh (of_decide_eq_true hc)) (Ev.now _)
theorem WaterFills : hinterlandlaw06_WaterFills.Pure := by
 intro W H C K B t _ _ _ _ _ _
 refine Ev.rounds ?_
 unfold hinterlandlaw06_WaterFills.f
 refine Ev.bindc (large_eq _ _ _ _ _) ?_
 by_cases hfar : (C.length : Int) > 4000 ∨ (K.length : Int) > 4000 ∨ (B.length : Int) > 4000
 ·exact Ev.pos (decide_eq_true hfar) known_then
 refine Ev.neg (fun h => hfar (of_decide_eq_true h)) ?_
 have hC : C.length ≤ 4000:=by omega
 have hK : K.length ≤ 4000:=by omega
 have hB : B.length ≤ 4000:=by omega
 have hl:=fill_len (W:=W) (H:=H) (C:=C) (t:=t) hK hB
 have last : Ev (fun k => (hinterlandlaw06_known.f k).bind fun t => hinterlandlaw06_WaterFills.j0 k t) true:=Ev.bind known_ev (Ev.step (fun k => by simp only [hinterlandlaw06_WaterFills.j0] <;> rfl) (Ev.now _))
 refine Ev.bind (fill_ev hC hK hB) (Ev.bind (ref_fill_ev hC hK hB) (Ev.pos rfl (Ev.pos rfl (Ev.bind (same_waters_ev _ _ (by omega) (by omega)) (Ev.pos rfl ?_)))))
 by_cases e : (fillR W H C K B t).2.2.2 = 0
 ·refine Ev.pos e (Ev.bind (validate_ev hC hl.2) (Ev.pos (fill_valid e) last))
 ·exact Ev.neg e last

end Go.Proofs.Ytiencnnkphipoaa.Pure
