/- Layer 17: a truck's tick, on both sides. No conditions. -/
import Derived.Test.YthjmdpekcleihaaPx0
import Derived.Test.YthjmdpekcleihaaPx7
import Derived.Test.YthjmdpekcleihaaPx8
import Derived.Test.YthjmdpekcleihaaPx12
import Derived.Test.YthjmdpekcleihaaLaneA
namespace Go.Proofs.Ythjmdpekcleihaa.Pure
set_option linter.unusedVariables false
set_option linter.unusedSimpArgs false
open Go.RowKit Go.Proofs.YthjmdpekcleihaaW.PrintWords Go.Proofs.Ythjmdpekcleihaa.P Go.Proofs.Ythjmdpekcleihaa

theorem less_eq (a b:Int):cmp_Less_int.f a b = some (decide (a < b)) := by
 unfold cmp_Less_int.f cmp_isNaN_int.f
 rw [Option.bind_some,show (a != a) = false from bne_eq_false_iff_eq.2 rfl,if_neg (by simp)]
section
variable {W H : Int} {A Y C : List Int} {T : List S50}
theorem sorted_lt (hs:Sorted C):∀ j i,i < j → j < C.length → C.getD i 0 < C.getD j 0
 | 0,i,h,_=>by omega
 | j + 1,i,h,hj=>by
  have h1:=hs (j + 1) (by omega) hj (by omega)
  rw [Nat.add_sub_cancel] at h1
  by_cases e:i = j
  ·rw [e];exact h1
  ·exact Int.lt_trans (sorted_lt hs j i (by omega) (by omega)) h1
def Has (C : List Int) (v : Int) : Prop := ∃ j, j < C.length ∧ C.getD j 0 = v
theorem mid_eq {x y:Int} (h0:0 ≤ x) (h1:0 ≤ y) (h2:x ≤ 4000) (h3:y ≤ 4000):wrap64 ((IntKind.u64.wrap (wrap64 (x + y))) / 2) = (x + y) / 2 := by
 rw [wrap_in (x:=x + y) (by omega) (by omega),show IntKind.u64.wrap (x + y) = x + y by simp [IntKind.wrap,IntKind.bits,IntKind.signed];omega,wrap_in (by omega) (by omega)]
open Classical in
theorem bs_ev (hs:Sorted C) (hC:C.length ≤ 4000) (v:Int):∃ p,Ev (fun k => slices_BinarySearch_int_int.f k C v) (p,decide (Has C v)) := by
 unfold slices_BinarySearch_int_int.f
 have key:∀ d lo hi:Nat,hi - lo ≤ d → lo ≤ hi → hi ≤ C.length → (∀ j,j < lo → C.getD j 0 < v) → (∀ j,hi ≤ j → j < C.length → v ≤ C.getD j 0) → ∃ p,Ev (fun k=>slices_BinarySearch_int_int.l0 k C v (C.length:Int) (lo:Int) (hi:Int)) (p,decide (Has C v)):=by
  intro d
  induction d with
  | zero =>
   intro lo hi hd hl hh h1 h2
   obtain rfl:lo = hi:=by omega
   by_cases e:lo < C.length
   ·by_cases c:C.getD lo 0 = v
    ·refine ⟨(lo:Int),Ev.step (fun k=>by simp only [slices_BinarySearch_int_int.l0];rfl) (Ev.neg (by omega) (Ev.pos (by omega) (Ev.pos (by omega) (Ev.pos (by omega) ?_))))⟩
     rw [rdN,decide_eq_true (show Has C v from ⟨lo,e,c⟩)]
     exact Ev.pos c (Ev.now _)
    ·refine ⟨(lo:Int),Ev.step (fun k=>by simp only [slices_BinarySearch_int_int.l0];rfl) (Ev.neg (by omega) (Ev.pos (by omega) (Ev.pos (by omega) (Ev.pos (by omega) ?_))))⟩
     rw [rdN]
     refine Ev.neg c (Ev.bindc (show slices_isNaN_int.f (C.getD lo 0) = some false by unfold slices_isNaN_int.f;rw [show (C.getD lo 0 != C.getD lo 0) = false from bne_eq_false_iff_eq.2 rfl]) (Ev.neg (by simp) ?_))
     rw [decide_eq_false (show ¬ Has C v from ?_)]
     ·exact Ev.now _
     ·rintro ⟨j,hj,e2⟩
      rcases Nat.lt_trichotomy j lo with q | q | q
      ·have:=h1 j q;omega
      ·rw [q] at e2;exact c e2
      ·have q1:=sorted_lt hs j lo q hj
       have q2:=h2 lo (Nat.le_refl _) e
       omega
   ·refine ⟨(lo:Int),Ev.step (fun k=>by simp only [slices_BinarySearch_int_int.l0];rfl) (Ev.neg (by omega) (Ev.neg (by omega) ?_))⟩
    rw [decide_eq_false (show ¬ Has C v from ?_)]
    ·exact Ev.now _
    ·rintro ⟨j,hj,e2⟩
     have:=h1 j (by omega);omega
  | succ d ih =>
   intro lo hi hd hl hh h1 h2
   by_cases e:lo = hi
   ·exact ih lo hi (by omega) hl hh h1 h2
   have hm:((lo:Int) + (hi:Int)) / 2 = (((lo + hi) / 2:Nat):Int):=by omega
   by_cases c:C.getD ((lo + hi) / 2) 0 < v
   ·obtain ⟨p,hp⟩:=ih ((lo + hi) / 2 + 1) hi (by omega) (by omega) hh (fun j hj=>by
     by_cases q:j = (lo + hi) / 2
     ·rw [q];exact c
     ·exact Int.lt_trans (sorted_lt hs _ j (by omega) (by omega)) c) h2
    refine ⟨p,Ev.step (fun k=>by simp only [slices_BinarySearch_int_int.l0];rfl) (Ev.pos (by omega) ?_)⟩
    rw [mid_eq (by omega) (by omega) (by omega) (by omega),hm,rdN,wrap_in (x:=(((lo + hi) / 2:Nat):Int) + 1) (by omega) (by omega)]
    exact Ev.pos (by omega) (Ev.pos (by omega) (Ev.bindc (less_eq _ _) (Ev.pos (decide_eq_true c) hp)))
   ·obtain ⟨p,hp⟩:=ih lo ((lo + hi) / 2) (by omega) (by omega) (by omega) h1 (fun j hj hj2=>by
     by_cases q:j = (lo + hi) / 2
     ·rw [q];omega
     ·have:=sorted_lt hs j ((lo + hi) / 2) (by omega) hj2;omega)
    refine ⟨p,Ev.step (fun k=>by simp only [slices_BinarySearch_int_int.l0];rfl) (Ev.pos (by omega) ?_)⟩
    rw [mid_eq (by omega) (by omega) (by omega) (by omega),hm,rdN]
    exact Ev.pos (by omega) (Ev.pos (by omega) (Ev.bindc (less_eq _ _) (Ev.neg (fun q=>c (of_decide_eq_true q)) hp)))
 obtain ⟨p,hp⟩:=key C.length 0 C.length (by omega) (by omega) (Nat.le_refl _) (fun j hj=>by omega) (fun j h1 h2=>by omega)
 exact ⟨p,hp⟩
open Classical in
theorem in_ev (hC:C.length ≤ 4000) (v:Int):Ev (fun k => hinterlandref17_in.f k C v) (decide (Has C v)) := by
 unfold hinterlandref17_in.f
 have good:∀ j,j < C.length → ¬ C.getD j 0 = v → ∀ r,Ev (fun k=>hinterlandref17_in.l0 k C v ((j:Int) + 1)) r → Ev (fun k=>hinterlandref17_in.l0 k C v (j:Int)) r:=by
  intro j hj hp r hr
  refine Ev.step (fun k=>by simp only [hinterlandref17_in.l0];rfl) (Ev.pos (by omega) (Ev.pos (by omega) ?_))
  rw [rdN,wrap_in (x:=(j:Int) + 1) (by omega) (by omega)]
  exact Ev.neg hp hr
 have bad:∀ j,j < C.length → ¬ ¬ C.getD j 0 = v → Ev (fun k=>hinterlandref17_in.l0 k C v (j:Int)) true:=by
  intro j hj hp
  refine Ev.step (fun k=>by simp only [hinterlandref17_in.l0];rfl) (Ev.pos (by omega) (Ev.pos (by omega) ?_))
  rw [rdN]
  exact Ev.pos (Classical.not_not.1 hp) (Ev.now _)
 by_cases c:Has C v
 ·rw [decide_eq_true c]
  obtain ⟨j,j1,j2⟩:=c
  exact Ev.scan_some (g:=fun k j=>hinterlandref17_in.l0 k C v j) good bad C.length 0 (by omega) ⟨j,by omega,j1,fun h=>h j2⟩
 ·rw [decide_eq_false c]
  exact Ev.scan_all (g:=fun k j=>hinterlandref17_in.l0 k C v j) (Ev.step (fun k=>by simp only [hinterlandref17_in.l0];rfl) (Ev.neg (by omega) (Ev.now _))) good C.length 0 (by omega) (fun j _ hj h=>c ⟨j,hj,h⟩)
structure Steady (W H : Int) (A : List Int) (T : List S50) : Prop where
 m:Movs T
 t:Tiles W H T
 j:Joins W H A T
open Classical in
noncomputable def stp (W H : Int) (A Y C : List Int) (T : List S50) (i : Nat) (g : Int) : Int × List S50 :=
 if (T.getD i z50).f0 = -1 then (0,T) else
 if (T.getD i z50).f4 + (T.getD i z50).f3 < 192 then (0,T.set i ⟨(T.getD i z50).f0,(T.getD i z50).f1,(T.getD i z50).f2,(T.getD i z50).f3,(T.getD i z50).f4 + (T.getD i z50).f3⟩) else
 if (chz W H A Y (bside W (T.getD i z50).f0 (T.getD i z50).f2) (opp (T.getD i z50).f2) g).2 = true ∧ ¬ Has C (bside W (T.getD i z50).f0 (T.getD i z50).f2) ∧ ¬ Tk T i (bside W (T.getD i z50).f0 (T.getD i z50).f2) (chz W H A Y (bside W (T.getD i z50).f0 (T.getD i z50).f2) (opp (T.getD i z50).f2) g).1 then
  (if bside W (T.getD i z50).f0 (T.getD i z50).f2 = g then (3,T.set i ⟨bside W (T.getD i z50).f0 (T.getD i z50).f2,opp (T.getD i z50).f2,(chz W H A Y (bside W (T.getD i z50).f0 (T.getD i z50).f2) (opp (T.getD i z50).f2) g).1,(T.getD i z50).f3,0⟩)
  else (0,T.set i ⟨bside W (T.getD i z50).f0 (T.getD i z50).f2,opp (T.getD i z50).f2,(chz W H A Y (bside W (T.getD i z50).f0 (T.getD i z50).f2) (opp (T.getD i z50).f2) g).1,(T.getD i z50).f3,(T.getD i z50).f4 + (T.getD i z50).f3 - 192⟩))
 else (1,T.set i ⟨(T.getD i z50).f0,(T.getD i z50).f1,(T.getD i z50).f2,0,191⟩)
theorem tk_set (i:Nat) (y:S50) (t s:Int):Tk (T.set i y) i t s ↔ Tk T i t s := by
 unfold Tk
 rw [List.length_set]
 constructor
 ·rintro ⟨k,k1,k2,k3,k4⟩
  rw [show (T.set i y).getD k z50 = T.getD k z50 by simp [List.getD,List.getElem?_set,Ne.symm k2]] at k3 k4
  exact ⟨k,k1,k2,k3,k4⟩
 ·rintro ⟨k,k1,k2,k3,k4⟩
  refine ⟨k,k1,k2,?_⟩
  rw [show (T.set i y).getD k z50 = T.getD k z50 by simp [List.getD,List.getElem?_set,Ne.symm k2]]
  exact ⟨k3,k4⟩
open Classical in
theorem step_ev (h:Good W H A Y) (hs:Sorted C) (hC:C.length ≤ 4000) (hT:T.length ≤ 1000) (q:Steady W H A T) {i:Nat} (hi:i < T.length) (g:Int):Ev (fun k => lane_step.f k W H A Y C T (i:Int) g) (stp W H A Y C T i g) := by
 unfold lane_step.f stp
 refine Ev.pos (by omega) (Ev.pos (by omega) ?_)
 simp only [rdT,Int.toNat_natCast]
 by_cases h0:(T.getD i z50).f0 = -1
 ·exact Ev.eq (Ev.pos h0 (Ev.now _)) (if_pos h0).symm
 refine Ev.eq (Ev.neg h0 ?_) (if_neg h0).symm
 have ht:=(q.t i (by omega) hi).resolve_left h0
 have hm:=q.m i (by omega) hi
 unfold Mov at hm
 rw [if_neg h0] at hm
 have hj:=(q.j i (by omega) hi).resolve_left h0
 rw [wrap_in (x:=(T.getD i z50).f4 + (T.getD i z50).f3) (by omega) (by omega)]
 by_cases hu:(T.getD i z50).f4 + (T.getD i z50).f3 < 192
 ·exact Ev.eq (Ev.pos hu (Ev.now _)) (if_pos hu).symm
 refine Ev.eq (Ev.neg hu (Ev.bindc (beside_eq (h.on ht) hm.2.1) ?_)) (if_neg hu).symm
 have hb:=(meets_at h ht (T.getD i z50).f2).resolve_left (by omega)
 have hbe:bside W (T.getD i z50).f0 (T.getD i z50).f2 = bey W H (T.getD i z50).f0 (T.getD i z50).f2:=bside_bey (by omega)
 have hto:0 ≤ bside W (T.getD i z50).f0 (T.getD i z50).f2 ∧ bside W (T.getD i z50).f0 (T.getD i z50).f2 < W * H:=by rw [hbe];omega
 rw [show Int.tmod (wrap64 ((T.getD i z50).f2 + 2)) 4 = opp (T.getD i z50).f2 from rfl]
 refine Ev.bind (choose_ev h hto (by have:=(opp_at hm.2.1).1;omega)) ?_
 obtain ⟨p,hp⟩:=bs_ev hs hC (bside W (T.getD i z50).f0 (T.getD i z50).f2)
 refine Ev.bind hp ?_
 by_cases c1:Has C (bside W (T.getD i z50).f0 (T.getD i z50).f2)
 ·exact Ev.eq (Ev.pos (decide_eq_true c1) (Ev.now _)) (if_neg (fun e=>e.2.1 c1)).symm
 refine Ev.neg (fun e=>c1 (of_decide_eq_true e)) ?_
 by_cases c2:(chz W H A Y (bside W (T.getD i z50).f0 (T.getD i z50).f2) (opp (T.getD i z50).f2) g).2 = true
 rotate_left
 ·exact Ev.eq (Ev.neg c2 (Ev.now _)) (if_neg (fun e=>c2 e.1)).symm
 refine Ev.pos c2 (Ev.bind (held_ev (by rw [List.length_set];exact hT) i _ _ W H A Y C) ?_)
 by_cases c3:Tk T i (bside W (T.getD i z50).f0 (T.getD i z50).f2) (chz W H A Y (bside W (T.getD i z50).f0 (T.getD i z50).f2) (opp (T.getD i z50).f2) g).1
 ·exact Ev.eq (Ev.pos (decide_eq_true ((tk_set i _ _ _).2 c3)) (Ev.now _)) (if_neg (fun e=>e.2.2 c3)).symm
 refine Ev.eq (Ev.neg (fun e=>c3 ((tk_set i _ _ _).1 (of_decide_eq_true e))) ?_) (if_pos ⟨c2,c1,c3⟩).symm
 by_cases c4:bside W (T.getD i z50).f0 (T.getD i z50).f2 = g
 ·exact Ev.eq (Ev.pos c4 (Ev.now _)) (if_pos c4).symm
 ·refine Ev.eq (Ev.neg c4 (Ev.now _)) ?_
  rw [if_neg c4,wrap_in (by omega) (by omega)]
open Classical in
theorem ref_step_ev (h:Good W H A Y) (hC:C.length ≤ 4000) (hT:T.length ≤ 1000) (q:Steady W H A T) {i:Nat} (hi:i < T.length) (g:Int):Ev (fun k => hinterlandref17_step.f k W H A Y C T (i:Int) g) (stp W H A Y C T i g) := by
 unfold hinterlandref17_step.f stp
 refine Ev.pos (by omega) (Ev.pos (by omega) ?_)
 simp only [rdT,Int.toNat_natCast]
 by_cases h0:(T.getD i z50).f0 = -1
 ·exact Ev.eq (Ev.pos (by omega) (Ev.now _)) (if_pos h0).symm
 have ht:=(q.t i (by omega) hi).resolve_left h0
 refine Ev.eq (Ev.neg (by omega) ?_) (if_neg h0).symm
 have hm:=q.m i (by omega) hi
 unfold Mov at hm
 rw [if_neg h0] at hm
 have hj:=(q.j i (by omega) hi).resolve_left h0
 rw [wrap_in (x:=(T.getD i z50).f4 + (T.getD i z50).f3) (by omega) (by omega)]
 by_cases hu:(T.getD i z50).f4 + (T.getD i z50).f3 < 192
 ·exact Ev.eq (Ev.neg (by omega) (Ev.now _)) (if_pos hu).symm
 refine Ev.eq (Ev.pos (by omega) (Ev.bindc (ref_beyond_eq (h.on ht) hm.2.1 A Y) ?_)) (if_neg hu).symm
 have hb:=(meets_at h ht (T.getD i z50).f2).resolve_left (by omega)
 have hbe:bside W (T.getD i z50).f0 (T.getD i z50).f2 = bey W H (T.getD i z50).f0 (T.getD i z50).f2:=bside_bey (by omega)
 have hto:0 ≤ bside W (T.getD i z50).f0 (T.getD i z50).f2 ∧ bside W (T.getD i z50).f0 (T.getD i z50).f2 < W * H:=by rw [hbe];omega
 rw [show Int.tmod (wrap64 ((T.getD i z50).f2 + 2)) 4 = opp (T.getD i z50).f2 from rfl]
 refine Ev.bind (ref_choose_ev h hto (by have:=(opp_at hm.2.1).1;omega)) ?_
 have no:∀ s,Ev (fun k=>hinterlandref17_step.j0 k (i:Int) g 0 (bside W (T.getD i z50).f0 (T.getD i z50).f2) (opp (T.getD i z50).f2) s false W H A Y C T (T.getD i z50).f0 (T.getD i z50).f1 (T.getD i z50).f2 (T.getD i z50).f3 ((T.getD i z50).f4 + (T.getD i z50).f3)) (1,T.set i ⟨(T.getD i z50).f0,(T.getD i z50).f1,(T.getD i z50).f2,0,191⟩):=by
  intro s
  refine Ev.step (fun k=>by simp only [hinterlandref17_step.j0];rfl) (Ev.neg (by simp) (Ev.pos (by omega) (Ev.pos (by omega) ?_)))
  rw [Int.toNat_natCast]
  exact Ev.now _
 by_cases c2:(chz W H A Y (bside W (T.getD i z50).f0 (T.getD i z50).f2) (opp (T.getD i z50).f2) g).2 = true
 rotate_left
 ·exact Ev.eq (Ev.neg c2 (no _)) (if_neg (fun e=>c2 e.1)).symm
 refine Ev.pos c2 (Ev.bind (in_ev hC _) ?_)
 by_cases c1:Has C (bside W (T.getD i z50).f0 (T.getD i z50).f2)
 ·exact Ev.eq (Ev.pos (decide_eq_true c1) (no _)) (if_neg (fun e=>e.2.1 c1)).symm
 refine Ev.neg (fun e=>c1 (of_decide_eq_true e)) (Ev.bind (taken_ev hT i _ _ W H A Y C) ?_)
 by_cases c3:Tk T i (bside W (T.getD i z50).f0 (T.getD i z50).f2) (chz W H A Y (bside W (T.getD i z50).f0 (T.getD i z50).f2) (opp (T.getD i z50).f2) g).1
 ·rw [show (!decide (0 ≤ bside W (T.getD i z50).f0 (T.getD i z50).f2 ∧ Tk T i (bside W (T.getD i z50).f0 (T.getD i z50).f2) (chz W H A Y (bside W (T.getD i z50).f0 (T.getD i z50).f2) (opp (T.getD i z50).f2) g).1)) = false by rw [decide_eq_true ⟨hto.1,c3⟩];rfl]
  exact Ev.eq (no _) (if_neg (fun e=>e.2.2 c3)).symm
 rw [show (!decide (0 ≤ bside W (T.getD i z50).f0 (T.getD i z50).f2 ∧ Tk T i (bside W (T.getD i z50).f0 (T.getD i z50).f2) (chz W H A Y (bside W (T.getD i z50).f0 (T.getD i z50).f2) (opp (T.getD i z50).f2) g).1)) = true by rw [decide_eq_false (fun e=>c3 e.2)];rfl]
 refine Ev.eq ?_ (if_pos ⟨c2,c1,c3⟩).symm
 refine Ev.step (fun k=>by simp only [hinterlandref17_step.j0];rfl) (Ev.pos trivial ?_)
 rw [wrap_in (x:=(T.getD i z50).f4 + (T.getD i z50).f3 - 192) (by omega) (by omega),Int.toNat_natCast]
 by_cases c4:bside W (T.getD i z50).f0 (T.getD i z50).f2 = g
 ·exact Ev.eq (Ev.pos c4 (Ev.pos (by omega) (Ev.pos (by omega) (Ev.now _)))) (if_pos c4).symm
 ·exact Ev.eq (Ev.neg c4 (Ev.pos (by omega) (Ev.pos (by omega) (Ev.now _)))) (if_neg c4).symm
theorem pick_mem (fv:Int → Int):∀ l b x,pick fv l b x ∈ l ∨ pick fv l b x = b
 | [],b,x=>.inr rfl
 | s :: r,b,x=>by
  have k1:pick fv r s (fv s) ∈ s :: r:=by
   rcases pick_mem fv r s (fv s) with h | h
   ·exact List.mem_cons_of_mem _ h
   ·rw [h];exact List.mem_cons_self
  have k2:pick fv r b x ∈ s :: r ∨ pick fv r b x = b:=by
   rcases pick_mem fv r b x with h | h
   ·exact .inl (List.mem_cons_of_mem _ h)
   ·exact .inr h
  unfold pick
  repeat' split
  all_goals first | exact .inl k1 | exact k2
theorem chz_mem {t f g:Int} (hc:(chz W H A Y t f g).2 = true):(chz W H A Y t f g).1 ∈ outs W H A Y t f := by
 unfold chz at hc ⊢
 split at hc
 ·cases hc
 ·rename_i c
  rw [if_neg c]
  rcases pick_mem (fun s=>farv W H A Y t s g) (outs W H A Y t f) ((outs W H A Y t f).getD 0 0) (-1) with h | h
  ·exact h
  ·show pick _ _ _ _ ∈ _
   rw [h]
   cases e:outs W H A Y t f with
   | nil=>exact absurd e c
   | cons a l=>exact List.mem_cons_self
theorem Steady.set (q:Steady W H A T) (i:Nat) {y:S50} (hm:Mov y) (ht:y.f0 = -1 ∨ (0 ≤ y.f0 ∧ y.f0 < W * H)) (hj:y.f0 = -1 ∨ 0 ≤ meets W H A y.f0 y.f2):Steady W H A (T.set i y) := by
 have at_:∀ j,j < T.length → (T.set i y).getD j z50 = if i = j then y else T.getD j z50:=by
  intro j hj
  by_cases e:i = j
  ·subst e;rw [if_pos rfl];simp [List.getD,hj]
  ·rw [if_neg e];simp [List.getD,List.getElem?_set,e]
 refine ⟨fun j h0 h1=>?_,fun j h0 h1=>?_,fun j h0 h1=>?_⟩
 all_goals
  rw [List.length_set] at h1
  rw [at_ j h1]
  split
 ·exact hm
 ·exact q.m j h0 h1
 ·exact ht
 ·exact q.t j h0 h1
 ·exact hj
 ·exact q.j j h0 h1
theorem stp_len (W H:Int) (A Y C:List Int) (T:List S50) (i:Nat) (g:Int):(stp W H A Y C T i g).2.length = T.length := by
 unfold stp
 repeat' split
 all_goals first | rfl | exact List.length_set ..
theorem stp_steady (h:Good W H A Y) (q:Steady W H A T) {i:Nat} (hi:i < T.length) (C:List Int) (g:Int):Steady W H A (stp W H A Y C T i g).2 := by
 have hm:=q.m i (by omega) hi
 by_cases h0:(T.getD i z50).f0 = -1
 ·unfold stp;rw [if_pos h0];exact q
 have ht:=(q.t i (by omega) hi).resolve_left h0
 have hj:=(q.j i (by omega) hi).resolve_left h0
 unfold Mov at hm
 rw [if_neg h0] at hm
 have hb:=(meets_at h ht (T.getD i z50).f2).resolve_left (by omega)
 have hbe:bside W (T.getD i z50).f0 (T.getD i z50).f2 = bey W H (T.getD i z50).f0 (T.getD i z50).f2:=bside_bey (by omega)
 have hto:0 ≤ bside W (T.getD i z50).f0 (T.getD i z50).f2 ∧ bside W (T.getD i z50).f0 (T.getD i z50).f2 < W * H:=by rw [hbe];omega
 have ho:=(opp_at hm.2.1).1
 have mv:∀ a b c d e,¬ a = -1 → -1 ≤ b → b ≤ 3 → 0 ≤ c → c ≤ 3 → 0 ≤ d → d ≤ 192 → 0 ≤ e → e ≤ 191 → Mov ⟨a,b,c,d,e⟩:=by
  intro a b c d e k0 k1 k2 k3 k4 k5 k6 k7 k8
  unfold Mov
  rw [if_neg k0]
  exact ⟨⟨k1,k2⟩,⟨k3,k4⟩,⟨k5,k6⟩,k7,k8⟩
 unfold stp
 rw [if_neg h0]
 split
 ·exact q.set i (mv _ _ _ _ _ h0 hm.1.1 hm.1.2 hm.2.1.1 hm.2.1.2 hm.2.2.1.1 hm.2.2.1.2 (by omega) (by omega)) (.inr ht) (.inr hj)
 split
 ·rename_i hu c
  have hx:=outs_mem (by omega) (chz_mem c.1)
  have hme:0 ≤ meets W H A (bside W (T.getD i z50).f0 (T.getD i z50).f2) (chz W H A Y (bside W (T.getD i z50).f0 (T.getD i z50).f2) (opp (T.getD i z50).f2) g).1:=by
   have:=hx.2
   unfold may at this
   simp only [Bool.and_eq_true,decide_eq_true_eq] at this
   exact this.1.1
  split
  ·exact q.set i (mv _ _ _ _ _ (by omega) (by omega) (by omega) hx.1.1 hx.1.2 hm.2.2.1.1 hm.2.2.1.2 (by omega) (by omega)) (.inr hto) (.inr hme)
  ·exact q.set i (mv _ _ _ _ _ (by omega) (by omega) (by omega) hx.1.1 hx.1.2 hm.2.2.1.1 hm.2.2.1.2 (by omega) (by omega)) (.inr hto) (.inr hme)
 ·exact q.set i (mv _ _ _ _ _ h0 hm.1.1 hm.1.2 hm.2.1.1 hm.2.1.2 (by omega) (by omega) (by omega) (by omega)) (.inr ht) (.inr hj)
theorem steady_of (hl:lcode W H A Y C T = 0):Steady W H A T := by
 obtain ⟨_,_,_,h1,h2,h3,_⟩:=lcode_zero hl
 exact ⟨h1,h2,h3⟩
end
end Go.Proofs.Ythjmdpekcleihaa.Pure
