/- Layer 17, LaneDrives (P17.1, P17.3): over up to 60 ticks with any goals and speeds the lane stays a right one: no two trucks hold one slot, and no truck enters a closed tile. No conditions. -/
import Derived.Test.YthjmdpekcleihaaPSLaneDrives
import Derived.Test.YthjmdpekcleihaaLaneD
namespace Go.Proofs.Ythjmdpekcleihaa.Pure
set_option linter.unusedVariables false
set_option linter.unusedSimpArgs false
open Go.RowKit Go.Proofs.YthjmdpekcleihaaW.PrintWords Go.Proofs.Ythjmdpekcleihaa.P Go.Proofs.Ythjmdpekcleihaa

theorem gu8 {x:Int} (h:V.gInt .u8 x):0 ≤ x ∧ x ≤ 255 := V.gInt.u8 h
theorem rd_in {S:List Int} (hS:∀ v ∈ S,0 ≤ v ∧ v ≤ 255) (q:Int):0 ≤ rd S q ∧ rd S q ≤ 255 := by
 unfold rd
 by_cases c:q.toNat < S.length
 ·rw [List.getD_eq_getElem?_getD,List.getElem?_eq_getElem c]
  exact hS _ (List.getElem_mem c)
 ·rw [List.getD_eq_getElem?_getD,List.getElem?_eq_none (by omega)]
  decide
theorem tm_in {x m:Int} (h:0 ≤ x) (hm:0 < m):0 ≤ Int.tmod x m ∧ Int.tmod x m < m := by
 rw [Int.tmod_eq_emod_of_nonneg h]
 exact ⟨Int.emod_nonneg _ (by omega),Int.emod_lt_of_pos _ hm⟩
theorem set_out0 {l:List Int} {i j:Nat} {y:Int} (h:j ≠ i):(l.set i y).getD j 0 = l.getD j 0 := by
 rw [List.getD_eq_getElem?_getD,List.getD_eq_getElem?_getD,List.getElem?_set_ne (fun e=>h e.symm)]
theorem set_in0 {l:List Int} {i:Nat} {y:Int} (hi:i < l.length):(l.set i y).getD i 0 = y := by
 simp [List.getD_eq_getElem?_getD,hi]
theorem Sped.next {T X:List S50} (s:Sped T X) {i:Nat} (hi:i < T.length) (e:X.getD i z50 = T.getD i z50) (h0:0 ≤ (X.getD i z50).f0) {v:Int} (hv:0 ≤ v ∧ v ≤ 192):Sped T (X.set i ⟨(X.getD i z50).f0,(X.getD i z50).f1,(X.getD i z50).f2,v,(X.getD i z50).f4⟩) := by
 have hl:=s.1
 refine ⟨by rw [List.length_set];exact hl,fun j hj=>?_⟩
 by_cases c:j = i
 ·subst c
  rw [set_in (by omega)]
  exact .inr ⟨by rw [← e];exact h0,v,hv,by rw [e]⟩
 ·rw [set_out c];exact s.2 j hj
section
variable {W H tk : Int} {A Y C G S : List Int}
theorem l3L {was:List Int} {X T':List S50} {n i:Nat} {r:Bool} (hC:C.length ≤ 4000) (hi:i < T'.length) (hn:¬ Has C (T'.getD i z50).f0) (hi2:i ≤ 1000) (hr:Ev (fun k => hinterlandlaw17_LaneDrives.l2 k G S tk (n:Int) was ((i + 1:Nat):Int) W H A Y C X W H A Y C T') r):Ev (fun k => hinterlandlaw17_LaneDrives.l3 k G S tk (n:Int) was (i:Int) 0 W H A Y C X W H A Y C T') r := by
 refine Ev.scan_all (g:=fun k j=>hinterlandlaw17_LaneDrives.l3 k G S tk (n:Int) was (i:Int) j W H A Y C X W H A Y C T') (p:=fun j=>¬ C.getD j 0 = (T'.getD i z50).f0) (n:=C.length) (Ev.step (fun k=>by simp only [hinterlandlaw17_LaneDrives.l3];rfl) (Ev.neg (by omega) (by rw [wrap_in (x:=(i:Int) + 1) (by omega) (by omega),show (i:Int) + 1 = ((i + 1:Nat):Int) by omega];exact hr))) ?_ C.length 0 (by omega) (fun j _ hj e=>hn ⟨j,hj,e⟩)
 intro j hj hp r hr
 refine Ev.step (fun k=>by simp only [hinterlandlaw17_LaneDrives.l3];rfl) (Ev.pos (by omega) (Ev.pos (by omega) (Ev.pos (by omega) (Ev.pos (by omega) ?_))))
 rw [rdN,rdT,wrap_in (x:=(j:Int) + 1) (by omega) (by omega)]
 exact Ev.neg hp hr
theorem l2L {was:List Int} {X T':List S50} {n:Nat} {r:Bool} (hC:C.length ≤ 4000) (hl:was.length = T'.length) (hw:was.length ≤ 1000) (ho:∀ i,i < was.length → (T'.getD i z50).f0 = was.getD i 0 ∨ ¬ Has C (T'.getD i z50).f0) (hr:Ev (fun k => hinterlandlaw17_LaneDrives.l0 k G S tk (wrap64 ((n:Int) + 1)) W H A Y C T') r) :
  ∀ d i:Nat,i + d = was.length → Ev (fun k=>hinterlandlaw17_LaneDrives.l2 k G S tk (n:Int) was (i:Int) W H A Y C X W H A Y C T') r
 | 0,i,e=>Ev.step (fun k=>by simp only [hinterlandlaw17_LaneDrives.l2];rfl) (Ev.neg (by omega) hr)
 | d + 1,i,e=>by
  have nx:Ev (fun k=>hinterlandlaw17_LaneDrives.l2 k G S tk (n:Int) was ((i + 1:Nat):Int) W H A Y C X W H A Y C T') r:=l2L hC hl hw ho hr d (i + 1) (by omega)
  refine Ev.step (fun k=>by simp only [hinterlandlaw17_LaneDrives.l2];rfl) (Ev.pos (by omega) (Ev.pos (by omega) (Ev.pos (by omega) ?_)))
  rw [rdT,rdN]
  by_cases c:(T'.getD i z50).f0 = was.getD i 0
  ·refine Ev.pos c ?_
   rw [wrap_in (x:=(i:Int) + 1) (by omega) (by omega),show (i:Int) + 1 = ((i + 1:Nat):Int) by omega]
   exact nx
  ·exact Ev.neg c (l3L hC (by omega) ((ho i (by omega)).resolve_left c) (by omega) nx)
theorem runL {was:List Int} {T X:List S50} {n:Nat} (hA:A.length ≤ 4000) (hY:Y.length ≤ 4000) (hC:C.length ≤ 4000) (hc:lcode W H A Y C T = 0) (s:Sped T X) (hl:was.length = T.length) (hw:∀ j,j < T.length → was.getD j 0 = (T.getD j z50).f0)
  (hr:∀ T':List S50,lcode W H A Y C T' = 0 → Ev (fun k=>hinterlandlaw17_LaneDrives.l0 k G S tk (wrap64 ((n:Int) + 1)) W H A Y C T') true):Ev (fun k=>hinterlandlaw17_LaneDrives.l1 k G S tk (n:Int) was X (T.length:Int) W H A Y C T) true:=by
 have hX:=s.code hc
 have hT:=(lcode_zero hc).2.1
 have xl:=s.1
 refine Ev.step (fun k=>by simp only [hinterlandlaw17_LaneDrives.l1];rfl) (Ev.neg (by omega) (Ev.bind (Run_ev hA hY hC (by omega)) ?_))
 by_cases hg:(G.length:Int) = (X.length:Int)
 rotate_left
 ·have e:rnAns W H A Y C X G = noR 8:=by unfold rnAns;rw [if_pos hX,if_neg hg]
  rw [e]
  exact Ev.neg hg (Ev.pos rfl known_then)
 have hgn:G.length = X.length:=by omega
 have e:rnAns W H A Y C X G = (W,H,A,Y,C,(rn W H A Y C G X.length 0 X []).1,(rn W H A Y C G X.length 0 X []).2,0):=by unfold rnAns;rw [if_pos hX,if_pos hg,hgn]
 rw [e]
 obtain ⟨rc,ro⟩:=rn_code hX G
 have rl:=rn_len W H A Y C G X.length 0 X []
 generalize rn W H A Y C G X.length 0 X [] = R at rc ro rl
 obtain ⟨T',O⟩:=R
 have r1:T'.length = X.length:=rl.1
 have r2:O.length = 0 + X.length:=rl.2
 have rc':lcode W H A Y C T' = 0:=rc
 have ro':∀ j,(T'.getD j z50).f0 = (X.getD j z50).f0 ∨ ¬ Has C (T'.getD j z50).f0:=ro
 refine Ev.pos hg (Ev.pos rfl (Ev.pos (by show (O.length:Int) = (G.length:Int);omega) (Ev.pos (by show (T'.length:Int) = (was.length:Int);omega) (Ev.bind (lane_validate_ev hA hY hC (show T'.length ≤ 1000 by omega)) ?_))))
 change Ev (fun k=>hinterlandlaw17_LaneDrives.j4 k G S tk (n:Int) was (lcode W H A Y C T' != 0) W H A Y C X W H A Y C T') true
 rw [rc']
 refine Ev.step (fun k=>by simp only [hinterlandlaw17_LaneDrives.j4];rfl) (Ev.neg (by simp) (l2L hC (by omega) (by omega) (fun i hi=>?_) (hr T' rc') was.length 0 (by omega)))
 rcases ro' i with q | q
 ·refine .inl ?_
  rw [q,hw i (by omega)]
  exact (s.f (by omega)).1
 ·exact .inr q
theorem l1L {T:List S50} {n:Nat} (hn:n ≤ 100) (hS:∀ v ∈ S,0 ≤ v ∧ v ≤ 255) (hSl:S.length ≤ 9223372036854775807) (hA:A.length ≤ 4000) (hY:Y.length ≤ 4000) (hC:C.length ≤ 4000) (hc:lcode W H A Y C T = 0)
  (hr:∀ T':List S50,lcode W H A Y C T' = 0 → Ev (fun k=>hinterlandlaw17_LaneDrives.l0 k G S tk (wrap64 ((n:Int) + 1)) W H A Y C T') true) :
  ∀ (d i:Nat) (was:List Int) (X:List S50),i + d = T.length → was.length = T.length → Sped T X → (∀ j,i ≤ j → X.getD j z50 = T.getD j z50) → (∀ j,j < i → was.getD j 0 = (T.getD j z50).f0) → Ev (fun k=>hinterlandlaw17_LaneDrives.l1 k G S tk (n:Int) was X (i:Int) W H A Y C T) true
 | 0,i,was,X,e,hl,s,hk,hw=>by
  obtain rfl:i = T.length:=by omega
  exact runL hA hY hC hc s hl hw hr
 | d + 1,i,was,X,e,hl,s,hk,hw=>by
  have hT:=(lcode_zero hc).2.1
  have xl:=s.1
  have eX:=hk i (Nat.le_refl _)
  have nx:∀ X':List S50,Sped T X' → (∀ j,i + 1 ≤ j → X'.getD j z50 = T.getD j z50) → Ev (fun k=>hinterlandlaw17_LaneDrives.l1 k G S tk (n:Int) (was.set i (X.getD i z50).f0) X' (wrap64 ((i:Int) + 1)) W H A Y C T) true:=by
   intro X' s' hk'
   rw [wrap_in (x:=(i:Int) + 1) (by omega) (by omega),show (i:Int) + 1 = ((i + 1:Nat):Int) by omega]
   refine l1L hn hS hSl hA hY hC hc hr d (i + 1) _ X' (by omega) (by rw [List.length_set];exact hl) s' hk' (fun j hj=>?_)
   by_cases c:j = i
   ·subst c
    rw [set_in0 (by omega),eX]
   ·rw [set_out0 c];exact hw j (by omega)
  have no:Ev (fun k=>hinterlandlaw17_LaneDrives.j3 k G S tk (n:Int) (was.set i (X.getD i z50).f0) X (i:Int) false W H A Y C T) true :=
   Ev.step (fun k=>by simp only [hinterlandlaw17_LaneDrives.j3];rfl) (Ev.neg Bool.false_ne_true (nx X s (fun j hj=>hk j (by omega))))
  refine Ev.step (fun k=>by simp only [hinterlandlaw17_LaneDrives.l1];rfl) (Ev.pos (by omega) (Ev.pos (by omega) (Ev.pos (by omega) (Ev.bindc rfl ?_))))
  rw [rdT,Int.toNat_natCast]
  by_cases p:(X.getD i z50).f0 ≥ 0
  rotate_left
  ·exact Ev.neg p no
  refine Ev.pos p ?_
  by_cases q:(S.length:Int) > 0
  rotate_left
  ·rw [decide_eq_false q];exact no
  rw [decide_eq_true q]
  have w1:wrap64 ((i:Int) + (n:Int)) = (i:Int) + (n:Int):=wrap_in (by omega) (by omega)
  have i0:0 ≤ (i:Int) + (n:Int):=Int.add_nonneg (Int.natCast_nonneg i) (Int.natCast_nonneg n)
  have tm:=tm_in (x:=(i:Int) + (n:Int)) (m:=(S.length:Int)) i0 q
  refine Ev.step (fun k=>by simp only [hinterlandlaw17_LaneDrives.j3];rfl) (Ev.pos (show true = true from rfl) (Ev.neg (by omega) ?_))
  rw [w1]
  refine Ev.pos tm.1 (Ev.pos tm.2 (Ev.pos (by omega) (Ev.pos (by omega) ?_)))
  have ri:=rd_in hS (Int.tmod ((i:Int) + (n:Int)) (S.length:Int))
  have tv:=tm_in (x:=rd S (Int.tmod ((i:Int) + (n:Int)) (S.length:Int))) (m:=193) ri.1 (by decide)
  rw [rdT,Int.toNat_natCast,wrap_in (x:=rd S (Int.tmod ((i:Int) + (n:Int)) (S.length:Int))) (by omega) (by omega)]
  exact nx _ (s.next (by omega) eX p ⟨tv.1,by omega⟩) (fun j hj=>by rw [set_out (by omega)];exact hk j (by omega))
theorem roundL {T:List S50} {n M:Nat} (hM:Int.tmod (wrap64 tk) 60 = (M:Int)) (hn:n < M) (hM2:M ≤ 60) (hS:∀ v ∈ S,0 ≤ v ∧ v ≤ 255) (hSl:S.length ≤ 9223372036854775807) (hA:A.length ≤ 4000) (hY:Y.length ≤ 4000) (hC:C.length ≤ 4000) (hc:lcode W H A Y C T = 0)
  (hr:∀ T':List S50,lcode W H A Y C T' = 0 → Ev (fun k=>hinterlandlaw17_LaneDrives.l0 k G S tk (wrap64 ((n:Int) + 1)) W H A Y C T') true):Ev (fun k=>hinterlandlaw17_LaneDrives.l0 k G S tk (n:Int) W H A Y C T) true:=by
 have hT:=(lcode_zero hc).2.1
 refine Ev.step (fun k=>by simp only [hinterlandlaw17_LaneDrives.l0];rfl) (Ev.pos (by rw [hM];omega) (Ev.pos (by omega) (Ev.pos (by omega) (Ev.bindc rfl (Ev.pos (by simp;omega) ?_)))))
 rw [Int.toNat_natCast,List.nil_append]
 exact l1L (by omega) hS hSl hA hY hC hc hr T.length 0 _ T (by omega) (by simp) ⟨rfl,fun j _=>.inl rfl⟩ (fun j _=>rfl) (fun j hj=>by omega)
theorem stopL {T:List S50} {n M:Nat} (hM:Int.tmod (wrap64 tk) 60 = (M:Int)) (hn:M ≤ n):Ev (fun k => hinterlandlaw17_LaneDrives.l0 k G S tk (n:Int) W H A Y C T) true :=
 Ev.step (fun k=>by simp only [hinterlandlaw17_LaneDrives.l0];rfl) (Ev.neg (by rw [hM];omega) known_then)
end
section
variable {W H tk : Int} {A Y C G S : List Int}
theorem l3R {was:List Int} {X T':List S50} {n i:Nat} {r:Bool} (hC:C.length ≤ 4000) (hi:i < T'.length) (hn:¬ Has C (T'.getD i z50).f0) (hi2:i ≤ 1000) (hr:Ev (fun k => hinterlandlaw17_LaneDrives.l102 k G S tk (n:Int) was ((i + 1:Nat):Int) W H A Y C X W H A Y C T') r):Ev (fun k => hinterlandlaw17_LaneDrives.l103 k G S tk (n:Int) was (i:Int) 0 W H A Y C X W H A Y C T') r := by
 refine Ev.scan_all (g:=fun k j=>hinterlandlaw17_LaneDrives.l103 k G S tk (n:Int) was (i:Int) j W H A Y C X W H A Y C T') (p:=fun j=>¬ C.getD j 0 = (T'.getD i z50).f0) (n:=C.length) (Ev.step (fun k=>by simp only [hinterlandlaw17_LaneDrives.l103];rfl) (Ev.neg (by omega) (by rw [wrap_in (x:=(i:Int) + 1) (by omega) (by omega),show (i:Int) + 1 = ((i + 1:Nat):Int) by omega];exact hr))) ?_ C.length 0 (by omega) (fun j _ hj e=>hn ⟨j,hj,e⟩)
 intro j hj hp r hr
 refine Ev.step (fun k=>by simp only [hinterlandlaw17_LaneDrives.l103];rfl) (Ev.pos (by omega) (Ev.pos (by omega) (Ev.pos (by omega) (Ev.pos (by omega) ?_))))
 rw [rdN,rdT,wrap_in (x:=(j:Int) + 1) (by omega) (by omega)]
 exact Ev.neg hp hr
theorem l2R {was:List Int} {X T':List S50} {n:Nat} {r:Bool} (hC:C.length ≤ 4000) (hl:was.length = T'.length) (hw:was.length ≤ 1000) (ho:∀ i,i < was.length → (T'.getD i z50).f0 = was.getD i 0 ∨ ¬ Has C (T'.getD i z50).f0) (hr:Ev (fun k => hinterlandlaw17_LaneDrives.l0 k G S tk (wrap64 ((n:Int) + 1)) W H A Y C T') r) :
  ∀ d i:Nat,i + d = was.length → Ev (fun k=>hinterlandlaw17_LaneDrives.l102 k G S tk (n:Int) was (i:Int) W H A Y C X W H A Y C T') r
 | 0,i,e=>Ev.step (fun k=>by simp only [hinterlandlaw17_LaneDrives.l102];rfl) (Ev.neg (by omega) hr)
 | d + 1,i,e=>by
  have nx:Ev (fun k=>hinterlandlaw17_LaneDrives.l102 k G S tk (n:Int) was ((i + 1:Nat):Int) W H A Y C X W H A Y C T') r:=l2R hC hl hw ho hr d (i + 1) (by omega)
  refine Ev.step (fun k=>by simp only [hinterlandlaw17_LaneDrives.l102];rfl) (Ev.pos (by omega) (Ev.pos (by omega) (Ev.pos (by omega) ?_)))
  rw [rdT,rdN]
  by_cases c:(T'.getD i z50).f0 = was.getD i 0
  ·refine Ev.pos c ?_
   rw [wrap_in (x:=(i:Int) + 1) (by omega) (by omega),show (i:Int) + 1 = ((i + 1:Nat):Int) by omega]
   exact nx
  ·exact Ev.neg c (l3R hC (by omega) ((ho i (by omega)).resolve_left c) (by omega) nx)
theorem runR {was:List Int} {T X:List S50} {n:Nat} (hA:A.length ≤ 4000) (hY:Y.length ≤ 4000) (hC:C.length ≤ 4000) (hc:lcode W H A Y C T = 0) (s:Sped T X) (hl:was.length = T.length) (hw:∀ j,j < T.length → was.getD j 0 = (T.getD j z50).f0)
  (hr:∀ T':List S50,lcode W H A Y C T' = 0 → Ev (fun k=>hinterlandlaw17_LaneDrives.l0 k G S tk (wrap64 ((n:Int) + 1)) W H A Y C T') true):Ev (fun k=>hinterlandlaw17_LaneDrives.l101 k G S tk (n:Int) was X (T.length:Int) W H A Y C T) true:=by
 have hX:=s.code hc
 have hT:=(lcode_zero hc).2.1
 have xl:=s.1
 refine Ev.step (fun k=>by simp only [hinterlandlaw17_LaneDrives.l101];rfl) (Ev.neg (by omega) (Ev.bind (Run_ev hA hY hC (by omega)) ?_))
 by_cases hg:(G.length:Int) = (X.length:Int)
 rotate_left
 ·have e:rnAns W H A Y C X G = noR 8:=by unfold rnAns;rw [if_pos hX,if_neg hg]
  rw [e]
  exact Ev.neg hg (Ev.pos rfl known_then)
 have hgn:G.length = X.length:=by omega
 have e:rnAns W H A Y C X G = (W,H,A,Y,C,(rn W H A Y C G X.length 0 X []).1,(rn W H A Y C G X.length 0 X []).2,0):=by unfold rnAns;rw [if_pos hX,if_pos hg,hgn]
 rw [e]
 obtain ⟨rc,ro⟩:=rn_code hX G
 have rl:=rn_len W H A Y C G X.length 0 X []
 generalize rn W H A Y C G X.length 0 X [] = R at rc ro rl
 obtain ⟨T',O⟩:=R
 have r1:T'.length = X.length:=rl.1
 have r2:O.length = 0 + X.length:=rl.2
 have rc':lcode W H A Y C T' = 0:=rc
 have ro':∀ j,(T'.getD j z50).f0 = (X.getD j z50).f0 ∨ ¬ Has C (T'.getD j z50).f0:=ro
 refine Ev.pos hg (Ev.pos rfl (Ev.pos (by show (O.length:Int) = (G.length:Int);omega) (Ev.pos (by show (T'.length:Int) = (was.length:Int);omega) (Ev.bind (lane_validate_ev hA hY hC (show T'.length ≤ 1000 by omega)) ?_))))
 change Ev (fun k=>hinterlandlaw17_LaneDrives.j10 k G S tk (n:Int) was (lcode W H A Y C T' != 0) W H A Y C X W H A Y C T') true
 rw [rc']
 refine Ev.step (fun k=>by simp only [hinterlandlaw17_LaneDrives.j10];rfl) (Ev.neg (by simp) (l2R hC (by omega) (by omega) (fun i hi=>?_) (hr T' rc') was.length 0 (by omega)))
 rcases ro' i with q | q
 ·refine .inl ?_
  rw [q,hw i (by omega)]
  exact (s.f (by omega)).1
 ·exact .inr q
theorem l1R {T:List S50} {n:Nat} (hn:n ≤ 100) (hS:∀ v ∈ S,0 ≤ v ∧ v ≤ 255) (hSl:S.length ≤ 9223372036854775807) (hA:A.length ≤ 4000) (hY:Y.length ≤ 4000) (hC:C.length ≤ 4000) (hc:lcode W H A Y C T = 0)
  (hr:∀ T':List S50,lcode W H A Y C T' = 0 → Ev (fun k=>hinterlandlaw17_LaneDrives.l0 k G S tk (wrap64 ((n:Int) + 1)) W H A Y C T') true) :
  ∀ (d i:Nat) (was:List Int) (X:List S50),i + d = T.length → was.length = T.length → Sped T X → (∀ j,i ≤ j → X.getD j z50 = T.getD j z50) → (∀ j,j < i → was.getD j 0 = (T.getD j z50).f0) → Ev (fun k=>hinterlandlaw17_LaneDrives.l101 k G S tk (n:Int) was X (i:Int) W H A Y C T) true
 | 0,i,was,X,e,hl,s,hk,hw=>by
  obtain rfl:i = T.length:=by omega
  exact runR hA hY hC hc s hl hw hr
 | d + 1,i,was,X,e,hl,s,hk,hw=>by
  have hT:=(lcode_zero hc).2.1
  have xl:=s.1
  have eX:=hk i (Nat.le_refl _)
  have nx:∀ X':List S50,Sped T X' → (∀ j,i + 1 ≤ j → X'.getD j z50 = T.getD j z50) → Ev (fun k=>hinterlandlaw17_LaneDrives.l101 k G S tk (n:Int) (was.set i (X.getD i z50).f0) X' (wrap64 ((i:Int) + 1)) W H A Y C T) true:=by
   intro X' s' hk'
   rw [wrap_in (x:=(i:Int) + 1) (by omega) (by omega),show (i:Int) + 1 = ((i + 1:Nat):Int) by omega]
   refine l1R hn hS hSl hA hY hC hc hr d (i + 1) _ X' (by omega) (by rw [List.length_set];exact hl) s' hk' (fun j hj=>?_)
   by_cases c:j = i
   ·subst c
    rw [set_in0 (by omega),eX]
   ·rw [set_out0 c];exact hw j (by omega)
  have no:Ev (fun k=>hinterlandlaw17_LaneDrives.j9 k G S tk (n:Int) (was.set i (X.getD i z50).f0) X (i:Int) false W H A Y C T) true :=
   Ev.step (fun k=>by simp only [hinterlandlaw17_LaneDrives.j9];rfl) (Ev.neg Bool.false_ne_true (nx X s (fun j hj=>hk j (by omega))))
  refine Ev.step (fun k=>by simp only [hinterlandlaw17_LaneDrives.l101];rfl) (Ev.pos (by omega) (Ev.pos (by omega) (Ev.pos (by omega) (Ev.bindc rfl ?_))))
  rw [rdT,Int.toNat_natCast]
  by_cases p:(X.getD i z50).f0 ≥ 0
  rotate_left
  ·exact Ev.neg p no
  refine Ev.pos p ?_
  by_cases q:(S.length:Int) > 0
  rotate_left
  ·rw [decide_eq_false q];exact no
  rw [decide_eq_true q]
  have w1:wrap64 ((i:Int) + (n:Int)) = (i:Int) + (n:Int):=wrap_in (by omega) (by omega)
  have i0:0 ≤ (i:Int) + (n:Int):=Int.add_nonneg (Int.natCast_nonneg i) (Int.natCast_nonneg n)
  have tm:=tm_in (x:=(i:Int) + (n:Int)) (m:=(S.length:Int)) i0 q
  refine Ev.step (fun k=>by simp only [hinterlandlaw17_LaneDrives.j9];rfl) (Ev.pos (show true = true from rfl) (Ev.neg (by omega) ?_))
  rw [w1]
  refine Ev.pos tm.1 (Ev.pos tm.2 (Ev.pos (by omega) (Ev.pos (by omega) ?_)))
  have ri:=rd_in hS (Int.tmod ((i:Int) + (n:Int)) (S.length:Int))
  have tv:=tm_in (x:=rd S (Int.tmod ((i:Int) + (n:Int)) (S.length:Int))) (m:=193) ri.1 (by decide)
  rw [rdT,Int.toNat_natCast,wrap_in (x:=rd S (Int.tmod ((i:Int) + (n:Int)) (S.length:Int))) (by omega) (by omega)]
  exact nx _ (s.next (by omega) eX p ⟨tv.1,by omega⟩) (fun j hj=>by rw [set_out (by omega)];exact hk j (by omega))
theorem roundR {T:List S50} {n M:Nat} (hM:Int.tmod (wrap64 tk) 60 = (M:Int)) (hn:n < M) (hM2:M ≤ 60) (hS:∀ v ∈ S,0 ≤ v ∧ v ≤ 255) (hSl:S.length ≤ 9223372036854775807) (hA:A.length ≤ 4000) (hY:Y.length ≤ 4000) (hC:C.length ≤ 4000) (hc:lcode W H A Y C T = 0)
  (hr:∀ T':List S50,lcode W H A Y C T' = 0 → Ev (fun k=>hinterlandlaw17_LaneDrives.l0 k G S tk (wrap64 ((n:Int) + 1)) W H A Y C T') true):Ev (fun k=>hinterlandlaw17_LaneDrives.l100 k G S tk (n:Int) W H A Y C T) true:=by
 have hT:=(lcode_zero hc).2.1
 refine Ev.step (fun k=>by simp only [hinterlandlaw17_LaneDrives.l100];rfl) (Ev.pos (by rw [hM];omega) (Ev.pos (by omega) (Ev.pos (by omega) (Ev.bindc rfl (Ev.pos (by simp;omega) ?_)))))
 rw [Int.toNat_natCast,List.nil_append]
 exact l1R (by omega) hS hSl hA hY hC hc hr T.length 0 _ T (by omega) (by simp) ⟨rfl,fun j _=>.inl rfl⟩ (fun j _=>rfl) (fun j hj=>by omega)
theorem stopR {T:List S50} {n M:Nat} (hM:Int.tmod (wrap64 tk) 60 = (M:Int)) (hn:M ≤ n):Ev (fun k => hinterlandlaw17_LaneDrives.l100 k G S tk (n:Int) W H A Y C T) true :=
 Ev.step (fun k=>by simp only [hinterlandlaw17_LaneDrives.l100];rfl) (Ev.neg (by rw [hM];omega) known_then)
end
section
variable {W H tk : Int} {A Y C G S : List Int}
theorem rounds_ev {M:Nat} (hM:Int.tmod (wrap64 tk) 60 = (M:Int)) (hM2:M ≤ 60) (hS:∀ v ∈ S,0 ≤ v ∧ v ≤ 255) (hSl:S.length ≤ 9223372036854775807) (hA:A.length ≤ 4000) (hY:Y.length ≤ 4000) (hC:C.length ≤ 4000):∀ (d n:Nat) (T:List S50),n + d = M → lcode W H A Y C T = 0 → Ev (fun k => hinterlandlaw17_LaneDrives.l0 k G S tk (n:Int) W H A Y C T) true
 | 0,n,T,e,hc=>stopL hM (by omega)
 | d + 1,n,T,e,hc=>by
  refine roundL hM (by omega) hM2 hS hSl hA hY hC hc (fun T' hc'=>?_)
  rw [wrap_in (x:=(n:Int) + 1) (by omega) (by omega),show (n:Int) + 1 = ((n + 1:Nat):Int) by omega]
  exact rounds_ev hM hM2 hS hSl hA hY hC d (n + 1) T' (by omega) hc'
end
theorem LaneDrives:hinterlandlaw17_LaneDrives.Pure := by
 intro W H A Y C T G S tk _ _ _ _ _ _ _ hS ht
 refine Ev.rounds ?_
 unfold hinterlandlaw17_LaneDrives.f
 refine Ev.bindc (far_eq W H A Y C T) ?_
 have far:Ev (fun k=>hinterlandlaw17_LaneDrives.j0 k G S tk true W H A Y C T) true:=Ev.step (fun k=>by simp only [hinterlandlaw17_LaneDrives.j0];rfl) (Ev.pos (show true = true from rfl) known_then)
 by_cases h:(A.length:Int) > 1100 ∨ (Y.length:Int) > 1100 ∨ (C.length:Int) > 1100 ∨ (T.length:Int) > 100
 ·exact Ev.pos (decide_eq_true h) far
 refine Ev.neg (fun k=>h (of_decide_eq_true k)) ?_
 by_cases hg:(G.length:Int) > 200
 ·exact Ev.pos hg far
 have hA:A.length ≤ 4000:=by omega
 have hY:Y.length ≤ 4000:=by omega
 have hC:C.length ≤ 4000:=by omega
 refine Ev.neg hg (Ev.bind (lane_validate_ev hA hY hC (by omega)) ?_)
 by_cases hc:lcode W H A Y C T = 0
 rotate_left
 ·rw [show (lcode W H A Y C T != 0) = true from bne_iff_ne.2 hc];exact far
 rw [show (lcode W H A Y C T != 0) = false from bne_eq_false_iff_eq.2 hc]
 have t8:=gu8 ht
 have hS8:∀ v ∈ S,0 ≤ v ∧ v ≤ 255:=fun v hv=>gu8 (hS.2 v hv)
 have hSl:S.length ≤ 9223372036854775807:=by have:=hS.1;omega
 obtain ⟨M,hM⟩:∃ M:Nat,Int.tmod (wrap64 tk) 60 = (M:Int):=by
  rw [wrap_in (x:=tk) (by omega) (by omega)]
  exact ⟨(Int.tmod tk 60).toNat,by have:=(tm_in (x:=tk) (m:=60) t8.1 (by decide)).1;omega⟩
 have hM2:M ≤ 60:=by
  rw [wrap_in (x:=tk) (by omega) (by omega)] at hM
  have:=(tm_in (x:=tk) (m:=60) t8.1 (by decide)).2
  omega
 refine Ev.step (fun k=>by simp only [hinterlandlaw17_LaneDrives.j0];rfl) (Ev.neg Bool.false_ne_true ?_)
 by_cases m0:M = 0
 ·exact stopR (n:=0) hM (by omega)
 ·refine roundR (n:=0) hM (by omega) hM2 hS8 hSl hA hY hC hc (fun T' hc'=>?_)
  have:=rounds_ev (G:=G) hM hM2 hS8 hSl hA hY hC (M - 1) 1 T' (by omega) hc'
  rw [wrap_in (x:=((0:Nat):Int) + 1) (by decide) (by decide)]
  exact this

end Go.Proofs.Ythjmdpekcleihaa.Pure
