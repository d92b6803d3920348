/- Layer 11, TownYears (P11.2): what a town builds step by step, and that no new house stands on a street. No conditions. -/
import Derived.Test.YtbdijpjlgokfkaaPSTownYears
import Derived.Test.YtbdijpjlgokfkaaTyM
namespace Go.Proofs.Ytbdijpjlgokfkaa.Pure
set_option linter.unusedVariables false
set_option linter.unusedSimpArgs false
open Go.RowKit Go.Proofs.YtbdijpjlgokfkaaW.PrintWords Go.Proofs.Ytbdijpjlgokfkaa.P Go.Proofs.Ytbdijpjlgokfkaa

theorem built_ev (a:Int) (H:List S68) (M:List Int) (b c:Int) (hH:H.length≤4000) (t:Int):Ev (fun k=>w11_built.f k a H M b c t) (H.any (fun x=>decide (x.f0=t))):=by
 unfold w11_built.f
 have key:∀ (n i:Nat),i+n=H.length→Ev (fun k=>w11_built.l0 k t (i:Int) a H M b c) ((H.drop i).any (fun x=>decide (x.f0=t))):=by
  intro n
  induction n with
  | zero =>
   intro i hi
   rw [List.drop_of_length_le (by omega)]
   exact Ev.step (fun k=>by simp only [w11_built.l0];rfl) (Ev.neg (by omega) (Ev.eq (Ev.now _) (by simp)))
  | succ n ih =>
   intro i hi
   have hlt:i<H.length:=by omega
   have hr:rd_T68 H (i:Int)=H[i]:=by unfold rd_T68;simp [List.getD_eq_getElem?_getD,List.getElem?_eq_getElem hlt]
   rw [List.drop_eq_getElem_cons hlt]
   refine Ev.step (fun k=>by simp only [w11_built.l0];rfl) (Ev.pos (by omega) (Ev.pos (by omega) ?_))
   rw [hr]
   by_cases c:H[i].f0=t
   ·exact Ev.pos c (Ev.eq (Ev.now _) (by rw [List.any_cons,decide_eq_true c,Bool.true_or]))
   ·refine Ev.neg c ?_
    rw [wrap_in (x:=(i:Int)+1) (by omega) (by omega),show (i:Int)+1=((i+1:Nat):Int) by omega]
    exact Ev.eq (ih (i+1) (by omega)) (by rw [List.any_cons,decide_eq_false c,Bool.false_or])
 exact Ev.eq (key H.length 0 (by omega)) (by simp)
theorem chk_ev {A:List Int} {tt:Int} {H N:List S68} {M:List Int} {mv du:Int} (hH:H.length≤4000) (hx:∀ x ∈ N,x ∈ H∨rd A x.f0=0):∀ (n j:Nat),j+n=N.length→Ev (fun k=>w11_TownYears.chk k A tt H M mv du N n j) ():=by
 intro n
 induction n with
 | zero=>intro j hj;simp only [w11_TownYears.chk];exact Ev.now _
 | succ n ih =>
  intro j hj
  have hlt:j<N.length:=by omega
  have hr:rd_T68 N (j:Int)=N[j]:=by unfold rd_T68;simp [List.getD_eq_getElem?_getD,List.getElem?_eq_getElem hlt]
  simp only [w11_TownYears.chk]
  rw [hr]
  have t:=ih (j+1) (by omega)
  by_cases k1:0≤N[j].f0
  ·refine Ev.pos k1 ?_
   by_cases k2:N[j].f0<(A.length:Int)
   ·refine Ev.pos k2 ?_
    by_cases k3:rd A N[j].f0=0
    ·exact Ev.pos k3 t
    ·refine Ev.neg k3 (Ev.bind (built_ev tt H M mv du hH _) (Ev.pos ?_ t))
     exact List.any_eq_true.2 ⟨N[j],(hx _ (List.getElem_mem hlt)).resolve_right k3,decide_eq_true rfl⟩
   ·exact Ev.neg k2 t
  ·exact Ev.neg k1 t
theorem same_streets_ev (W H:Int) (A Y:List Int) (hA:A.length≤4000) (hY:Y.length≤4000):Ev (fun k=>hs_Streets.f k W H A Y W H A Y) true:=by
 unfold hs_Streets.f
 exact Ev.pos rfl (Ev.pos rfl (Ev.bind (same_ints_ev A (by omega)) (Ev.pos rfl (Ev.bind (same_ints_ev Y (by omega)) (Ev.now _)))))
theorem loop_ev {K:List S80} {LW LH:Int} {C D:List Int} {day:Int} {fst:Nat} (hz:Sized K) (hk:K.length≤300) (hC:C.length≤1200) (hD:D.length≤1200):∀ (n:Nat) (SW SH:Int) (A Y:List Int) (tt:Int) (H:List S68) (M:List Int) (mv du s:Int),A.length≤1200→Y.length≤1200→H.length≤600→M.length≤300→fst≤H.length→(0≤s∧s<18446744073709551616)→Ev (fun k=>w11_TownYears.loop k K LW LH C D day fst n SW SH A Y tt H M mv du s) true:=by
 intro n
 induction n with
 | zero=>intro SW SH A Y tt H M mv du s _ _ _ _ _ _;simp only [w11_TownYears.loop];exact known_ev
 | succ n ih =>
  intro SW SH A Y tt H M mv du s hA hY hH hM hf hs
  simp only [w11_TownYears.loop]
  rcases grow_ev (LW:=LW) (LH:=LH) (SW:=SW) (SH:=SH) (C:=C) (A:=A) (Y:=Y) (D:=D) (tt:=tt) (H:=H) (M:=M) (mv:=mv) (du:=du) (day:=day) (s:=s) hz hk hC hA hY hD hH hM hs with ⟨e,he,t1,t2⟩|⟨told,A',Y',H',s',B,h200,t1,t2⟩
  ·exact Ev.bind t1 (Ev.bind t2 (Ev.pos rfl (Ev.bind (same_town_ev 0 [] [] 0 0 (by simp) (by simp)) (Ev.bind (same_streets_ev 0 0 [] [] (by simp) (by simp)) (Ev.pos ⟨rfl,rfl⟩ (Ev.pos he known_ev))))))
  ·obtain ⟨ht,l1,l2,l3,hx,hs'⟩:=B
   have hd:Int.tdiv told 2=0∨Int.tdiv told 2=1:=by rcases ht with rfl|rfl|rfl <;> decide
   refine Ev.bind t1 (Ev.bind t2 (Ev.pos rfl (Ev.bind (same_town_ev tt H' M mv du (by omega) (by omega)) (Ev.bind (same_streets_ev SW SH A' Y' (by omega) (by omega)) (Ev.pos ⟨rfl,rfl⟩ (Ev.neg (by simp) (Ev.pos ?_ (Ev.bind (chk_ev (by omega) hx (H'.length - H.length) H.length (by omega)) ?_))))))))
   ·dsimp only
    rw [wrap_in (x:=Int.tdiv told 2) (by omega) (by omega),wrap_in (by omega) (by omega)]
    exact ⟨l3,by omega,by omega,by omega⟩
   ·exact ih SW SH A' Y' tt H' M mv du s' (by omega) (by omega) (by omega) hM (by omega) hs'
theorem TownYears:w11_TownYears.Pure:=by
 intro K LW LH C SW SH A Y D tt H M mv du day s steps hK _ _ _ _ _ _ _ _ _ _ _ _ _ _ hs _
 have hs:=hs.u64
 have e:Ev (fun k=>w11_TownYears.f k K LW LH C SW SH A Y D tt H M mv du day s steps) true:=by
  unfold w11_TownYears.f
  refine Ev.bindc (far_eq _ _ _ _ _ _) ?_
  by_cases c1:(K.length:Int) > 300∨(H.length:Int) > 600∨(M.length:Int) > 300
  ·exact Ev.pos (decide_eq_true c1) known_ev
  refine Ev.neg (by rw [decide_eq_false c1];decide) ?_
  have b:w11_broad.f LW LH C SW SH A Y D=some (decide ((C.length:Int) > 1200∨(A.length:Int) > 1200∨(Y.length:Int) > 1200∨(D.length:Int) > 1200)):=by
   unfold w11_broad.f
   by_cases h1:(C.length:Int) > 1200
   ·rw [if_pos h1,decide_eq_true (.inl h1)]
   ·rw [if_neg h1]
    by_cases h2:(A.length:Int) > 1200
    ·rw [if_pos h2,decide_eq_true (.inr (.inl h2))]
    ·rw [if_neg h2]
     by_cases h3:(Y.length:Int) > 1200
     ·rw [if_pos h3,decide_eq_true (.inr (.inr (.inl h3)))]
     ·rw [if_neg h3];congr 1;apply decide_eq_decide.2;omega
  refine Ev.bindc b ?_
  by_cases c2:(C.length:Int) > 1200∨(A.length:Int) > 1200∨(Y.length:Int) > 1200∨(D.length:Int) > 1200
  ·exact Ev.pos (decide_eq_true c2) known_ev
  refine Ev.neg (by rw [decide_eq_false c2];decide) ?_
  exact loop_ev (sized_of hK) (by omega) (by omega) (by omega) _ SW SH A Y tt H M mv du s (by omega) (by omega) (by omega) (by omega) (Nat.le_refl _) ⟨hs.1,by omega⟩
 obtain ⟨k,hk⟩:=e
 exact ⟨k,hk k (Nat.le_refl _)⟩
end Go.Proofs.Ytbdijpjlgokfkaa.Pure
