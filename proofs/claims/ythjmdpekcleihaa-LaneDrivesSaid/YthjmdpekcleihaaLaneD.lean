/- Layer 17: what the trucks' ticks keep: no two hold one slot, and none enters a closed tile. No conditions. -/
import Derived.Test.YthjmdpekcleihaaPx0
import Derived.Test.YthjmdpekcleihaaLaneH
namespace Go.Proofs.Ythjmdpekcleihaa.Pure
set_option linter.unusedVariables false
set_option linter.unusedSimpArgs false
open Go.RowKit Go.Proofs.YthjmdpekcleihaaW.PrintWords Go.Proofs.Ythjmdpekcleihaa.P Go.Proofs.Ythjmdpekcleihaa

section
variable {W H : Int} {A Y C G : List Int} {T T' : List S50}
theorem set_in {i:Nat} {y:S50} (hi:i < T.length):(T.set i y).getD i z50 = y := by
 simp [List.getD_eq_getElem?_getD,hi]
theorem set_out {i j:Nat} {y:S50} (h:j ≠ i):(T.set i y).getD j z50 = T.getD j z50 := by
 rw [List.getD_eq_getElem?_getD,List.getD_eq_getElem?_getD,List.getElem?_set_ne (fun e=>h e.symm)]
theorem dist_set (h:DistF T 0) {i:Nat} (hi:i < T.length) {y:S50} (hy:y.f0 = -1 ∨ ¬ Tk T i y.f0 y.f2):DistF (T.set i y) 0 := by
 intro j _ hj
 rw [List.length_set] at hj
 by_cases e:j = i
 ·subst e
  rw [set_in hj]
  refine hy.imp id fun hn=>?_
  rintro ⟨k,hk,s⟩
  rw [set_out (by omega)] at s
  exact hn ⟨k,by omega,by omega,s.1,s.2⟩
 ·rw [set_out e]
  rcases h j (Nat.zero_le _) hj with q | q
  ·exact .inl q
  ·by_cases q1:(T.getD j z50).f0 = -1
   ·exact .inl q1
   refine .inr ?_
   rintro ⟨k,hk,s⟩
   by_cases e2:k = i
   ·subst e2
    rw [set_in hi] at s
    rcases hy with r | r
    ·exact q1 (by rw [← s.1];exact r)
    ·exact r ⟨j,hj,e,s.1.symm,s.2.symm⟩
   ·rw [set_out e2] at s
    exact q ⟨k,hk,s⟩
theorem not_tk (h:DistF T 0) {i:Nat} (hi:i < T.length) (h0:¬ (T.getD i z50).f0 = -1):¬ Tk T i (T.getD i z50).f0 (T.getD i z50).f2 := by
 rintro ⟨k,k1,k2,k3,k4⟩
 rcases Nat.lt_or_gt_of_ne k2 with c | c
 ·exact ((h i (Nat.zero_le _) hi).resolve_left h0) ⟨k,c,k3,k4⟩
 ·exact ((h k (Nat.zero_le _) k1).resolve_left (by rw [k3];exact h0)) ⟨i,c,k3.symm,k4.symm⟩
theorem stp_dist (h:DistF T 0) {i:Nat} (hi:i < T.length) (C:List Int) (g:Int):DistF (stp W H A Y C T i g).2 0 := by
 unfold stp
 by_cases h0:(T.getD i z50).f0 = -1
 ·rw [if_pos h0];exact h
 rw [if_neg h0]
 split
 ·exact dist_set h hi (.inr (not_tk h hi h0))
 split
 ·rename_i c
  split
  ·exact dist_set h hi (.inr c.2.2)
  ·exact dist_set h hi (.inr c.2.2)
 ·exact dist_set h hi (.inr (not_tk h hi h0))
theorem stp_open {i:Nat} (hi:i < T.length) (C:List Int) (g:Int) (j:Nat):((stp W H A Y C T i g).2.getD j z50).f0 = (T.getD j z50).f0 ∨ ¬ Has C ((stp W H A Y C T i g).2.getD j z50).f0 := by
 by_cases e:j = i
 rotate_left
 ·left
  unfold stp
  repeat' split
  all_goals first | rfl | rw [set_out e]
 subst e
 unfold stp
 split
 ·exact .inl rfl
 split
 ·rw [set_in hi];exact .inl rfl
 split
 ·rename_i c
  split
  ·rw [set_in hi];exact .inr c.2.1
  ·rw [set_in hi];exact .inr c.2.1
 ·rw [set_in hi];exact .inl rfl
theorem rn_keeps (h:Good W H A Y) (C G:List Int):∀ d i (T:List S50) (O:List Int),i + d = T.length → Steady W H A T → DistF T 0 → Steady W H A (rn W H A Y C G d i T O).1 ∧ DistF (rn W H A Y C G d i T O).1 0
 | 0,i,T,O,_,q,u=>⟨q,u⟩
 | d + 1,i,T,O,e,q,u=>by
  unfold rn
  exact rn_keeps h C G d (i + 1) _ _ (by rw [stp_len];omega) (stp_steady h q (by omega) C _) (stp_dist u (by omega) C _)
theorem rn_open (C G:List Int) (j:Nat):∀ d i (T:List S50) (O:List Int),i + d = T.length → ((rn W H A Y C G d i T O).1.getD j z50).f0 = (T.getD j z50).f0 ∨ ¬ Has C ((rn W H A Y C G d i T O).1.getD j z50).f0
 | 0,i,T,O,_=>.inl rfl
 | d + 1,i,T,O,e=>by
  unfold rn
  rcases rn_open C G j d (i + 1) (stp W H A Y C T i (G.getD i 0)).2 (O ++ [(stp W H A Y C T i (G.getD i 0)).1]) (by rw [stp_len];omega) with q | q
  ·rw [q]
   exact stp_open (by omega) C _ j
  ·exact .inr q
theorem of_lcode (h1:vcode W H A Y = 0) (h2:T.length ≤ 60) (h3:Sorted C) (q:Steady W H A T) (u:DistF T 0):lcode W H A Y C T = 0 := by
 unfold lcode
 rw [if_pos h1,if_neg (by omega),if_pos h3,if_pos q.m]
 unfold scode
 rw [if_pos q.t,if_pos q.j,if_pos u]
def Sped (T T' : List S50) : Prop := T'.length = T.length ∧ ∀ j, j < T.length → T'.getD j z50 = T.getD j z50 ∨ (0 ≤ (T.getD j z50).f0 ∧ ∃ v : Int, (0 ≤ v ∧ v ≤ 192) ∧ T'.getD j z50 = ⟨(T.getD j z50).f0, (T.getD j z50).f1, (T.getD j z50).f2, v, (T.getD j z50).f4⟩)
theorem Sped.f {j:Nat} (s:Sped T T') (hj:j < T.length):(T'.getD j z50).f0 = (T.getD j z50).f0 ∧ (T'.getD j z50).f2 = (T.getD j z50).f2 := by
 rcases s.2 j hj with e | ⟨_,v,_,e⟩
 ·rw [e];exact ⟨rfl,rfl⟩
 ·rw [e];exact ⟨rfl,rfl⟩
theorem Sped.code (s:Sped T T') (h:lcode W H A Y C T = 0):lcode W H A Y C T' = 0 := by
 obtain ⟨h1,h2,h3,h4,h5,h6,h7⟩:=lcode_zero h
 have hl:=s.1
 refine of_lcode h1 (by omega) h3 ⟨fun j hj0 hj=>?_,fun j hj0 hj=>?_,fun j hj0 hj=>?_⟩ (fun j hj0 hj=>?_)
 ·rw [hl] at hj
  rcases s.2 j hj with e | ⟨p,v,hv,e⟩
  ·rw [e];exact h4 j hj0 hj
  ·have hm:=h4 j hj0 hj
   rw [e]
   unfold Mov at hm ⊢
   rw [if_neg (by omega)] at hm
   rw [if_neg (by show ¬ (T.getD j z50).f0 = -1;omega)]
   exact ⟨hm.1,hm.2.1,hv,hm.2.2.2⟩
 ·rw [hl] at hj
  rw [(s.f hj).1];exact h5 j hj0 hj
 ·rw [hl] at hj
  rw [(s.f hj).1,(s.f hj).2];exact h6 j hj0 hj
 ·rw [hl] at hj
  rw [(s.f hj).1]
  refine (h7 j hj0 hj).imp id fun hn=>?_
  rintro ⟨k,hk,e1,e2⟩
  exact hn ⟨k,hk,by rw [← (s.f (show k < T.length by omega)).1,← (s.f hj).1];exact e1,by rw [← (s.f (show k < T.length by omega)).2,← (s.f hj).2];exact e2⟩
theorem rn_code (h:lcode W H A Y C T = 0) (G:List Int):lcode W H A Y C (rn W H A Y C G T.length 0 T []).1 = 0 ∧ ∀ j,((rn W H A Y C G T.length 0 T []).1.getD j z50).f0 = (T.getD j z50).f0 ∨ ¬ Has C ((rn W H A Y C G T.length 0 T []).1.getD j z50).f0 := by
 obtain ⟨h1,h2,h3,h4,h5,h6,h7⟩:=lcode_zero h
 obtain ⟨q,u⟩:=rn_keeps (good_of h1) C G T.length 0 T [] (by omega) ⟨h4,h5,h6⟩ h7
 exact ⟨of_lcode h1 (by rw [(rn_len W H A Y C G T.length 0 T []).1];exact h2) h3 q u,fun j=>rn_open C G j T.length 0 T [] (by omega)⟩
end
end Go.Proofs.Ythjmdpekcleihaa.Pure
