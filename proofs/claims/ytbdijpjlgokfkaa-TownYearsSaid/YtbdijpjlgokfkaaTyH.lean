/- What layer 11's growth leans on of houses, in plain words. No conditions. -/
import Derived.Test.YtbdijpjlgokfkaaPx0
import Derived.Test.YtbdijpjlgokfkaaPx7
import Derived.Test.YtbdijpjlgokfkaaPx11
import Derived.Test.YtbdijpjlgokfkaaPx15
import Derived.Test.YtbdijpjlgokfkaaTown0
namespace Go.Proofs.Ytbdijpjlgokfkaa.Pure
set_option linter.unusedVariables false
set_option linter.unusedSimpArgs false
open Go.RowKit Go.Proofs.YtbdijpjlgokfkaaW.PrintWords Go.Proofs.Ytbdijpjlgokfkaa.P Go.Proofs.Ytbdijpjlgokfkaa

theorem inc_of {H:List S68} (h:Houses H):town_house.inc H:=by
 unfold town_house.inc
 rw [List.pairwise_iff_getElem]
 have key:∀ (d i:Nat) (hj:i+d+1<H.length),(H[i]'(by omega)).f0<(H[i+d+1]'hj).f0:=by
  intro d
  induction d with
  | zero =>
   intro i hj
   have:=(h (i+1) (by omega) (by omega)).2.2 (by omega)
   simp only [Nat.add_sub_cancel,List.getD_eq_getElem?_getD,List.getElem?_eq_getElem (show i<H.length by omega),List.getElem?_eq_getElem (show i+1<H.length by omega),Option.getD_some] at this
   exact this
  | succ d ih =>
   intro i hj
   have h1:=ih i (by omega)
   have h2:=(h (i+d+1+1) (by omega) (by omega)).2.2 (by omega)
   simp only [Nat.add_sub_cancel,List.getD_eq_getElem?_getD,List.getElem?_eq_getElem (show i+d+1<H.length by omega),List.getElem?_eq_getElem (show i+d+1+1<H.length by omega),Option.getD_some] at h2
   exact Int.lt_trans h1 h2
 intro i j hi hj hij
 have:=key (j - i - 1) i (by omega)
 simpa only [show i+(j - i - 1)+1=j by omega] using this
theorem cnt_le (H:List S68) (t:Int):town_house.cnt H t≤H.length:=List.countP_le_length
theorem cnt_is {H:List S68} {t:Int} {i:Nat} (hi:i≤H.length) (h1:∀ j (hj:j<H.length),j<i→H[j].f0<t) (h2:∀ j (hj:j<H.length),i≤j→¬ H[j].f0<t):town_house.cnt H t=i:=by
 unfold town_house.cnt
 have e:=List.take_append_drop i H
 rw [← e,List.countP_append]
 have a:(H.take i).countP (fun h=>decide (h.f0<t))=(H.take i).length:=by
  rw [List.countP_eq_length]
  intro x hx
  obtain ⟨j,hj,rfl⟩:=List.getElem_of_mem hx
  rw [List.length_take] at hj
  rw [List.getElem_take]
  exact decide_eq_true (h1 j (by omega) (by omega))
 have b:(H.drop i).countP (fun h=>decide (h.f0<t))=0:=by
  rw [List.countP_eq_zero]
  intro x hx
  obtain ⟨j,hj,rfl⟩:=List.getElem_of_mem hx
  rw [List.length_drop] at hj
  rw [List.getElem_drop]
  simpa using h2 (i+j) (by omega) (by omega)
 rw [a,b,List.length_take]
 omega
def ins (H:List S68) (h:S68):List S68:=H.take (town_house.cnt H h.f0) ++ [h] ++ H.drop (town_house.cnt H h.f0)
theorem ins_len (H:List S68) (h:S68):(ins H h).length=H.length+1:=by
 have:=cnt_le H h.f0
 unfold ins
 simp only [List.length_append,List.length_take,List.length_drop,List.length_cons,List.length_nil]
 omega
theorem ins_mem {H:List S68} {h x:S68} (hx:x ∈ ins H h):x=h∨x ∈ H:=by
 unfold ins at hx
 rcases List.mem_append.1 hx with hx|hx
 ·rcases List.mem_append.1 hx with hx|hx
  ·exact .inr (List.mem_of_mem_take hx)
  ·exact .inl (List.mem_singleton.1 hx)
 ·exact .inr (List.mem_of_mem_drop hx)
theorem insert_eq {H:List S68} (h:S68) (hl:H.length≤1000):api_House_109.f H (town_house.cnt H h.f0:Int) [h]=some (ins H h):=by
 have:=cnt_le H h.f0
 unfold api_House_109.f
 rw [if_pos ⟨by omega,by omega,Nat.zero_lt_one,by simp only [List.length_cons,List.length_nil];omega⟩]
 rfl
theorem swap_eq {H:List S68} (h:S68) {n:Nat} (hn:n<H.length):((H.take (n+1) ++ h :: H.drop (n+1)).set (n+1) H[n]).set n h=H.take n ++ h :: H.drop n:=by
 have e:H.take (n+1) ++ h :: H.drop (n+1)=H.take n ++ H[n] :: h :: H.drop (n+1):=by
  rw [List.take_add_one,List.getElem?_eq_getElem hn]
  simp only [Option.toList,List.append_assoc,List.cons_append,List.nil_append]
 have hl:(H.take n).length=n:=by rw [List.length_take];omega
 rw [e,List.set_append_right _ _ (by omega),List.set_append_right _ _ (by omega),hl,show n+1 - n=1 by omega,Nat.sub_self]
 simp only [List.set_cons_zero,List.set_cons_succ]
 rw [List.drop_eq_getElem_cons hn]
theorem at_ins {H:List S68} (h:S68) {i:Nat} (hi:i≤H.length):rd_T68 (H.take i ++ h :: H.drop i) (i:Int)=h:=by
 have hl:(H.take i).length=i:=by rw [List.length_take];omega
 rw [rdH,List.getD_eq_getElem?_getD,List.getElem?_append_right (by omega),hl,Nat.sub_self]
 rfl
theorem at_before {H:List S68} (h:S68) {n:Nat} (hn:n<H.length):rd_T68 (H.take (n+1) ++ h :: H.drop (n+1)) (n:Int)=H[n]:=by
 have hl:(H.take (n+1)).length=n+1:=by rw [List.length_take];omega
 rw [rdH,List.getD_eq_getElem?_getD,List.getElem?_append_left (by omega),List.getElem?_take]
 simp [List.getElem?_eq_getElem hn]
theorem build_ev {a:Int} {H:List S68} {M:List Int} {b c:Int} (hH:H.length≤200) (hM:M.length=12) (hi:town_house.inc H) (h:S68) (hn:H.any (fun x=>decide (x.f0=h.f0))=false):Ev (fun k=>h11_build.f k a H M b c h.f0 h.f1 h.f2) (a,ins H h,M,b,c):=by
 unfold town_house.inc at hi
 rw [List.pairwise_iff_getElem] at hi
 have hne:∀ j (hj:j<H.length),H[j].f0≠h.f0:=by
  intro j hj e
  have:H.any (fun x=>decide (x.f0=h.f0))=true:=List.any_eq_true.2 ⟨H[j],List.getElem_mem hj,decide_eq_true e⟩
  rw [hn] at this
  cases this
 have key:∀ (i:Nat),i≤H.length→(∀ j (hj:j<H.length),i≤j→h.f0<H[j].f0)→Ev (fun k=>h11_build.l0 k (i:Int) a (H.take i ++ h :: H.drop i) M b c h.f0 h.f1 h.f2) (a,ins H h,M,b,c):=by
  intro i
  induction i with
  | zero =>
   intro _ hg
   have e:town_house.cnt H h.f0=0:=cnt_is (by omega) (fun j hj x=>by omega) (fun j hj _=>by have:=hg j hj (by omega);omega)
   refine Ev.step (fun k=>by simp only [h11_build.l0];rfl) (Ev.neg (by decide) (Ev.eq (Ev.now _) ?_))
   unfold ins
   rw [e]
   rfl
  | succ n ih =>
   intro hl hg
   have hln:(H.take (n+1) ++ h :: H.drop (n+1)).length=H.length+1:=by
    simp only [List.length_append,List.length_take,List.length_cons,List.length_drop];omega
   refine Ev.step (fun k=>by simp only [h11_build.l0];rfl) ?_
   rw [wrap_in (x:=((n+1:Nat):Int) - 1) (by omega) (by omega),show ((n+1:Nat):Int) - 1=(n:Int) by omega,at_ins h (by omega),at_before h (show n<H.length by omega),hln]
   refine Ev.pos (by omega) (Ev.pos (by omega) (Ev.pos (by omega) (Ev.pos (by omega) (Ev.pos (by omega) ?_))))
   by_cases c:h.f0<(H[n]'(by omega)).f0
   ·refine Ev.pos c ?_
    rw [Int.toNat_natCast,Int.toNat_natCast]
    have e:=swap_eq h (show n<H.length by omega)
    show Ev (fun k=>h11_build.l0 k (n:Int) a (((H.take (n+1) ++ h :: H.drop (n+1)).set (n+1) (H[n]'(by omega))).set n h) M b _ h.f0 h.f1 h.f2) _
    rw [e]
    refine ih (by omega) (fun j hj hij=>?_)
    by_cases q:j=n
    ·subst q;exact c
    ·exact hg j hj (by omega)
   ·refine Ev.neg c (Ev.eq (Ev.now _) ?_)
    have hs:(H[n]'(by omega)).f0<h.f0:=by have:=hne n (by omega);omega
    have e:town_house.cnt H h.f0=n+1:=cnt_is (by omega) (fun j hj x=>by
     by_cases q:j=n
     ·subst q;exact hs
     ·have:=hi j n hj (by omega) (by omega);omega) (fun j hj x=>by have:=hg j hj x;omega)
    unfold ins
    rw [e]
    simp only [List.append_assoc,List.cons_append,List.nil_append]
 unfold h11_build.f
 refine Ev.bindc (Copy_eq hH hM) (Ev.pos (by dsimp only;omega) ?_)
 dsimp only
 refine Ev.bindc rfl ?_
 have e1:wrap64 (((H ++ [(⟨h.f0,h.f1,h.f2⟩:S68)]).length:Int) - 1)=(H.length:Int):=by
  rw [List.length_append]
  simp only [List.length_cons,List.length_nil]
  rw [wrap_in (by omega) (by omega)]
  omega
 rw [e1]
 have e2:H ++ [(⟨h.f0,h.f1,h.f2⟩:S68)]=H.take H.length ++ h :: H.drop H.length:=by
  rw [List.take_length,List.drop_length]
 rw [e2]
 exact key H.length (Nat.le_refl _) (fun j hj x=>by omega)
end Go.Proofs.Ytbdijpjlgokfkaa.Pure
