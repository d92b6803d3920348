/- Layer 6, WaterSailsLeast (P6.4): a ship goes over joined tiles from one end to the other, no way that is given has fewer tiles, and there is one just if both ends lie in one area. No conditions. -/
import Derived.Test.YtiencnnkphipoaaPx0
import Derived.Test.YtiencnnkphipoaaPx1
import Derived.Test.YtiencnnkphipoaaPx4
import Derived.Test.YtiencnnkphipoaaPx6
import Derived.Test.YtiencnnkphipoaaPx7
import Derived.Test.YtiencnnkphipoaaPx35
import Derived.Test.YtiencnnkphipoaaPx36
import Derived.Test.YtiencnnkphipoaaPSWaterSailsLeast
import Derived.Test.YtiencnnkphipoaaWater10
import Derived.Test.YtiencnnkphipoaaWaterY
namespace Go.Proofs.Ytiencnnkphipoaa.Pure
set_option linter.unusedVariables false
set_option linter.unusedSimpArgs false
open Go.RowKit Go.Proofs.YtiencnnkphipoaaW.PrintWords Go.Proofs.YtiencnnkphipoaaW.PrintMore Go.Proofs.Ytiencnnkphipoaa.P Go.Proofs.Ytiencnnkphipoaa

def StpI (w h : Nat) (C K : List Int) (a b : Int) : Prop := ∃ t u : Nat, a = (t : Int) ∧ b = (u : Int) ∧ Stp w h C K t u
def JoinsOK (w h : Nat) (C K : List Int) (v : List Int) : Prop := ∀ i, i + 1 < v.length → StpI w h C K (v.getD i 0) (v.getD (i + 1) 0)
section
variable {w h : Nat} {C K B : List Int}
theorem link_stp {t u : Nat} (q : Link (w * h) (mtW w h C K) t u) : Stp w h C K t u := by
 obtain ⟨ht,s,hs,hm⟩:=q
 obtain ⟨hj,hb⟩:=mt_some hm
 have:=bey_lt ht s
 exact ⟨ht,by omega,s,hs,hj,hb⟩
theorem stp_link {t u : Nat} (q : Stp w h C K t u) : Link (w * h) (mtW w h C K) t u := by
 obtain ⟨ht,hu,s,hs,hj,hb⟩:=q
 exact ⟨ht,s,hs,by unfold mtW;rw [if_pos hj,hb]⟩
theorem chain_app {u v : Nat} (hs : Stp w h C K u v) : ∀ (q : List Int) (a : Nat), Chain w h C K a q u → Chain w h C K a (q ++ [(v : Int)]) v
 | [],a,e => by
  have e' : a = u:=e
  subst e'
  exact ⟨v,rfl,hs,rfl⟩
 | x :: q,a,⟨n,e,s,c⟩ => ⟨n,e,s,chain_app hs q n c⟩
theorem chain_reach {b : Nat} : ∀ (q : List Int) (a : Nat), Chain w h C K a q b → Reach (w * h) (mtW w h C K) a b
 | [],a,e => by
  have e' : a = b:=e
  subst e'
  exact .refl
 | x :: q,a,⟨n,e,s,c⟩ => (Reach.step .refl (stp_link s)).trans (chain_reach q n c)
theorem reach_chain {a b : Nat} (r : Reach (w * h) (mtW w h C K) a b) : ∃ q, Chain w h C K a q b := by
 induction r with
 | refl => exact ⟨[],rfl⟩
 | step _ l ih =>
  obtain ⟨q,hq⟩:=ih
  exact ⟨_,chain_app (link_stp l) q _ hq⟩
theorem joins_of {z : Nat} : ∀ (p : List Int) (a : Nat), Chain w h C K a p z → JoinsOK w h C K ((a : Int) :: p) ∧ ((a : Int) :: p).getD p.length 0 = (z : Int)
 | [],a,e => by
  have e' : a = z:=e
  subst e'
  exact ⟨fun i hi => by simp at hi,rfl⟩
 | x :: p,a,⟨n,e,s,c⟩ => by
  subst e
  obtain ⟨h1,h2⟩:=joins_of p n c
  refine ⟨fun i hi => ?_,by simpa using h2⟩
  cases i with
  | zero => exact ⟨a,n,rfl,rfl,s⟩
  | succ i =>
   have:=h1 i (by simpa using hi)
   simpa using this
theorem chain_of {z : Nat} : ∀ (q : List Int) (a : Nat), JoinsOK w h C K ((a : Int) :: q) → ((a : Int) :: q).getD q.length 0 = (z : Int) → Chain w h C K a q z
 | [],a,_,e => by
  have e' : (a : Int) = (z : Int):=e
  show a = z
  omega
 | x :: q,a,hj,e => by
  obtain ⟨t,n,e1,e2,s⟩:=hj 0 (by simp)
  have e1' : (a : Int) = (t : Int):=e1
  have e2' : x = (n : Int):=e2
  obtain rfl : t = a:=by omega
  subst e2'
  refine ⟨n,rfl,s,chain_of q n (fun i hi => ?_) (by simpa using e)⟩
  have:=hj (i + 1) (by simpa using hi)
  simpa using this
theorem bey_one {t : Nat} (L : Land w h C) {s s' : Int} (hs : 0 ≤ s ∧ s ≤ 3) (hs' : 0 ≤ s' ∧ s' ≤ 3) (he : bey w h t s = bey w h t s') (h0 : 0 ≤ bey w h t s) : s = s' := by
 have w0:=L.w0
 have ge : t / w = 0 ∨ w ≤ t:=by
  rcases Nat.eq_zero_or_pos (t / w) with q | q
  ·exact .inl q
  ·exact .inr (Nat.le_trans (Nat.le_mul_of_pos_left w q) (Nat.div_mul_le_self t w))
 have le:=Nat.mod_le t w
 rcases (by omega : s = 0 ∨ s = 1 ∨ s = 2 ∨ s = 3) with rfl | rfl | rfl | rfl <;> rcases (by omega : s' = 0 ∨ s' = 1 ∨ s' = 2 ∨ s' = 3) with rfl | rfl | rfl | rfl <;> first | rfl | (exfalso;simp only [bey0,bey1,bey2,bey3] at he h0;(repeat' split at he) <;> first | omega | (split at h0 <;> omega))
theorem beside_ev (L : Land w h C) (a b : Int) : ∃ r : Int, Ev (fun k => hinterlandlaw06_beside.f k (w : Int) (h : Int) C a b) r ∧ ((r = -1 ∧ ∀ t : Nat, t < w * h → a = (t : Int) → ∀ s : Int, 0 ≤ s → s ≤ 3 → ¬ (bey w h t s = b ∧ 0 ≤ b)) ∨ ∃ t : Nat, t < w * h ∧ a = (t : Int) ∧ (0 ≤ r ∧ r ≤ 3) ∧ bey w h t r = b ∧ 0 ≤ b) := by
 unfold hinterlandlaw06_beside.f
 have fin : Ev (fun k => hinterlandlaw06_beside.l0 k a b 4 (w : Int) (h : Int) C) (-1):=Ev.step (fun k => by simp only [hinterlandlaw06_beside.l0];rfl) (Ev.neg (by decide) (Ev.now _))
 by_cases q : 0 ≤ a ∧ a < ((w * h : Nat) : Int)
 rotate_left
 ·have one : ∀ s : Int,0 ≤ s ∧ s ≤ 3 → Ev (fun k => hinterlandlaw06_beside.l0 k a b (s + 1) (w : Int) (h : Int) C) (-1) → Ev (fun k => hinterlandlaw06_beside.l0 k a b s (w : Int) (h : Int) C) (-1):=by
   intro s hs hr
   refine Ev.step (fun k => by simp only [hinterlandlaw06_beside.l0];rfl) (Ev.pos (by omega) (Ev.bindc (is_eq L a) (Ev.neg (fun hc => q (of_decide_eq_true hc)) ?_)))
   rw [wrap_in (x:=s + 1) (by omega) (by omega)];exact hr
  exact ⟨-1,one 0 (by decide) (one 1 (by decide) (one 2 (by decide) (one 3 (by decide) fin))),.inl ⟨rfl,fun t ht e => absurd ⟨by omega,by omega⟩ q⟩⟩
 obtain ⟨t,rfl⟩:=Int.eq_ofNat_of_zero_le q.1
 have ht : t < w * h:=by omega
 have one : ∀ s : Int,0 ≤ s ∧ s ≤ 3 → ¬ (bey w h t s = b ∧ 0 ≤ b) → ∀ r,Ev (fun k => hinterlandlaw06_beside.l0 k (t : Int) b (s + 1) (w : Int) (h : Int) C) r → Ev (fun k => hinterlandlaw06_beside.l0 k (t : Int) b s (w : Int) (h : Int) C) r:=by
  intro s hs hn r hr
  refine Ev.step (fun k => by simp only [hinterlandlaw06_beside.l0];rfl) (Ev.pos (by omega) (Ev.bindc (is_eq L _) (Ev.pos (decide_eq_true q) (Ev.bindc (ref_beyond_eq L ht hs) ?_))))
  rw [wrap_in (x:=s + 1) (by omega) (by omega)]
  by_cases c : bey w h t s = b
  ·exact Ev.pos c (Ev.neg (fun hb => hn ⟨c,hb⟩) hr)
  ·exact Ev.neg c hr
 have hit : ∀ s : Int,0 ≤ s ∧ s ≤ 3 → (bey w h t s = b ∧ 0 ≤ b) → Ev (fun k => hinterlandlaw06_beside.l0 k (t : Int) b s (w : Int) (h : Int) C) s:=by
  intro s hs hn
  exact Ev.step (fun k => by simp only [hinterlandlaw06_beside.l0];rfl) (Ev.pos (by omega) (Ev.bindc (is_eq L _) (Ev.pos (decide_eq_true q) (Ev.bindc (ref_beyond_eq L ht hs) (Ev.pos hn.1 (Ev.pos hn.2 (Ev.now _)))))))
 by_cases c0 : bey w h t 0 = b ∧ 0 ≤ b
 ·exact ⟨0,hit 0 (by decide) c0,.inr ⟨t,ht,rfl,by decide,c0⟩⟩
 by_cases c1 : bey w h t 1 = b ∧ 0 ≤ b
 ·exact ⟨1,one 0 (by decide) c0 _ (hit 1 (by decide) c1),.inr ⟨t,ht,rfl,by decide,c1⟩⟩
 by_cases c2 : bey w h t 2 = b ∧ 0 ≤ b
 ·exact ⟨2,one 0 (by decide) c0 _ (one 1 (by decide) c1 _ (hit 2 (by decide) c2)),.inr ⟨t,ht,rfl,by decide,c2⟩⟩
 by_cases c3 : bey w h t 3 = b ∧ 0 ≤ b
 ·exact ⟨3,one 0 (by decide) c0 _ (one 1 (by decide) c1 _ (one 2 (by decide) c2 _ (hit 3 (by decide) c3))),.inr ⟨t,ht,rfl,by decide,c3⟩⟩
 refine ⟨-1,one 0 (by decide) c0 _ (one 1 (by decide) c1 _ (one 2 (by decide) c2 _ (one 3 (by decide) c3 _ fin))),.inl ⟨rfl,fun t' _ e s h0 h3 => ?_⟩⟩
 obtain rfl : t = t':=by have e' : (t : Int) = (t' : Int):=e;omega
 rcases (by omega : s = 0 ∨ s = 1 ∨ s = 2 ∨ s = 3) with rfl | rfl | rfl | rfl
 ·exact c0
 ·exact c1
 ·exact c2
 ·exact c3
theorem pair_ev (U : Waters w h C K B) (hC : C.length ≤ 4000) (hB : B.length ≤ 4000) (a b : Int) : ∃ r : Int, Ev (fun k => hinterlandlaw06_beside.f k (w : Int) (h : Int) C a b) r ∧ ((r < 0 ∧ ¬ StpI w h C K a b) ∨ (¬ r < 0 ∧ ∃ j : Bool, Ev (fun k => water_Joined.f k (w : Int) (h : Int) C K B a r) (j, 0) ∧ (j = true ↔ StpI w h C K a b))) := by
 obtain ⟨r,r1,r2⟩:=beside_ev U.land a b
 refine ⟨r,r1,?_⟩
 rcases r2 with ⟨rfl,hn⟩ | ⟨t,ht,rfl,hr,hb,h0⟩
 ·refine .inl ⟨by decide,?_⟩
  rintro ⟨t,u,rfl,rfl,ht,hu,s,hs,hj,he⟩
  exact hn t ht rfl s hs.1 hs.2 ⟨he,by omega⟩
 ·refine .inr ⟨by omega,join w h C K t r,Ev.eq (joined_ev hC hB) ?_,?_⟩
  ·unfold joinedR
   rw [if_pos (of_acode U ht),if_pos hr]
   simp only [Int.toNat_natCast]
  ·constructor
   ·intro hj
    have:=bey_lt ht r
    exact ⟨t,b.toNat,rfl,by omega,ht,by omega,r,hr,hj,by omega⟩
   ·rintro ⟨t',u,e1,rfl,ht',hu,s,hs,hj,he⟩
    obtain rfl : t = t':=by omega
    rw [bey_one U.land hr hs (by rw [hb,he]) (by omega)]
    exact hj
theorem joins_ev (U : Waters w h C K B) (hC : C.length ≤ 4000) (hB : B.length ≤ 4000) (v : List Int) (hl : v.length ≤ 8000) : ∃ r : Bool, Ev (fun k => hinterlandlaw06_joins.f k (w : Int) (h : Int) C K B v) r ∧ (r = true ↔ JoinsOK w h C K v) := by
 unfold hinterlandlaw06_joins.f
 have body : ∀ i : Nat,i < v.length - 1 → ∀ r : Bool,(StpI w h C K (v.getD i 0) (v.getD (i + 1) 0) → Ev (fun k => hinterlandlaw06_joins.l0 k v ((i : Int) + 1 + 1) (w : Int) (h : Int) C K B) r) → (¬ StpI w h C K (v.getD i 0) (v.getD (i + 1) 0) → r = false) → Ev (fun k => hinterlandlaw06_joins.l0 k v ((i : Int) + 1) (w : Int) (h : Int) C K B) r:=by
  intro i hi r hy hn
  obtain ⟨s,s1,s2⟩:=pair_ev U hC hB (v.getD i 0) (v.getD (i + 1) 0)
  refine Ev.step (fun k => by simp only [hinterlandlaw06_joins.l0];rfl) (Ev.pos (by omega) ?_)
  rw [wrap_in (x:=(i : Int) + 1 - 1) (by omega) (by omega),show (i : Int) + 1 - 1 = (i : Int) by omega]
  refine Ev.pos (by omega) (Ev.pos (by omega) (Ev.pos (by omega) ?_))
  rw [rdN,show (i : Int) + 1 = ((i + 1 : Nat) : Int) by omega,rdN]
  refine Ev.bind s1 ?_
  rcases s2 with ⟨c,d⟩ | ⟨c,j,j1,j2⟩
  ·rw [hn d];exact Ev.pos c (Ev.now _)
  ·refine Ev.neg c (Ev.bind j1 ?_)
   by_cases hj : j = true
   ·refine Ev.pos hj (Ev.step (fun k => by simp only [hinterlandlaw06_joins.j1];rfl) (Ev.neg (show ¬ (((0 : Int) != 0) = true) by decide) ?_))
    rw [wrap_in (x:=((i + 1 : Nat) : Int) + 1) (by omega) (by omega)]
    have:=hy (j2.1 hj)
    rw [show (i : Int) + 1 + 1 = ((i + 1 : Nat) : Int) + 1 by omega] at this
    exact this
   ·rw [hn (fun z => hj (j2.2 z))]
    exact Ev.neg hj (Ev.step (fun k => by simp only [hinterlandlaw06_joins.j1];rfl) (Ev.pos (show true = true from rfl) (Ev.now _)))
 by_cases hJ : JoinsOK w h C K v
 ·refine ⟨true,?_,by simp [hJ]⟩
  refine Ev.scan_all (g:=fun k i => hinterlandlaw06_joins.l0 k v (i + 1) (w : Int) (h : Int) C K B) (p:=fun i => StpI w h C K (v.getD i 0) (v.getD (i + 1) 0)) (n:=v.length - 1) (Ev.step (fun k => by simp only [hinterlandlaw06_joins.l0];rfl) (Ev.neg (by omega) (Ev.now _))) ?_ (v.length - 1) 0 (by omega) (fun j _ hj => hJ j (by omega))
  intro i hi hp r hr
  exact body i hi r (fun _ => hr) (fun hn => absurd hp hn)
 ·refine ⟨false,?_,by simp [hJ]⟩
  refine Ev.scan_some (g:=fun k i => hinterlandlaw06_joins.l0 k v (i + 1) (w : Int) (h : Int) C K B) (p:=fun i => StpI w h C K (v.getD i 0) (v.getD (i + 1) 0)) (n:=v.length - 1) ?_ ?_ (v.length - 1) 0 (by omega) ?_
  ·intro i hi hp r hr
   exact body i hi r (fun _ => hr) (fun hn => absurd hp hn)
  ·intro i hi hp
   exact body i hi false (fun hy => absurd hy hp) (fun _ => rfl)
  ·apply Classical.byContradiction
   intro hc
   exact hJ fun i hi => Classical.byContradiction fun hp => hc ⟨i,Nat.zero_le _,by omega,hp⟩
def Ends (w h : Nat) (C K : List Int) (a b : Int) (na nb : Nat) : Prop := a = (na : Int) ∧ b = (nb : Int) ∧ na < w * h ∧ nb < w * h ∧ wet w C K na = true ∧ wet w C K nb = true
theorem sail_prog (U : Waters w h C K B) (hC : C.length ≤ 4000) (hB : B.length ≤ 4000) (a b : Int) : ∃ r : List Int × Int, Ev (fun k => water_Sail.f k (w : Int) (h : Int) C K B a b) r ∧ ((∃ na nb : Nat, Ends w h C K a b na nb ∧ Least w h C K na nb r) ∨ (r = ([], 2) ∧ ¬ ∃ na nb : Nat, Ends w h C K a b na nb)) := by
 unfold water_Sail.f
 have hKl:=U.len
 have hwh : w * h ≤ 32 * 32:=mulle U.land.w1 U.land.h1
 have hw' : wcode (w : Int) (h : Int) C K B = 0:=of_waters U
 have P : ∀ r,Ev (fun k => water_Sail.l0 k a b (⟨a,b⟩ : S59) 0 K B (w : Int) (h : Int) (gS w h C) (gB w h C) (gE w h C)) r → Ev (fun k => (water_check.f k (w : Int) (h : Int) C K B).bind fun g => if g.2.2.2.2.2 = 0 then water_Sail.l0 k a b (⟨a,b⟩ : S59) 0 K B g.1 g.2.1 g.2.2.1 g.2.2.2.1 g.2.2.2.2.1 else some (([] : List Int),g.2.2.2.2.2)) r:=by
  intro r hr
  refine Ev.bind (check_ev hC hB) ?_
  simp only [if_pos (of_land U.land),Int.toNat_natCast]
  exact Ev.pos hw' hr
 by_cases qa : 0 ≤ a ∧ a < ((w * h : Nat) : Int)
 rotate_left
 ·refine ⟨([],2),P _ ?_,.inr ⟨rfl,fun ⟨na,nb,e1,_,e3,_⟩ => qa (by omega)⟩⟩
  refine Ev.step (fun k => by simp only [water_Sail.l0];rfl) (Ev.pos (by decide) (Ev.pos (by decide) ?_))
  change Ev (fun k => if a < 0 then some ([],2) else if a ≥ (K.length : Int) then some ([],2) else _) _
  by_cases q0 : a < 0
  ·exact Ev.pos q0 (Ev.now _)
  ·exact Ev.neg q0 (Ev.pos (by omega) (Ev.now _))
 obtain ⟨na,rfl⟩:=Int.eq_ofNat_of_zero_le qa.1
 have hna : na < w * h:=by omega
 have first : ∀ r,Ev (fun k => if wet w C K na = true then water_Sail.l0 k (na : Int) b (⟨(na : Int),b⟩ : S59) 1 K B (w : Int) (h : Int) (gS w h C) (gB w h C) (gE w h C) else some ([],2)) r → Ev (fun k => water_Sail.l0 k (na : Int) b (⟨(na : Int),b⟩ : S59) 0 K B (w : Int) (h : Int) (gS w h C) (gB w h C) (gE w h C)) r:=by
  intro r hr
  refine Ev.step (fun k => by simp only [water_Sail.l0];rfl) (Ev.pos (by decide) (Ev.pos (by decide) (Ev.neg (show ¬ (na : Int) < 0 by omega) (Ev.neg (show ¬ (na : Int) ≥ (K.length : Int) by omega) ?_))))
  refine Ev.bindc (show water_ground_wet.f (w : Int) (h : Int) (gS w h C) (gB w h C) (gE w h C) K B (na : Int) = some (wet w C K na) from wet_lt hKl hna) ?_
  rw [wrap_in (x:=(0 : Int) + 1) (by decide) (by decide)]
  exact hr
 by_cases wa : wet w C K na = true
 rotate_left
 ·exact ⟨([],2),P _ (first _ (Ev.neg wa (Ev.now _))),.inr ⟨rfl,fun ⟨na',nb,e1,_,_,_,e5,_⟩ => wa (by have e1' : (na : Int) = (na' : Int):=e1;rw [show na = na' by omega];exact e5)⟩⟩
 by_cases qb : 0 ≤ b ∧ b < ((w * h : Nat) : Int)
 rotate_left
 ·refine ⟨([],2),P _ (first _ ?_),.inr ⟨rfl,fun ⟨na',nb,_,e2,_,e4,_⟩ => qb (by omega)⟩⟩
  refine Ev.pos wa (Ev.step (fun k => by simp only [water_Sail.l0];rfl) (Ev.pos (by decide) (Ev.pos (by decide) ?_)))
  change Ev (fun k => if b < 0 then some ([],2) else if b ≥ (K.length : Int) then some ([],2) else _) _
  by_cases q0 : b < 0
  ·exact Ev.pos q0 (Ev.now _)
  ·exact Ev.neg q0 (Ev.pos (by omega) (Ev.now _))
 obtain ⟨nb,rfl⟩:=Int.eq_ofNat_of_zero_le qb.1
 have hnb : nb < w * h:=by omega
 have second : ∀ r,Ev (fun k => if wet w C K nb = true then water_Sail.l0 k (na : Int) (nb : Int) (⟨(na : Int),(nb : Int)⟩ : S59) 2 K B (w : Int) (h : Int) (gS w h C) (gB w h C) (gE w h C) else some ([],2)) r → Ev (fun k => water_Sail.l0 k (na : Int) (nb : Int) (⟨(na : Int),(nb : Int)⟩ : S59) 1 K B (w : Int) (h : Int) (gS w h C) (gB w h C) (gE w h C)) r:=by
  intro r hr
  refine Ev.step (fun k => by simp only [water_Sail.l0];rfl) (Ev.pos (by decide) (Ev.pos (by decide) (Ev.neg (show ¬ (nb : Int) < 0 by omega) (Ev.neg (show ¬ (nb : Int) ≥ (K.length : Int) by omega) ?_))))
  refine Ev.bindc (show water_ground_wet.f (w : Int) (h : Int) (gS w h C) (gB w h C) (gE w h C) K B (nb : Int) = some (wet w C K nb) from wet_lt hKl hnb) ?_
  rw [wrap_in (x:=(1 : Int) + 1) (by decide) (by decide)]
  exact hr
 by_cases wb : wet w C K nb = true
 rotate_left
 ·exact ⟨([],2),P _ (first _ (Ev.pos wa (second _ (Ev.neg wb (Ev.now _))))),.inr ⟨rfl,fun ⟨na',nb',_,e2,_,_,_,e6⟩ => wb (by have e2' : (nb : Int) = (nb' : Int):=e2;rw [show nb = nb' by omega];exact e6)⟩⟩
 obtain ⟨r,r0,r1⟩:=spread1 U hna _ _ _ _ 0 (bfs_start (C:=C) (K:=K) hnb) (lab_start (w:=w) (h:=h) (C:=C) (K:=K) hnb).2 (by simp) (Nat.le_refl _)
 exact ⟨r,P _ (first _ (Ev.pos wa (second _ (Ev.pos wb (Ev.step (fun k => by simp only [water_Sail.l0];rfl) (Ev.neg (by decide) r1)))))),.inl ⟨na,nb,⟨rfl,rfl,hna,hnb,wa,wb⟩,r0⟩⟩
end
theorem WaterSailsLeast : hinterlandlaw06_WaterSailsLeast.Pure := by
 intro W H C K B a b v _ _ _ _ _ _ _ _
 refine Ev.rounds ?_
 unfold hinterlandlaw06_WaterSailsLeast.f
 refine Ev.bindc (large_eq _ _ _ _ _) ?_
 have far : ∀ q,q = true → Ev (fun k => hinterlandlaw06_WaterSailsLeast.j0 k a b v q W H C K B) true:=fun q hq => Ev.step (fun k => by simp only [hinterlandlaw06_WaterSailsLeast.j0];rfl) (Ev.pos hq known_then)
 by_cases hfar : (C.length : Int) > 4000 ∨ (K.length : Int) > 4000 ∨ (B.length : Int) > 4000
 ·exact Ev.pos (decide_eq_true hfar) (far _ rfl)
 refine Ev.neg (fun h => hfar (of_decide_eq_true h)) ?_
 by_cases hv : (v.length : Int) > 4000
 ·exact far _ (decide_eq_true hv)
 have hC : C.length ≤ 4000:=by omega
 have hB : B.length ≤ 4000:=by omega
 refine Ev.step (fun k => by simp only [hinterlandlaw06_WaterSailsLeast.j0];rfl) (Ev.neg (fun hc => hv (of_decide_eq_true hc)) (Ev.bind (areas_ev hC hB) ?_))
 by_cases hw : wcode W H C K B = 0
 rotate_left
 ·have ar : areasR W H C K B = ([],wcode W H C K B):=by unfold areasR;rw [if_neg hw]
  rw [ar]
  exact Ev.neg hw known_then
 have hw':=hw
 obtain ⟨w,h,rfl,rfl,U⟩:=waters_of hw
 have hKl:=U.len
 have hwh : w * h ≤ 32 * 32:=mulle U.land.w1 U.land.h1
 have g:=netW U
 have ar : areasR (w : Int) (h : Int) C K B = (parts (w * h) (mtW w h C K) (wet w C K),0):=by unfold areasR;rw [if_pos hw'];simp only [Int.toNat_natCast]
 rw [ar]
 refine Ev.pos rfl ?_
 obtain ⟨r,r1,r2⟩:=sail_prog U hC hB a b
 refine Ev.bind r1 ?_
 have pl:=parts_len (w * h) (mtW w h C K) (wet w C K)
 -- what is asked,if there is a way and if there is none
 have yes : ∀ na nb : Nat,Ends w h C K a b na nb → Reach (w * h) (mtW w h C K) na nb → ∀ q,q = true → Ev (fun k => hinterlandlaw06_WaterSailsLeast.j1 k a b v r.1 r.2 q (w : Int) (h : Int) C K B) true:=by
  rintro na nb ⟨rfl,rfl,hna,hnb,wa,wb⟩ hr q rfl
  obtain ⟨q0,hq0⟩:=reach_chain hr
  have hl : Least w h C K na nb r:=by
   rcases r2 with ⟨na',nb',⟨e1,e2,_⟩,l⟩ | ⟨_,hn⟩
   ·rw [show na = na' by omega,show nb = nb' by omega];exact l
   ·exact absurd ⟨na,nb,rfl,rfl,hna,hnb,wa,wb⟩ hn
  rcases hl with ⟨p,rfl,plen,pc,least⟩ | ⟨_,hn⟩
  rotate_left
  ·exact absurd ⟨q0,hq0⟩ hn
  obtain ⟨po,pz⟩:=joins_of p na pc
  obtain ⟨jr,j1,j2⟩:=joins_ev U hC hB ((na : Int) :: p) (by simp;omega)
  have jt : jr = true:=j2.2 po
  subst jt
  have hlen : (((na : Int) :: p).length : Int) = (p.length : Int) + 1:=by simp
  have wl : wrap64 ((((na : Int) :: p).length : Int) - 1) = (p.length : Int):=by rw [hlen,wrap_in (by omega) (by omega)];omega
  refine Ev.step (fun k => by simp only [hinterlandlaw06_WaterSailsLeast.j1];rfl) (Ev.neg (show ¬ ((true != ((0 : Int) == 0)) = true) by decide) (Ev.pos (show true = true from rfl) ?_))
  show Ev (fun k => if (((na : Int) :: p).length : Int) = 0 then _ else _) true
  refine Ev.neg (by omega) (Ev.pos (by omega) (Ev.pos rfl ?_))
  rw [wl]
  refine Ev.pos (by omega) (Ev.pos (by omega) ?_)
  rw [rdN]
  refine Ev.pos pz (Ev.bind j1 ?_)
  have j4 : ∀ k0 : Bool,k0 = true → Ev (fun k => hinterlandlaw06_WaterSailsLeast.j4 k k0) true:=fun k0 e => by
   subst e
   exact Ev.step (fun k => by simp only [hinterlandlaw06_WaterSailsLeast.j4] <;> rfl) (Ev.now _)
  have kn:=Ev.bind known_ev (f:=fun k t => hinterlandlaw06_WaterSailsLeast.j4 k t) (j4 true rfl)
  refine Ev.step (fun k => by simp only [hinterlandlaw06_WaterSailsLeast.j3];rfl) (Ev.neg (show ¬ ((!true) = true) by decide) ?_)
  by_cases v0 : (v.length : Int) > 0
  rotate_left
  ·exact Ev.neg v0 kn
  refine Ev.pos v0 ?_
  by_cases v1 : (v.length : Int) < (((na : Int) :: p).length : Int)
  rotate_left
  ·exact Ev.neg v1 kn
  refine Ev.pos v1 (Ev.pos v0 ?_)
  by_cases v2 : rd v 0 = (na : Int)
  rotate_left
  ·exact Ev.neg v2 kn
  refine Ev.pos v2 ?_
  rw [wrap_in (x:=(v.length : Int) - 1) (by omega) (by omega)]
  refine Ev.pos (by omega) (Ev.pos (by omega) ?_)
  by_cases v3 : rd v ((v.length : Int) - 1) = (nb : Int)
  rotate_left
  ·exact Ev.neg v3 kn
  obtain ⟨vr,k1,k2⟩:=joins_ev U hC hB v (by omega)
  refine Ev.pos v3 (Ev.bind k1 ?_)
  by_cases v4 : vr = true
  rotate_left
  ·exact Ev.neg v4 kn
  exfalso
  have vj:=k2.1 v4
  cases v with
  | nil => simp at v0
  | cons x qv =>
   have x0 : x = (na : Int):=v2
   subst x0
   have lv : (((na : Int) :: qv).length : Int) - 1 = ((qv.length : Nat) : Int):=by simp
   rw [lv,rdN] at v3
   have:=least qv (chain_of qv na vj v3)
   simp only [List.length_cons] at v1
   omega
 have no : (¬ ∃ na nb : Nat,Ends w h C K a b na nb ∧ Reach (w * h) (mtW w h C K) na nb) → ∀ q,q = false → Ev (fun k => hinterlandlaw06_WaterSailsLeast.j1 k a b v r.1 r.2 q (w : Int) (h : Int) C K B) true:=by
  rintro hn q rfl
  have e : r = ([],2):=by
   rcases r2 with ⟨na,nb,he,⟨p,_,_,pc,_⟩ | ⟨e,_⟩⟩ | ⟨e,_⟩
   ·exact absurd ⟨na,nb,he,chain_reach p na pc⟩ hn
   ·exact e
   ·exact e
  subst e
  refine Ev.step (fun k => by simp only [hinterlandlaw06_WaterSailsLeast.j1];rfl) (Ev.neg (show ¬ ((false != ((2 : Int) == 0)) = true) by decide) (Ev.neg Bool.false_ne_true (Ev.pos (show (([] : List Int).length : Int) = 0 from rfl) ?_)))
  exact Ev.bind known_ev (Ev.step (fun k => by simp only [hinterlandlaw06_WaterSailsLeast.j2] <;> rfl) (Ev.now _))
 by_cases qa : 0 ≤ a ∧ a < ((w * h : Nat) : Int)
 rotate_left
 ·refine Ev.bindc (is_eq U.land a) (Ev.neg (fun hc => qa (of_decide_eq_true hc)) (no ?_ _ rfl))
  rintro ⟨na,nb,⟨e1,_,e3,_⟩,_⟩
  exact qa (by omega)
 refine Ev.bindc (is_eq U.land a) (Ev.pos (decide_eq_true qa) ?_)
 by_cases qb : 0 ≤ b ∧ b < ((w * h : Nat) : Int)
 rotate_left
 ·refine Ev.bindc (is_eq U.land b) (Ev.neg (fun hc => qb (of_decide_eq_true hc)) (no ?_ _ rfl))
  rintro ⟨na,nb,⟨_,e2,_,e4,_⟩,_⟩
  exact qb (by omega)
 refine Ev.bindc (is_eq U.land b) (Ev.pos (decide_eq_true qb) ?_)
 obtain ⟨na,rfl⟩:=Int.eq_ofNat_of_zero_le qa.1
 obtain ⟨nb,rfl⟩:=Int.eq_ofNat_of_zero_le qb.1
 have hna : na < w * h:=by omega
 have hnb : nb < w * h:=by omega
 have la:=low_le (w * h) (mtW w h C K) na
 have lb':=low_le (w * h) (mtW w h C K) nb
 have pa : (parts (w * h) (mtW w h C K) (wet w C K)).getD na 0 = if wet w C K na = true then (low (w * h) (mtW w h C K) na : Int) else -1:=by
  rw [parts_at hna];unfold lab
  by_cases c : wet w C K na = true
  ·rw [if_pos ⟨c,by omega⟩,if_pos c]
  ·rw [if_neg (fun z => c z.1),if_neg c]
 have pb : (parts (w * h) (mtW w h C K) (wet w C K)).getD nb 0 = if wet w C K nb = true then (low (w * h) (mtW w h C K) nb : Int) else -1:=by
  rw [parts_at hnb];unfold lab
  by_cases c : wet w C K nb = true
  ·rw [if_pos ⟨c,by omega⟩,if_pos c]
  ·rw [if_neg (fun z => c z.1),if_neg c]
 refine Ev.pos (by rw [pl,hKl]) (Ev.pos (Int.natCast_nonneg na) (Ev.pos (by rw [pl];exact qa.2) ?_))
 change Ev (fun k => if rd (parts (w * h) (mtW w h C K) (wet w C K)) (na : Int) ≥ 0 then _ else _) true
 rw [rdN,pa]
 by_cases wa : wet w C K na = true
 rotate_left
 ·rw [if_neg wa]
  refine Ev.neg (by decide) (no ?_ _ rfl)
  rintro ⟨na',nb',⟨e1,_,_,_,e5,_⟩,_⟩
  have e1' : (na : Int) = (na' : Int):=e1
  rw [show na = na' by omega] at wa
  exact wa e5
 rw [if_pos wa]
 refine Ev.pos (by omega) (Ev.pos (Int.natCast_nonneg nb) (Ev.pos (by rw [pl];exact qb.2) ?_))
 change Ev (fun k => hinterlandlaw06_WaterSailsLeast.j1 k (na : Int) (nb : Int) v r.1 r.2 ((low (w * h) (mtW w h C K) na : Int) == rd (parts (w * h) (mtW w h C K) (wet w C K)) (nb : Int)) (w : Int) (h : Int) C K B) true
 rw [rdN,pb]
 by_cases wb : wet w C K nb = true
 rotate_left
 ·rw [if_neg wb]
  refine no ?_ _ (by rw [beq_eq_false_iff_ne];omega)
  rintro ⟨na',nb',⟨_,e2,_,_,_,e6⟩,_⟩
  have e2' : (nb : Int) = (nb' : Int):=e2
  rw [show nb = nb' by omega] at wb
  exact wb e6
 rw [if_pos wb]
 by_cases hlo : low (w * h) (mtW w h C K) na = low (w * h) (mtW w h C K) nb
 ·refine yes na nb ⟨rfl,rfl,hna,hnb,wa,wb⟩ ?_ _ (by rw [hlo];exact beq_self_eq_true _)
  have r3:=low_reach (w * h) (mtW w h C K) na
  rw [hlo] at r3
  exact r3.trans ((low_reach (w * h) (mtW w h C K) nb).symm g)
 ·refine no ?_ _ (by rw [beq_eq_false_iff_ne];omega)
  rintro ⟨na',nb',⟨e1,e2,_⟩,hr⟩
  have e1' : (na : Int) = (na' : Int):=e1
  have e2' : (nb : Int) = (nb' : Int):=e2
  rw [← show na = na' by omega,← show nb = nb' by omega] at hr
  exact hlo (low_eq g hr)

end Go.Proofs.Ytiencnnkphipoaa.Pure
