/- What the functions of layer 6 (waters) come to, in plain words: the way of a ship is a least one. No conditions. -/
import Derived.Test.YtiencnnkphipoaaPx0
import Derived.Test.YtiencnnkphipoaaPx7
import Derived.Test.YtiencnnkphipoaaWater9
namespace Go.Proofs.Ytiencnnkphipoaa.Pure
set_option linter.unusedVariables false
set_option linter.unusedSimpArgs false
open Go.RowKit Go.Proofs.YtiencnnkphipoaaW.PrintWords Go.Proofs.YtiencnnkphipoaaW.PrintMore Go.Proofs.Ytiencnnkphipoaa.P Go.Proofs.Ytiencnnkphipoaa

theorem app_at {l : List Int} {x : Int} {j : Nat} (h : j < l.length) : (l ++ [x]).getD j 0 = l.getD j 0 := by
 rw [List.getD_eq_getElem?_getD,List.getElem?_append_left h,← List.getD_eq_getElem?_getD]
theorem app_end (l : List Int) (x : Int) : (l ++ [x]).getD l.length 0 = x := by simp
def Stp (w h : Nat) (C K : List Int) (t u : Nat) : Prop := t < w * h ∧ u < w * h ∧ ∃ s : Int, (0 ≤ s ∧ s ≤ 3) ∧ join w h C K t s = true ∧ bey w h t s = (u : Int)
def Chain (w h : Nat) (C K : List Int) : Nat → List Int → Nat → Prop
 | a,[],z => a = z
 | a,x :: p,z => ∃ n : Nat,x = (n : Int) ∧ Stp w h C K a n ∧ Chain w h C K n p z
def lb (L line : List Int) (j : Nat) : Int := L.getD (line.getD j 0).toNat 0
structure Bfs (w h : Nat) (C K : List Int) (to_ : Nat) (L line : List Int) (i : Nat) : Prop where
 lab : Lab w h C K to_ L line
 has : ∀ t : Nat,t < w * h → 0 ≤ L.getD t 0 → (t : Int) ∈ line
 ord : ∀ j k,j ≤ k → k < line.length → lb L line j ≤ lb L line k
 top : i < line.length → ∀ k,k < line.length → lb L line k ≤ lb L line i + 1
 cls : ∀ j,j < i → j < line.length → ∀ u,Stp w h C K (line.getD j 0).toNat u → 0 ≤ L.getD u 0 ∧ L.getD u 0 ≤ lb L line j + 1
def Sds (w h : Nat) (C K L : List Int) (p : Nat) (s : Int) : Prop := ∀ s' : Int, 0 ≤ s' → s' < s → ∀ u : Nat, join w h C K p s' = true → bey w h p s' = (u : Int) → 0 ≤ L.getD u 0 ∧ L.getD u 0 ≤ L.getD p 0 + 1
section
variable {w h : Nat} {C K B : List Int} {to_ : Nat}
theorem Stp.back {t u : Nat} (q : Stp w h C K t u) : Stp w h C K u t := by
 obtain ⟨ht,hu,s,hs,hj,hb⟩:=q
 have h2:=(join_back ht hs hj).2
 have h3:=bey_back ht hs (by omega)
 rw [hb,Int.toNat_natCast] at h2 h3
 exact ⟨hu,ht,Int.tmod (s + 2) 4,(back2 hs).1,h2,h3⟩
theorem Bfs.step {L line : List Int} {i : Nat} (q : Bfs w h C K to_ L line i) (hi : i < line.length) {p : Nat} (hq : line.getD i 0 = (p : Int)) (hp : p < w * h) {s : Int} (hs : 0 ≤ s ∧ s ≤ 3) (hj : join w h C K p s = true) {b : Nat} (hb : bey w h p s = (b : Int)) (hbl : b < w * h) (hn : L.getD b 0 < 0) :
  0 ≤ L.getD p 0 ∧ Bfs w h C K to_ (L.set b (L.getD p 0 + 1)) (line ++ [(b : Int)]) i ∧ ∀ u : Nat,0 ≤ L.getD u 0 → (L.set b (L.getD p 0 + 1)).getD u 0 = L.getD u 0:=by
 have hlen:=q.lab.len
 have pl : 0 ≤ L.getD p 0:=by
  obtain ⟨t,e1,_,e3⟩:=q.lab.line_in _ (at_mem hi)
  rw [show p = t by omega];exact e3
 have keep : ∀ u : Nat,0 ≤ L.getD u 0 → (L.set b (L.getD p 0 + 1)).getD u 0 = L.getD u 0:=by
  intro u hu
  rw [set_at,if_neg]
  rintro ⟨rfl,_⟩
  omega
 have at_b : (L.set b (L.getD p 0 + 1)).getD b 0 = L.getD p 0 + 1:=by rw [set_at,if_pos ⟨rfl,by omega⟩]
 have old : ∀ j,j < line.length → lb (L.set b (L.getD p 0 + 1)) (line ++ [(b : Int)]) j = lb L line j:=by
  intro j hj
  unfold lb
  obtain ⟨t,e1,_,e3⟩:=q.lab.line_in _ (at_mem hj)
  rw [app_at hj,e1,Int.toNat_natCast,keep t e3]
 have new : lb (L.set b (L.getD p 0 + 1)) (line ++ [(b : Int)]) line.length = L.getD p 0 + 1:=by
  unfold lb
  rw [app_end,Int.toNat_natCast,at_b]
 have li : lb L line i = L.getD p 0:=by unfold lb;rw [hq,Int.toNat_natCast]
 have top:=q.top hi
 refine ⟨pl,⟨q.lab.step hp pl hs hj hb hbl hn,?_,?_,?_,?_⟩,keep⟩
 ·intro t ht h0
  by_cases e : t = b
  ·subst e;simp
  ·rw [set_at,if_neg (fun z => e z.1.symm)] at h0
   exact List.mem_append_left _ (q.has t ht h0)
 ·intro j k hjk hk
  simp only [List.length_append,List.length_singleton] at hk
  by_cases e : k < line.length
  ·rw [old j (by omega),old k e];exact q.ord j k hjk e
  ·obtain rfl : k = line.length:=by omega
   rw [new]
   by_cases e2 : j < line.length
   ·rw [old j e2,← li];exact top j e2
   ·obtain rfl : j = line.length:=by omega
    rw [new];exact Int.le_refl _
 ·intro _ k hk
  simp only [List.length_append,List.length_singleton] at hk
  rw [old i hi]
  by_cases e : k < line.length
  ·rw [old k e];exact top k e
  ·obtain rfl : k = line.length:=by omega
   rw [new,li];exact Int.le_refl _
 ·intro j hji _ u hu
  have hjl : j < line.length:=by omega
  rw [app_at hjl] at hu
  have:=q.cls j hji hjl u hu
  rw [keep u this.1,old j hjl]
  exact this
theorem Bfs.next {L line : List Int} {i : Nat} (q : Bfs w h C K to_ L line i) (hi : i < line.length) {p : Nat} (hq : line.getD i 0 = (p : Int)) (hS : Sds w h C K L p 4) : Bfs w h C K to_ L line (i + 1) := by
 refine ⟨q.lab,q.has,q.ord,fun h1 k hk => ?_,fun j hj hjl u hu => ?_⟩
 ·have:=q.top hi k hk
  have:=q.ord i (i + 1) (by omega) h1
  omega
 ·by_cases e : j < i
  ·exact q.cls j e hjl u hu
  ·obtain rfl : j = i:=by omega
   rw [hq,Int.toNat_natCast] at hu
   obtain ⟨_,_,s,hs,hj2,hb⟩:=hu
   have:=hS s hs.1 (by omega) u hj2 hb
   unfold lb
   rw [hq,Int.toNat_natCast]
   exact this
theorem chain_lb {L : List Int} (h0 : L.getD to_ 0 = 0) (cl : ∀ t u, Stp w h C K t u → 0 ≤ L.getD t 0 → 0 ≤ L.getD u 0 ∧ L.getD u 0 ≤ L.getD t 0 + 1) : ∀ (q : List Int) (a : Nat), Chain w h C K a q to_ → 0 ≤ L.getD a 0 ∧ L.getD a 0 ≤ (q.length : Int)
 | [],a,e => by
  have e' : a = to_:=e
  rw [e',h0];simp
 | x :: q,a,e => by
  obtain ⟨n,_,hs,hc⟩:=e
  have ih:=chain_lb h0 cl q n hc
  have:=cl n a hs.back ih.1
  simp only [List.length_cons]
  omega
theorem Bfs.end {L line : List Int} (q : Bfs w h C K to_ L line line.length) : ∀ t u, Stp w h C K t u → 0 ≤ L.getD t 0 → 0 ≤ L.getD u 0 ∧ L.getD u 0 ≤ L.getD t 0 + 1 := by
 intro t u hs h0
 obtain ⟨j,hj,e⟩:=mem_at (q.has t hs.1 h0)
 have:=q.cls j hj hj u (by rw [e,Int.toNat_natCast];exact hs)
 unfold lb at this
 rw [e,Int.toNat_natCast] at this
 exact this

theorem pick1 (U : Waters w h C K B) {L line : List Int} {m : List (Int × Int)} (hL : Lab w h C K to_ L line) (hT : Tells w h L m) {a : Nat} (ha : a < w * h) (n : Nat) (hd : L.getD a 0 = (n : Int) + 1) (o : List Int) (hn : n ≤ 5000)
  (next : ∀ b : Nat,b < w * h → L.getD b 0 = (n : Int) → ∃ p : List Int,p.length = n ∧ Chain w h C K b p to_ ∧ Ev (fun k => water_Sail.l3 k (b : Int) (n : Int) (o ++ [(b : Int)]) K B (w : Int) (h : Int) (gS w h C) (gB w h C) (gE w h C) m) ((o ++ [(b : Int)]) ++ p,0)) (ho : o.length < 5000) :
  ∀ d s : Nat,s + d = 4 → ∀ best : Int,((best = -1 ∧ ∃ s' : Int,(s : Int) ≤ s' ∧ s' ≤ 3 ∧ join w h C K a s' = true ∧ L.getD (bey w h a s').toNat 0 = (n : Int)) ∨ (∃ b : Nat,best = (b : Int) ∧ Stp w h C K a b ∧ L.getD b 0 = (n : Int))) →
   ∃ p : List Int,p.length = n + 1 ∧ Chain w h C K a p to_ ∧ Ev (fun k => water_Sail.l4 k (a : Int) ((n : Int) + 1) o best (s : Int) K B (w : Int) (h : Int) (gS w h C) (gB w h C) (gE w h C) m) (o ++ p,0)
 | 0,s,e,best,hb => by
  rcases hb with ⟨_,s',h1,h2,_⟩ | ⟨b,rfl,hbs,hv⟩
  ·omega
  obtain ⟨p,p0,p1,p2⟩:=next b hbs.2.1 hv
  refine ⟨(b : Int) :: p,by simp [p0],⟨b,rfl,hbs,p1⟩,Ev.step (fun k => by simp only [water_Sail.l4];rfl) (Ev.neg (by omega) (Ev.pos (by omega) ?_))⟩
  rw [wrap_in (x:=(n : Int) + 1 - 1) (by omega) (by omega),show (n : Int) + 1 - 1 = (n : Int) by omega]
  exact Ev.eq p2 (by simp)
 | d + 1,s,e,best,hb => by
  have hs : 0 ≤ (s : Int) ∧ (s : Int) ≤ 3:=by omega
  have hlen:=hL.len
  have hwh : w * h ≤ 32 * 32:=mulle U.land.w1 U.land.h1
  have go:=fun best hb => pick1 U hL hT ha n hd o hn next ho d (s + 1) (by omega) best hb
  have w1 : wrap64 ((s : Int) + 1) = ((s + 1 : Nat) : Int):=by rw [wrap_in (by omega) (by omega)];omega
  have w2 : wrap64 ((n : Int) + 1 - 1) = (n : Int):=by rw [wrap_in (by omega) (by omega)];omega
  by_cases hj : join w h C K a (s : Int) = true
  rotate_left
  ·have hb' : (best = -1 ∧ ∃ s' : Int,((s + 1 : Nat) : Int) ≤ s' ∧ s' ≤ 3 ∧ join w h C K a s' = true ∧ L.getD (bey w h a s').toNat 0 = (n : Int)) ∨ (∃ b : Nat,best = (b : Int) ∧ Stp w h C K a b ∧ L.getD b 0 = (n : Int)):=by
    rcases hb with ⟨q,s',h1,h2,h3,h4⟩ | q
    ·refine .inl ⟨q,s',?_,h2,h3,h4⟩
     by_cases e2 : s' = (s : Int)
     ·rw [e2] at h3;exact absurd h3 hj
     ·omega
    ·exact .inr q
   obtain ⟨p,p0,p1,p2⟩:=go best hb'
   refine ⟨p,p0,p1,Ev.step (fun k => by simp only [water_Sail.l4];rfl) (Ev.pos (by omega) (Ev.bind (join_ev U ha hs) (Ev.neg hj ?_)))⟩
   rw [w1];exact p2
  have b0:=(join_back ha hs hj).1
  obtain ⟨b,hbe⟩:=Int.eq_ofNat_of_zero_le b0
  have hbe' : bey w h a (s : Int) = (b : Int):=hbe
  have hbl : b < w * h:=by have:=(bey_lt ha (s : Int)).1;omega
  have tb:=hT b hbl
  have P1 : ∀ r : List Int × Int,(∀ best2 : Int,best2 = (if L.getD b 0 = (n : Int) ∧ (best < 0 ∨ (b : Int) < best) then (b : Int) else best) → Ev (fun k => water_Sail.l4 k (a : Int) ((n : Int) + 1) o best2 ((s + 1 : Nat) : Int) K B (w : Int) (h : Int) (gS w h C) (gB w h C) (gE w h C) m) r) → Ev (fun k => water_Sail.l4 k (a : Int) ((n : Int) + 1) o best (s : Int) K B (w : Int) (h : Int) (gS w h C) (gB w h C) (gE w h C) m) r:=by
   intro r hr
   refine Ev.step (fun k => by simp only [water_Sail.l4];rfl) (Ev.pos (by omega) (Ev.bind (join_ev U ha hs) (Ev.pos hj (Ev.bind (beyond_ev U.land ha hs _ _ _) ?_))))
   rw [hbe',w1,w2]
   by_cases q0 : 0 ≤ L.getD b 0
   ·refine Ev.pos (by rw [tb.1];exact decide_eq_true q0) ?_
    rw [tb.2 q0]
    by_cases q1 : L.getD b 0 = (n : Int)
    ·refine Ev.pos q1 ?_
     by_cases q2 : best < 0
     ·exact Ev.pos q2 (hr _ (by rw [if_pos ⟨q1,.inl q2⟩]))
     ·refine Ev.neg q2 ?_
      by_cases q3 : (b : Int) < best
      ·exact Ev.pos q3 (hr _ (by rw [if_pos ⟨q1,.inr q3⟩]))
      ·exact Ev.neg q3 (hr _ (by rw [if_neg (fun q => by rcases q.2 with q | q <;> omega)]))
    ·exact Ev.neg q1 (hr _ (by rw [if_neg (fun q => q1 q.1)]))
   ·exact Ev.neg (by rw [tb.1];simp only [decide_eq_true_eq];exact q0) (hr _ (by rw [if_neg (fun q => by omega)]))
  have hb' : ((if L.getD b 0 = (n : Int) ∧ (best < 0 ∨ (b : Int) < best) then (b : Int) else best) = -1 ∧ ∃ s' : Int,((s + 1 : Nat) : Int) ≤ s' ∧ s' ≤ 3 ∧ join w h C K a s' = true ∧ L.getD (bey w h a s').toNat 0 = (n : Int)) ∨ (∃ b' : Nat,(if L.getD b 0 = (n : Int) ∧ (best < 0 ∨ (b : Int) < best) then (b : Int) else best) = (b' : Int) ∧ Stp w h C K a b' ∧ L.getD b' 0 = (n : Int)):=by
   by_cases q : L.getD b 0 = (n : Int) ∧ (best < 0 ∨ (b : Int) < best)
   ·rw [if_pos q];exact .inr ⟨b,rfl,⟨ha,hbl,(s : Int),hs,hj,hbe'⟩,q.1⟩
   ·rw [if_neg q]
    rcases hb with ⟨q1,s',h1,h2,h3,h4⟩ | q1
    ·refine .inl ⟨q1,s',?_,h2,h3,h4⟩
     by_cases e2 : s' = (s : Int)
     ·rw [e2,hbe',Int.toNat_natCast] at h4
      exact absurd ⟨h4,.inl (by omega)⟩ q
     ·omega
    ·exact .inr q1
  obtain ⟨p,p0,p1,p2⟩:=go _ hb'
  exact ⟨p,p0,p1,P1 _ (fun _ e2 => by rw [e2];exact p2)⟩
theorem path1 (U : Waters w h C K B) {L line : List Int} {m : List (Int × Int)} (hL : Lab w h C K to_ L line) (hT : Tells w h L m) : ∀ n : Nat, ∀ a : Nat, a < w * h → L.getD a 0 = (n : Int) → ∀ o : List Int, o.length + n ≤ 2000 →
  ∃ p : List Int,p.length = n ∧ Chain w h C K a p to_ ∧ Ev (fun k => water_Sail.l3 k (a : Int) (n : Int) o K B (w : Int) (h : Int) (gS w h C) (gB w h C) (gE w h C) m) (o ++ p,0)
 | 0,a,ha,hv,o,ho => by
  have e : a = to_:=by
   rcases hL.from_ a ha (by omega) with q | q
   ·exact q
   ·omega
  exact ⟨[],rfl,e,Ev.step (fun k => by simp only [water_Sail.l3];rfl) (Ev.neg (by omega) (Ev.const (by simp)))⟩
 | n + 1,a,ha,hv,o,ho => by
  have hne : a ≠ to_:=fun e => by rw [e,hL.goal.2] at hv;omega
  have hv' : L.getD a 0 = (n : Int) + 1:=by omega
  have par : ∃ s' : Int,((0 : Nat) : Int) ≤ s' ∧ s' ≤ 3 ∧ join w h C K a s' = true ∧ L.getD (bey w h a s').toNat 0 = (n : Int):=by
   rcases hL.from_ a ha (by omega) with q | ⟨_,s',q1,q2,q3⟩
   ·exact absurd q hne
   ·exact ⟨s',q1.1,q1.2,q2,by rw [q3,hv'];omega⟩
  obtain ⟨p,p0,p1,p2⟩:=pick1 U hL hT ha n hv' o (by omega) (fun b hb hbv => path1 U hL hT n b hb hbv (o ++ [(b : Int)]) (by simp;omega)) (by omega) 4 0 (by omega) (-1) (.inl ⟨rfl,par⟩)
  exact ⟨p,p0,p1,Ev.step (fun k => by simp only [water_Sail.l3];rfl) (Ev.pos (by omega) p2)⟩
theorem below_next {s' : Int} {s : Nat} (h : s' < ((s + 1 : Nat) : Int)) (hn : ¬ s' = (s : Int)) : s' < (s : Int) := by omega
theorem spread1_sides {N : Nat} (U : Waters w h C K B) {R : List Int × Int → Prop} {from_ : Int} {p : Nat} (hp : p < w * h) (i : Nat)
  (next : ∀ (L : List Int) (m : List (Int × Int)) (line : List Int),Bfs w h C K to_ L line (i + 1) → Tells w h L m → i < line.length → ∀ M : Nat,2 * unl L + (line.length - i) ≤ M + 1 → M < N → ∃ r : List Int × Int,R r ∧ Ev (fun k => water_Sail.l1 k from_ (line.drop (i + 1)) K B (w : Int) (h : Int) (gS w h C) (gB w h C) (gE w h C) m) r) :
  ∀ n s : Nat,s + n = 4 → ∀ (L : List Int) (m : List (Int × Int)) (line : List Int),Bfs w h C K to_ L line i → Tells w h L m → i < line.length → line.getD i 0 = (p : Int) → Sds w h C K L p (s : Int) → 2 * unl L + (line.length - i) ≤ N →
   ∃ r : List Int × Int,R r ∧ Ev (fun k => water_Sail.l2 k from_ (line.drop i) (s : Int) K B (w : Int) (h : Int) (gS w h C) (gB w h C) (gE w h C) m) r
 | 0,s,e,L,m,line,hF,hT,hi,hq,hS,hN => by
  have hwh : w * h ≤ 32 * 32:=mulle U.land.w1 U.land.h1
  have:=hF.lab.all
  have es : (s : Int) = 4:=by omega
  obtain ⟨r,r0,r1⟩:=next L m line (hF.next hi hq (by rw [← es];exact hS)) hT hi (2 * unl L + (line.length - i) - 1) (by omega) (by omega)
  refine ⟨r,r0,Ev.step (fun k => by simp only [water_Sail.l2];rfl) (Ev.neg (by omega) (Ev.pos (by rw [List.length_drop];omega) ?_))⟩
  rw [List.drop_drop];exact r1
 | n + 1,s,e,L,m,line,hF,hT,hi,hq,hS,hN => by
  have hwh : w * h ≤ 32 * 32:=mulle U.land.w1 U.land.h1
  have hs : 0 ≤ (s : Int) ∧ (s : Int) ≤ 3:=by omega
  have hL:=hF.lab
  have hall:=hL.all
  have w1 : wrap64 ((s : Int) + 1) = ((s + 1 : Nat) : Int):=by rw [wrap_in (by omega) (by omega)];omega
  have q0 : rd (line.drop i) 0 = (p : Int):=by
   rw [show (0 : Int) = ((0 : Nat) : Int) from rfl,rdN]
   rw [List.getD_eq_getElem?_getD,List.getElem?_drop,← List.getD_eq_getElem?_getD]
   exact hq
  have s4 : (s : Int) < 4:=Int.lt_of_le_of_lt hs.2 (by decide)
  have dl : 0 < ((line.drop i).length : Int):=by rw [List.length_drop];exact Int.natCast_pos.2 (Nat.sub_pos_of_lt hi)
  have skip:=fun hS' => spread1_sides U (R:=R) hp i next n (s + 1) (by omega) L m line hF hT hi hq hS' hN
  by_cases hj : join w h C K p (s : Int) = true
  rotate_left
  ·obtain ⟨r,r0,r1⟩:=skip (fun s' h1 h2 u h3 h4 => by
    by_cases e2 : s' = (s : Int)
    ·rw [e2] at h3;exact absurd h3 hj
    ·exact hS s' h1 (below_next h2 e2) u h3 h4)
   refine ⟨r,r0,Ev.step (fun k => by simp only [water_Sail.l2];rfl) (Ev.pos s4 (Ev.pos dl ?_))⟩
   rw [q0,w1];exact Ev.bind (join_ev U hp hs) (Ev.neg hj r1)
  have b0:=(join_back hp hs hj).1
  obtain ⟨b,hbe⟩:=Int.eq_ofNat_of_zero_le b0
  have hbe' : bey w h p (s : Int) = (b : Int):=hbe
  have hbl : b < w * h:=by have:=(bey_lt hp (s : Int)).1;omega
  have tb:=hT b hbl
  have hlen:=hL.len
  by_cases q1 : 0 ≤ L.getD b 0
  ·have hle : L.getD b 0 ≤ L.getD p 0 + 1:=by
    obtain ⟨j,hjl,ej⟩:=mem_at (hF.has b hbl q1)
    have:=hF.top hi j hjl
    unfold lb at this
    rw [ej,hq,Int.toNat_natCast,Int.toNat_natCast] at this
    exact this
   obtain ⟨r,r0,r1⟩:=skip (fun s' h1 h2 u h3 h4 => by
    by_cases e2 : s' = (s : Int)
    ·rw [e2,hbe'] at h4
     obtain rfl : b = u:=by omega
     exact ⟨q1,hle⟩
    ·exact hS s' h1 (below_next h2 e2) u h3 h4)
   refine ⟨r,r0,Ev.step (fun k => by simp only [water_Sail.l2];rfl) (Ev.pos s4 (Ev.pos dl ?_))⟩
   rw [q0,w1]
   refine Ev.bind (join_ev U hp hs) (Ev.pos hj (Ev.bind (beyond_ev U.land hp hs _ _ _) ?_))
   rw [hbe']
   exact Ev.pos (by rw [tb.1];exact decide_eq_true q1) r1
  ·obtain ⟨pl,hF2,keep⟩:=hF.step hi hq hp hs hj hbe' hbl (by omega)
   have hT2 : Tells w h (L.set b (L.getD p 0 + 1)) (mpPut (b : Int) (L.getD p 0 + 1) m):=hT.step hlen hbl (by omega)
   have hu:=unl_set L b (L.getD p 0 + 1) (by omega) (by omega) (by omega)
   have hcap:=hL.cap p hp
   obtain ⟨r,r0,r1⟩:=spread1_sides U (R:=R) hp i next n (s + 1) (by omega) _ _ _ hF2 hT2 (by simp;omega) (by rw [app_at hi];exact hq) (fun s' h1 h2 u h3 h4 => by
    rw [keep p pl]
    by_cases e2 : s' = (s : Int)
    ·rw [e2,hbe'] at h4
     obtain rfl : b = u:=by omega
     rw [set_at,if_pos ⟨rfl,by omega⟩]
     omega
    ·have:=hS s' h1 (below_next h2 e2) u h3 h4
     rw [keep u this.1];exact this) (by rw [List.length_append,List.length_singleton];omega)
   have w3 : wrap64 (L.getD p 0 + 1) = L.getD p 0 + 1:=wrap_in (by omega) (by omega)
   refine ⟨r,r0,Ev.step (fun k => by simp only [water_Sail.l2];rfl) (Ev.pos s4 (Ev.pos dl ?_))⟩
   rw [q0,w1]
   refine Ev.bind (join_ev U hp hs) (Ev.pos hj (Ev.bind (beyond_ev U.land hp hs _ _ _) ?_))
   rw [hbe',(hT p hp).2 pl,w3]
   refine Ev.neg (by rw [tb.1];simp only [decide_eq_true_eq];exact q1) (Ev.pos (by rw [List.length_drop];omega) ?_)
   rw [List.drop_append_of_le_length (by omega)] at r1
   exact r1
def Least (w h : Nat) (C K : List Int) (a to_ : Nat) (r : List Int × Int) : Prop := (∃ p : List Int, r = ((a : Int) :: p, 0) ∧ p.length ≤ 2000 ∧ Chain w h C K a p to_ ∧ ∀ q, Chain w h C K a q to_ → p.length ≤ q.length) ∨ (r = ([], 2) ∧ ¬ ∃ q, Chain w h C K a q to_)
theorem spread1 (U : Waters w h C K B) {a : Nat} (ha : a < w * h) : ∀ (N : Nat) (L : List Int) (m : List (Int × Int)) (line : List Int) (i : Nat), Bfs w h C K to_ L line i → Tells w h L m → i ≤ line.length → 2 * unl L + (line.length - i) ≤ N →
   ∃ r : List Int × Int,Least w h C K a to_ r ∧ Ev (fun k => water_Sail.l1 k (a : Int) (line.drop i) K B (w : Int) (h : Int) (gS w h C) (gB w h C) (gE w h C) m) r:=by
 intro N
 induction N using Nat.strongRecOn with
 | ind N IH =>
  intro L m line i hF hT hi hN
  have hL:=hF.lab
  have hwh : w * h ≤ 32 * 32:=mulle U.land.w1 U.land.h1
  have hall:=hL.all
  by_cases hlt : i < line.length
  ·obtain ⟨p,hq,hp,_⟩:=hL.line_in _ (at_mem hlt)
   obtain ⟨r,r0,r1⟩:=spread1_sides (N:=N) U (R:=Least w h C K a to_) (from_:=(a : Int)) hp i (fun L m line hF hT hi' M hM hMN => IH M hMN L m line (i + 1) hF hT (by omega) (by omega)) 4 0 (by omega) L m line hF hT hlt hq (fun s' h1 h2 => by omega) hN
   exact ⟨r,r0,Ev.step (fun k => by simp only [water_Sail.l1];rfl) (Ev.pos (by rw [List.length_drop];omega) r1)⟩
  ·obtain rfl : i = line.length:=by omega
   have ta:=hT a ha
   have cl:=chain_lb hL.goal.2 hF.end
   by_cases q : 0 ≤ L.getD a 0
   ·obtain ⟨n,hn⟩:=Int.eq_ofNat_of_zero_le q
    have hcap:=hL.cap a ha
    obtain ⟨p,p0,p1,p2⟩:=path1 U hL hT n a ha hn [(a : Int)] (by simp;omega)
    refine ⟨((a : Int) :: p,0),.inl ⟨p,rfl,by omega,p1,fun q hq => by have:=(cl q a hq).2;omega⟩,Ev.step (fun k => by simp only [water_Sail.l1];rfl) (Ev.neg (by rw [List.length_drop];omega) (Ev.pos (by rw [ta.1];exact decide_eq_true q) ?_))⟩
    rw [ta.2 q,hn];exact p2
   ·exact ⟨([],2),.inr ⟨rfl,fun ⟨z,hz⟩ => q (cl z a hz).1⟩,Ev.step (fun k => by simp only [water_Sail.l1];rfl) (Ev.neg (by rw [List.length_drop];omega) (Ev.neg (by rw [ta.1];simp only [decide_eq_true_eq];exact q) (Ev.now _)))⟩
theorem bfs_start {to_ : Nat} (ht : to_ < w * h) : Bfs w h C K to_ ((List.replicate (w * h) (-1)).set to_ 0) [(to_ : Int)] 0 := by
 obtain ⟨hL,_⟩:=lab_start (w:=w) (h:=h) (C:=C) (K:=K) ht
 refine ⟨hL,fun t h1 h0 => ?_,fun j k hjk hk => ?_,fun _ k hk => ?_,fun j hj => by omega⟩
 ·rw [set_at] at h0
  by_cases e : to_ = t
  ·rw [e];exact List.mem_singleton.2 rfl
  ·rw [if_neg (fun q => e q.1),rep_at _ _ _ h1] at h0;exact absurd h0 (by decide)
 ·simp only [List.length_singleton] at hk
  rw [show j = k by omega];exact Int.le_refl _
 ·simp only [List.length_singleton] at hk
  rw [show k = 0 by omega];omega
end
end Go.Proofs.Ytiencnnkphipoaa.Pure
