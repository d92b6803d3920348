/- What the functions of layer 6 (waters) come to, in plain words: the way of a ship: program and document go step by step alike. No conditions. -/
import Derived.Test.YtiencnnkphipoaaPx0
import Derived.Test.YtiencnnkphipoaaPx7
import Derived.Test.YtiencnnkphipoaaPx33
import Derived.Test.YtiencnnkphipoaaWaterL
import Derived.Test.YtiencnnkphipoaaWaterM
import Derived.Test.YtiencnnkphipoaaWater6
namespace Go.Proofs.Ytiencnnkphipoaa.Pure
set_option linter.unusedVariables false
set_option linter.unusedSimpArgs false
open Go.RowKit Go.Proofs.YtiencnnkphipoaaW.PrintWords Go.Proofs.YtiencnnkphipoaaW.PrintMore Go.Proofs.Ytiencnnkphipoaa.P Go.Proofs.Ytiencnnkphipoaa

section
variable {w h : Nat} {C K B : List Int} {to_ : Nat}
theorem pick_both (U : Waters w h C K B) {L line : List Int} {m : List (Int × Int)} (hL : Lab w h C K to_ L line) (hT : Tells w h L m) {a : Nat} (ha : a < w * h) (d : Int) (hd : L.getD a 0 = d ∧ 1 ≤ d) (o : List Int) (hlim : d ≤ 5000)
  (next : ∀ b : Nat,b < w * h → L.getD b 0 = d - 1 → ∃ r : List Int × Int,r.1.length ≤ 8000 ∧ Ev (fun k => water_Sail.l3 k (b : Int) (d - 1) (o ++ [(b : Int)]) K B (w : Int) (h : Int) (gS w h C) (gB w h C) (gE w h C) m) r ∧ Ev (fun k => hinterlandref06_Sail.l3 k (to_ : Int) L (o ++ [(b : Int)]) (b : Int) (w : Int) (h : Int) C K B) r) (ho : o.length ≤ 6000) :
  ∀ n s : Nat,s + n = 4 → ∀ best : Int,((best = -1 ∧ ∃ s' : Int,(s : Int) ≤ s' ∧ s' ≤ 3 ∧ join w h C K a s' = true ∧ L.getD (bey w h a s').toNat 0 = d - 1) ∨ (∃ b : Nat,best = (b : Int) ∧ b < w * h ∧ L.getD b 0 = d - 1)) →
   ∃ r : List Int × Int,r.1.length ≤ 8000 ∧ Ev (fun k => water_Sail.l4 k (a : Int) d o best (s : Int) K B (w : Int) (h : Int) (gS w h C) (gB w h C) (gE w h C) m) r ∧ Ev (fun k => hinterlandref06_Sail.l4 k (to_ : Int) L o (a : Int) best (s : Int) (w : Int) (h : Int) C K B) r
 | 0,s,e,best,hb => by
  rcases hb with ⟨_,s',h1,h2,_⟩ | ⟨b,rfl,hbl,hv⟩
  ·omega
  obtain ⟨r,r0,r1,r2⟩:=next b hbl hv
  refine ⟨r,r0,Ev.step (fun k => by simp only [water_Sail.l4];rfl) (Ev.neg (by omega) (Ev.pos (by omega) ?_)),Ev.step (fun k => by simp only [hinterlandref06_Sail.l4];rfl) (Ev.neg (by omega) (Ev.pos (by omega) r2))⟩
  rw [wrap_in (x:=d - 1) (by omega) (by omega)]
  exact r1
 | n + 1,s,e,best,hb => by
  have hs : 0 ≤ (s : Int) ∧ (s : Int) ≤ 3:=by omega
  have hlen:=hL.len
  have hwh : w * h ≤ 32 * 32:=mulle U.land.w1 U.land.h1
  have go:=fun best hb => pick_both U hL hT ha d hd o hlim next ho n (s + 1) (by omega) best hb
  have w1 : wrap64 ((s : Int) + 1) = ((s + 1 : Nat) : Int):=by rw [wrap_in (by omega) (by omega)];omega
  have w2 : wrap64 (d - 1) = d - 1:=wrap_in (by omega) (by omega)
  by_cases hj : join w h C K a (s : Int) = true
  rotate_left
  ·have hb' : (best = -1 ∧ ∃ s' : Int,((s + 1 : Nat) : Int) ≤ s' ∧ s' ≤ 3 ∧ join w h C K a s' = true ∧ L.getD (bey w h a s').toNat 0 = d - 1) ∨ (∃ b : Nat,best = (b : Int) ∧ b < w * h ∧ L.getD b 0 = d - 1):=by
    rcases hb with ⟨q,s',h1,h2,h3,h4⟩ | q
    ·refine .inl ⟨q,s',?_,h2,h3,h4⟩
     by_cases e2 : s' = (s : Int)
     ·rw [e2] at h3;exact absurd h3 hj
     ·omega
    ·exact .inr q
   obtain ⟨r,r0,r1,r2⟩:=go best hb'
   refine ⟨r,r0,Ev.step (fun k => by simp only [water_Sail.l4];rfl) (Ev.pos (by omega) (Ev.bind (join_ev U ha hs) (Ev.neg hj ?_))),Ev.step (fun k => by simp only [hinterlandref06_Sail.l4];rfl) (Ev.pos (by omega) (Ev.bind (meets_ev U ha hs) ?_))⟩
   ·rw [w1];exact r1
   ·rw [if_neg hj]
    exact Ev.neg (by decide) (Ev.step (fun k => by simp only [hinterlandref06_Sail.j7];rfl) (Ev.neg (by simp) (by rw [w1];exact r2)))
  have b0:=(join_back ha hs hj).1
  obtain ⟨b,hbe⟩:=Int.eq_ofNat_of_zero_le b0
  have hbe' : bey w h a (s : Int) = (b : Int):=hbe
  have hbl : b < w * h:=by have:=(bey_lt ha (s : Int)).1;omega
  have tb:=hT b hbl
  have lb:=hL.low b hbl
  have ca:=hL.cap b hbl
  have la:=hL.all
  -- the two walks,by what is found
  have P1 : ∀ r : List Int × Int,(∀ best2 : Int,best2 = (if L.getD b 0 = d - 1 ∧ (best < 0 ∨ (b : Int) < best) then (b : Int) else best) → Ev (fun k => water_Sail.l4 k (a : Int) d o best2 ((s + 1 : Nat) : Int) K B (w : Int) (h : Int) (gS w h C) (gB w h C) (gE w h C) m) r) → Ev (fun k => water_Sail.l4 k (a : Int) d o best (s : Int) K B (w : Int) (h : Int) (gS w h C) (gB w h C) (gE w h C) m) r:=by
   intro r hr
   refine Ev.step (fun k => by simp only [water_Sail.l4];rfl) (Ev.pos (by omega) (Ev.bind (join_ev U ha hs) (Ev.pos hj (Ev.bind (beyond_ev U.land ha hs _ _ _) ?_))))
   rw [hbe',w1,w2]
   by_cases q0 : 0 ≤ L.getD b 0
   ·refine Ev.pos (by rw [tb.1];exact decide_eq_true q0) ?_
    rw [tb.2 q0]
    by_cases q1 : L.getD b 0 = d - 1
    ·refine Ev.pos q1 ?_
     by_cases q2 : best < 0
     ·exact Ev.pos q2 (hr _ (by rw [if_pos ⟨q1,.inl q2⟩]))
     ·refine Ev.neg q2 ?_
      by_cases q3 : (b : Int) < best
      ·exact Ev.pos q3 (hr _ (by rw [if_pos ⟨q1,.inr q3⟩]))
      ·exact Ev.neg q3 (hr _ (by rw [if_neg (fun q => by rcases q.2 with q | q <;> omega)]))
    ·exact Ev.neg q1 (hr _ (by rw [if_neg (fun q => q1 q.1)]))
   ·exact Ev.neg (by rw [tb.1];simp only [decide_eq_true_eq];exact q0) (hr _ (by rw [if_neg (fun q => by omega)]))
  have P2 : ∀ r : List Int × Int,(∀ best2 : Int,best2 = (if L.getD b 0 = d - 1 ∧ (best < 0 ∨ (b : Int) < best) then (b : Int) else best) → Ev (fun k => hinterlandref06_Sail.l4 k (to_ : Int) L o (a : Int) best2 ((s + 1 : Nat) : Int) (w : Int) (h : Int) C K B) r) → Ev (fun k => hinterlandref06_Sail.l4 k (to_ : Int) L o (a : Int) best (s : Int) (w : Int) (h : Int) C K B) r:=by
   intro r hr
   have j7t : ∀ q : Bool,Ev (fun k => hinterlandref06_Sail.l4 k (to_ : Int) L o (a : Int) (if q = true then (b : Int) else best) ((s + 1 : Nat) : Int) (w : Int) (h : Int) C K B) r → Ev (fun k => hinterlandref06_Sail.j7 k (to_ : Int) L o (a : Int) best (b : Int) (s : Int) q (w : Int) (h : Int) C K B) r:=by
    intro q hq
    refine Ev.step (fun k => by simp only [hinterlandref06_Sail.j7];rfl) ?_
    rw [w1]
    cases q with
    | true => exact Ev.pos rfl (by simpa using hq)
    | false => exact Ev.neg (by simp) (by simpa using hq)
   refine Ev.step (fun k => by simp only [hinterlandref06_Sail.l4];rfl) (Ev.pos (by omega) (Ev.bind (meets_ev U ha hs) ?_))
   rw [if_pos hj,hbe']
   refine Ev.pos (by omega) (Ev.pos (by omega) (Ev.pos (by omega) (Ev.pos (by omega) (Ev.pos (by omega) ?_))))
   rw [rdN,rdN,hd.1,w2]
   by_cases q1 : L.getD b 0 = d - 1
   ·refine Ev.pos q1 ?_
    by_cases q2 : best < 0
    ·exact Ev.pos q2 (j7t true (hr _ (by rw [if_pos rfl,if_pos ⟨q1,.inl q2⟩])))
    ·refine Ev.neg q2 (j7t _ (hr _ ?_))
     by_cases q3 : (b : Int) < best
     ·rw [if_pos (decide_eq_true q3),if_pos ⟨q1,.inr q3⟩]
     ·rw [if_neg (by simp only [decide_eq_true_eq];exact q3),if_neg (fun q => by rcases q.2 with q | q <;> omega)]
   ·exact Ev.neg q1 (j7t false (hr _ (by rw [if_neg (by simp),if_neg (fun q => q1 q.1)])))
  have hb' : ((if L.getD b 0 = d - 1 ∧ (best < 0 ∨ (b : Int) < best) then (b : Int) else best) = -1 ∧ ∃ s' : Int,((s + 1 : Nat) : Int) ≤ s' ∧ s' ≤ 3 ∧ join w h C K a s' = true ∧ L.getD (bey w h a s').toNat 0 = d - 1) ∨ (∃ b' : Nat,(if L.getD b 0 = d - 1 ∧ (best < 0 ∨ (b : Int) < best) then (b : Int) else best) = (b' : Int) ∧ b' < w * h ∧ L.getD b' 0 = d - 1):=by
   by_cases q : L.getD b 0 = d - 1 ∧ (best < 0 ∨ (b : Int) < best)
   ·rw [if_pos q];exact .inr ⟨b,rfl,hbl,q.1⟩
   ·rw [if_neg q]
    rcases hb with ⟨q1,s',h1,h2,h3,h4⟩ | q1
    ·refine .inl ⟨q1,s',?_,h2,h3,h4⟩
     by_cases e2 : s' = (s : Int)
     ·rw [e2,hbe',Int.toNat_natCast] at h4
      exact absurd ⟨h4,.inl (by omega)⟩ q
     ·omega
    ·exact .inr q1
  obtain ⟨r,r0,r1,r2⟩:=go _ hb'
  exact ⟨r,r0,P1 r (fun _ e2 => by rw [e2];exact r1),P2 r (fun _ e2 => by rw [e2];exact r2)⟩
theorem path_both (U : Waters w h C K B) {L line : List Int} {m : List (Int × Int)} (hL : Lab w h C K to_ L line) (hT : Tells w h L m) : ∀ n : Nat, ∀ a : Nat, a < w * h → L.getD a 0 = (n : Int) → ∀ o : List Int, o.length + n ≤ 2000 →
  ∃ r : List Int × Int,r.1.length ≤ 8000 ∧ Ev (fun k => water_Sail.l3 k (a : Int) (n : Int) o K B (w : Int) (h : Int) (gS w h C) (gB w h C) (gE w h C) m) r ∧ Ev (fun k => hinterlandref06_Sail.l3 k (to_ : Int) L o (a : Int) (w : Int) (h : Int) C K B) r
 | 0,a,ha,hv,o,ho => by
  have e : a = to_:=by
   rcases hL.from_ a ha (by omega) with q | q
   ·exact q
   ·omega
  exact ⟨(o,0),by show o.length ≤ 8000;omega,Ev.step (fun k => by simp only [water_Sail.l3];rfl) (Ev.neg (by omega) (Ev.now _)),Ev.step (fun k => by simp only [hinterlandref06_Sail.l3];rfl) (Ev.pos (by omega) (Ev.now _))⟩
 | n + 1,a,ha,hv,o,ho => by
  have hne : a ≠ to_:=fun e => by rw [e,hL.goal.2] at hv;omega
  have par : ∃ s' : Int,((0 : Nat) : Int) ≤ s' ∧ s' ≤ 3 ∧ join w h C K a s' = true ∧ L.getD (bey w h a s').toNat 0 = ((n + 1 : Nat) : Int) - 1:=by
   rcases hL.from_ a ha (by omega) with q | ⟨_,s',q1,q2,q3⟩
   ·exact absurd q hne
   ·exact ⟨s',q1.1,q1.2,q2,by rw [q3,hv]⟩
  obtain ⟨r,r0,r1,r2⟩:=pick_both U hL hT ha ((n + 1 : Nat) : Int) ⟨hv,by omega⟩ o (by omega) (fun b hb hbv => by
   have:=path_both U hL hT n b hb (by omega) (o ++ [(b : Int)]) (by simp;omega)
   rw [show ((n + 1 : Nat) : Int) - 1 = (n : Int) by omega]
   exact this) (by omega) 4 0 (by omega) (-1) (.inl ⟨rfl,par⟩)
  exact ⟨r,r0,Ev.step (fun k => by simp only [water_Sail.l3];rfl) (Ev.pos (by omega) r1),Ev.step (fun k => by simp only [hinterlandref06_Sail.l3];rfl) (Ev.neg (by omega) r2)⟩
theorem spread_sides {N : Nat} (U : Waters w h C K B) {from_ : Int} {p : Nat} (hp : p < w * h) (i : Nat)
  (next : ∀ (L : List Int) (m : List (Int × Int)) (line : List Int),Lab w h C K to_ L line → Tells w h L m → i < line.length → line.getD i 0 = (p : Int) → ∀ M : Nat,2 * unl L + (line.length - i) ≤ M + 1 → M < N → ∃ r : List Int × Int,r.1.length ≤ 8000 ∧ Ev (fun k => water_Sail.l1 k from_ (line.drop (i + 1)) K B (w : Int) (h : Int) (gS w h C) (gB w h C) (gE w h C) m) r ∧ Ev (fun k => hinterlandref06_Sail.l1 k from_ (to_ : Int) L line ((i + 1 : Nat) : Int) (w : Int) (h : Int) C K B) r) :
  ∀ n s : Nat,s + n = 4 → ∀ (L : List Int) (m : List (Int × Int)) (line : List Int),Lab w h C K to_ L line → Tells w h L m → i < line.length → line.getD i 0 = (p : Int) → 2 * unl L + (line.length - i) ≤ N →
   ∃ r : List Int × Int,r.1.length ≤ 8000 ∧ Ev (fun k => water_Sail.l2 k from_ (line.drop i) (s : Int) K B (w : Int) (h : Int) (gS w h C) (gB w h C) (gE w h C) m) r ∧ Ev (fun k => hinterlandref06_Sail.l2 k from_ (to_ : Int) L line (i : Int) (s : Int) (w : Int) (h : Int) C K B) r
 | 0,s,e,L,m,line,hL,hT,hi,hq,hN => by
  have hwh : w * h ≤ 32 * 32:=mulle U.land.w1 U.land.h1
  have:=hL.all
  obtain ⟨r,r0,r1,r2⟩:=next L m line hL hT hi hq (2 * unl L + (line.length - i) - 1) (by omega) (by omega)
  refine ⟨r,r0,Ev.step (fun k => by simp only [water_Sail.l2];rfl) (Ev.neg (by omega) (Ev.pos (by rw [List.length_drop];omega) ?_)),Ev.step (fun k => by simp only [hinterlandref06_Sail.l2];rfl) (Ev.neg (by omega) ?_)⟩
  ·rw [List.drop_drop];exact r1
  ·rw [wrap_in (x:=(i : Int) + 1) (by omega) (by omega)];exact r2
 | n + 1,s,e,L,m,line,hL,hT,hi,hq,hN => by
  have hwh : w * h ≤ 32 * 32:=mulle U.land.w1 U.land.h1
  have hs : 0 ≤ (s : Int) ∧ (s : Int) ≤ 3:=by omega
  have hall:=hL.all
  have w1 : wrap64 ((s : Int) + 1) = ((s + 1 : Nat) : Int):=by rw [wrap_in (by omega) (by omega)];omega
  have q0 : rd (line.drop i) 0 = (p : Int):=by
   rw [show (0 : Int) = ((0 : Nat) : Int) from rfl,rdN]
   rw [List.getD_eq_getElem?_getD,List.getElem?_drop,← List.getD_eq_getElem?_getD]
   exact hq
  have pl : 0 ≤ L.getD p 0:=by
   have hmem : (p : Int) ∈ line:=by
    rw [← hq,List.getD_eq_getElem?_getD,List.getElem?_eq_getElem hi]
    exact List.getElem_mem hi
   obtain ⟨t,e1,_,e3⟩:=hL.line_in _ hmem
   rw [show p = t by omega];exact e3
  have s4 : (s : Int) < 4:=Int.lt_of_le_of_lt hs.2 (by decide)
  have dl : 0 < ((line.drop i).length : Int):=by rw [List.length_drop];exact Int.natCast_pos.2 (Nat.sub_pos_of_lt hi)
  have il : (i : Int) < (line.length : Int):=Int.ofNat_lt.2 hi
  have i0 : 0 ≤ (i : Int):=Int.natCast_nonneg i
  have skip:=fun _ : Unit => spread_sides U hp i next n (s + 1) (by omega) L m line hL hT hi hq hN
  by_cases hj : join w h C K p (s : Int) = true
  rotate_left
  ·obtain ⟨r,r0,r1,r2⟩:=skip ()
   refine ⟨r,r0,Ev.step (fun k => by simp only [water_Sail.l2];rfl) (Ev.pos s4 (Ev.pos dl ?_)),Ev.step (fun k => by simp only [hinterlandref06_Sail.l2];rfl) (Ev.pos s4 (Ev.pos i0 (Ev.pos il ?_)))⟩
   ·rw [q0,w1];exact Ev.bind (join_ev U hp hs) (Ev.neg hj r1)
   ·rw [rdN,hq]
    refine Ev.bind (meets_ev U hp hs) ?_
    rw [if_neg hj]
    exact Ev.neg (by decide) (Ev.step (fun k => by simp only [hinterlandref06_Sail.j4];rfl) (Ev.neg (by simp) (by rw [w1];exact r2)))
  have b0:=(join_back hp hs hj).1
  obtain ⟨b,hbe⟩:=Int.eq_ofNat_of_zero_le b0
  have hbe' : bey w h p (s : Int) = (b : Int):=hbe
  have hbl : b < w * h:=by have:=(bey_lt hp (s : Int)).1;omega
  have tb:=hT b hbl
  have hlen:=hL.len
  by_cases q1 : 0 ≤ L.getD b 0
  ·obtain ⟨r,r0,r1,r2⟩:=skip ()
   refine ⟨r,r0,Ev.step (fun k => by simp only [water_Sail.l2];rfl) (Ev.pos s4 (Ev.pos dl ?_)),Ev.step (fun k => by simp only [hinterlandref06_Sail.l2];rfl) (Ev.pos s4 (Ev.pos i0 (Ev.pos il ?_)))⟩
   ·rw [q0,w1]
    refine Ev.bind (join_ev U hp hs) (Ev.pos hj (Ev.bind (beyond_ev U.land hp hs _ _ _) ?_))
    rw [hbe']
    exact Ev.pos (by rw [tb.1];exact decide_eq_true q1) r1
   ·rw [rdN,hq]
    refine Ev.bind (meets_ev U hp hs) ?_
    rw [if_pos hj,hbe']
    refine Ev.pos (by omega) (Ev.pos (by omega) (Ev.pos (by omega) (Ev.step (fun k => by simp only [hinterlandref06_Sail.j4];rfl) (Ev.neg ?_ (by rw [w1];exact r2)))))
    rw [rdN];simp only [decide_eq_true_eq];omega
  ·have hL2:=hL.step hp pl hs hj hbe' hbl (by omega)
   have hT2 : Tells w h (L.set b (L.getD p 0 + 1)) (mpPut (b : Int) (L.getD p 0 + 1) m):=hT.step hlen hbl (by omega)
   have hu:=unl_set L b (L.getD p 0 + 1) (by omega) (by omega) (by omega)
   have hcap:=hL.cap p hp
   obtain ⟨r,r0,r1,r2⟩:=spread_sides U hp i next n (s + 1) (by omega) _ _ _ hL2 hT2 (by simp;omega) (by rw [List.getD_eq_getElem?_getD,List.getElem?_append_left hi,← List.getD_eq_getElem?_getD];exact hq) (by rw [List.length_append,List.length_singleton];omega)
   have w3 : wrap64 (L.getD p 0 + 1) = L.getD p 0 + 1:=wrap_in (by omega) (by omega)
   refine ⟨r,r0,Ev.step (fun k => by simp only [water_Sail.l2];rfl) (Ev.pos s4 (Ev.pos dl ?_)),Ev.step (fun k => by simp only [hinterlandref06_Sail.l2];rfl) (Ev.pos s4 (Ev.pos i0 (Ev.pos il ?_)))⟩
   ·rw [q0,w1]
    refine Ev.bind (join_ev U hp hs) (Ev.pos hj (Ev.bind (beyond_ev U.land hp hs _ _ _) ?_))
    rw [hbe',(hT p hp).2 pl,w3]
    refine Ev.neg (by rw [tb.1];simp only [decide_eq_true_eq];exact q1) (Ev.pos (by rw [List.length_drop];omega) ?_)
    rw [List.drop_append_of_le_length (by omega)] at r1
    exact r1
   ·rw [rdN,hq]
    refine Ev.bind (meets_ev U hp hs) ?_
    rw [if_pos hj,hbe']
    refine Ev.pos (by omega) (Ev.pos (by omega) (Ev.pos (by omega) (Ev.step (fun k => by simp only [hinterlandref06_Sail.j4];rfl) (Ev.pos ?_ ?_))))
    ·rw [rdN];simp only [decide_eq_true_eq];omega
    ·rw [rdN,hq,rdN,w3,w1]
     exact Ev.pos (by omega) (Ev.pos (by omega) (Ev.pos (by omega) (Ev.pos (by omega) (Ev.pos (by omega) (Ev.pos (by omega) (Ev.pos (by omega) r2))))))
theorem spread_both (U : Waters w h C K B) {a : Nat} (ha : a < w * h) : ∀ (N : Nat) (L : List Int) (m : List (Int × Int)) (line : List Int) (i : Nat), Lab w h C K to_ L line → Tells w h L m → i ≤ line.length → 2 * unl L + (line.length - i) ≤ N →
   ∃ r : List Int × Int,r.1.length ≤ 8000 ∧ Ev (fun k => water_Sail.l1 k (a : Int) (line.drop i) K B (w : Int) (h : Int) (gS w h C) (gB w h C) (gE w h C) m) r ∧ Ev (fun k => hinterlandref06_Sail.l1 k (a : Int) (to_ : Int) L line (i : Int) (w : Int) (h : Int) C K B) r:=by
 intro N
 induction N using Nat.strongRecOn with
 | ind N IH =>
  intro L m line i hL hT hi hN
  have hwh : w * h ≤ 32 * 32:=mulle U.land.w1 U.land.h1
  have hall:=hL.all
  by_cases hlt : i < line.length
  ·have hmem : line.getD i 0 ∈ line:=by
    rw [List.getD_eq_getElem?_getD,List.getElem?_eq_getElem hlt]
    exact List.getElem_mem hlt
   obtain ⟨p,hq,hp,_⟩:=hL.line_in _ hmem
   obtain ⟨r,r0,r1,r2⟩:=spread_sides (N:=N) U (from_:=(a : Int)) hp i (fun L m line hL hT hi' hq' M hM hMN => by
    have:=IH M hMN L m line (i + 1) hL hT (by omega) (by omega)
    exact this) 4 0 (by omega) L m line hL hT hlt hq hN
   exact ⟨r,r0,Ev.step (fun k => by simp only [water_Sail.l1];rfl) (Ev.pos (by rw [List.length_drop];omega) r1),Ev.step (fun k => by simp only [hinterlandref06_Sail.l1];rfl) (Ev.pos (by omega) r2)⟩
  ·have ta:=hT a ha
   have hlen:=hL.len
   have hlow:=hL.low a ha
   by_cases q : 0 ≤ L.getD a 0
   ·obtain ⟨n,hn⟩:=Int.eq_ofNat_of_zero_le q
    have hcap:=hL.cap a ha
    obtain ⟨r,r0,r1,r2⟩:=path_both U hL hT n a ha hn [(a : Int)] (by simp;omega)
    refine ⟨r,r0,Ev.step (fun k => by simp only [water_Sail.l1];rfl) (Ev.neg (by rw [List.length_drop];omega) (Ev.pos (by rw [ta.1];exact decide_eq_true q) ?_)),Ev.step (fun k => by simp only [hinterlandref06_Sail.l1];rfl) (Ev.neg (by omega) (Ev.pos (by omega) (Ev.pos (by omega) (Ev.neg (by rw [rdN];omega) r2))))⟩
    rw [ta.2 q,hn];exact r1
   ·exact ⟨([],2),by simp,Ev.step (fun k => by simp only [water_Sail.l1];rfl) (Ev.neg (by rw [List.length_drop];omega) (Ev.neg (by rw [ta.1];simp only [decide_eq_true_eq];exact q) (Ev.now _))),Ev.step (fun k => by simp only [hinterlandref06_Sail.l1];rfl) (Ev.neg (by omega) (Ev.pos (by omega) (Ev.pos (by omega) (Ev.pos (by rw [rdN];omega) (Ev.now _)))))⟩
end
end Go.Proofs.Ytiencnnkphipoaa.Pure
