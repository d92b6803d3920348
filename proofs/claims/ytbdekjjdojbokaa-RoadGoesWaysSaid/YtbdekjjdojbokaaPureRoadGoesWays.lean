/- Layer 4, RoadGoesWays (P4.3, P4.4): a drive goes over joined tiles, in no step against the ways, and stays within one part. No conditions. -/
import Derived.Test.YtbdekjjdojbokaaPSRoadGoesWays
import Derived.Test.YtbdekjjdojbokaaRoadG
namespace Go.Proofs.Ytbdekjjdojbokaa.Pure
set_option linter.unusedVariables false
set_option linter.unusedSimpArgs false
open Go.RowKit Go.Proofs.YtbdekjjdojbokaaW.PrintWords Go.Proofs.Ytbdekjjdojbokaa.P Go.Proofs.Ytbdekjjdojbokaa

section
variable {W H t : Int} {A Y : List Int}
def Fits (Y : List Int) (p q s : Int) : Prop := (rd Y p = 0 ∨ ((rd Y p == 1) == decide (s < 2)) = true) ∧ (rd Y q = 0 ∨ ((rd Y q == 1) == decide (s < 2)) = true)
theorem ways_l1 (g : Good W H A Y) (hA4 : A.length ≤ 4000) (hY4 : Y.length ≤ 4000) (ht : 0 ≤ t ∧ t < W * H) {r : List Int} (T : Trip W H A Y t r) (hr : r.length ≤ 5000) (i : Nat) (hi : i + 1 < r.length)
  (K : Ev (fun k => hinterlandlaw04_RoadGoesWays.l0 k t r (parts W H A) ((i + 1 : Nat) + 1 : Int) W H A Y) true) :
  ∀ (n : Nat) (s : Int) (ok : Bool),s + n = 4 → 0 ≤ s → (ok = true ∨ ∃ s0 : Int,(s ≤ s0 ∧ s0 ≤ 3) ∧ may W H A Y (r.getD i 0) s0 = true ∧ r.getD (i + 1) 0 = bey W H (r.getD i 0) s0) →
  Ev (fun k => hinterlandlaw04_RoadGoesWays.l1 k t r (parts W H A) ((i + 1 : Nat) : Int) ok s W H A Y) true
 | 0,s,ok,hs,h0,hok => by
  obtain rfl : s = 4:=by omega
  have hA:=g.hA
  have hp:=T.range g ht (i + 1) hi
  have hpl:=parts_len W H A
  obtain rfl : ok = true:=by
   rcases hok with h | ⟨s0,h,_⟩
   ·exact h
   ·omega
  refine Ev.step (fun k => by simp only [hinterlandlaw04_RoadGoesWays.l1];rfl) (Ev.neg (by omega) (Ev.pos (by first | rfl | trivial) (Ev.pos (by omega) (Ev.pos (by omega) ?_))))
  rw [rdN]
  refine Ev.pos (by omega) (Ev.pos (by omega) (Ev.pos (by omega) (Ev.pos (by omega) ?_)))
  rw [parts_same g ht T i hi]
  refine Ev.step (fun k => by simp only [hinterlandlaw04_RoadGoesWays.j5];rfl) (Ev.neg (by simp) ?_)
  rw [wrap_in (x:=((i + 1 : Nat) : Int) + 1) (by omega) (by omega)]
  exact K
 | n + 1,s,ok,hs,h0,hok => by
  have hA:=g.hA
  have hY:=g.hY
  have hp:=T.range g ht i (by omega)
  have hq:=T.range g ht (i + 1) hi
  have hwp:=g.ways (r.getD i 0).toNat (by omega) (by omega)
  have hwq:=g.ways (r.getD (i + 1) 0).toNat (by omega) (by omega)
  unfold WayAt at hwp hwq
  have ih:=fun (ok' : Bool) h => ways_l1 g hA4 hY4 ht T hr i hi K n (s + 1) ok' (by omega) (by omega) h
  have hpre : wrap64 (((i + 1 : Nat) : Int) - 1) = (i : Int):=by rw [wrap_in (by omega) (by omega)];omega
  have hv:=g
  have hvc : vcode W H A Y = 0:=vcode_zero.2 ⟨⟨g.hW,g.hH,g.hA,g.hY⟩,g.arms,g.ways,g.ones⟩
  have hz : tcode W H A Y (r.getD i 0) 0 3 s = 0:=tcode_zero.2 ⟨hvc,hp,h0,by omega⟩
  have hma:=meets_at g hp s
  -- the side is not the one,or it was found already
  have no : ¬ (may W H A Y (r.getD i 0) s = true ∧ r.getD (i + 1) 0 = bey W H (r.getD i 0) s) → Ev (fun k => hinterlandlaw04_RoadGoesWays.l1 k t r (parts W H A) ((i + 1 : Nat) : Int) ok (wrap64 (s + 1)) W H A Y) true:=by
   intro hn
   rw [wrap_in (x:=s + 1) (by omega) (by omega)]
   refine ih ok ?_
   rcases hok with h | ⟨s0,h1,h2⟩
   ·exact .inl h
   ·refine .inr ⟨s0,⟨?_,h1.2⟩,h2⟩
    rcases (by omega : s = s0 ∨ s + 1 ≤ s0) with e | e
    ·subst e;exact absurd h2 hn
    ·exact e
  have j4no : ¬ (may W H A Y (r.getD i 0) s = true ∧ r.getD (i + 1) 0 = bey W H (r.getD i 0) s) → Ev (fun k => hinterlandlaw04_RoadGoesWays.j4 k t r (parts W H A) ((i + 1 : Nat) : Int) ok s s false W H A Y) true:=by
   intro hn
   exact Ev.step (fun k => by simp only [hinterlandlaw04_RoadGoesWays.j4];rfl) (Ev.neg (by simp) (no hn))
  refine Ev.step (fun k => by simp only [hinterlandlaw04_RoadGoesWays.l1];rfl) ?_
  rw [hpre,rdN,rdN]
  refine Ev.pos (by omega) (Ev.pos (by omega) (Ev.pos (by omega) (Ev.bind (Joined_ev hA4 hY4) ?_)))
  rw [if_pos hz]
  refine Ev.pos (by first | rfl | trivial) ?_
  by_cases hm : 0 ≤ meets W H A (r.getD i 0) s
  rotate_left
  ·exact Ev.neg (by simpa using hm) (j4no fun h => hm (may_meets h.1))
  refine Ev.pos (decide_eq_true hm) (Ev.bindc (ref_beyond_eq (g.on hp) ⟨h0,by omega⟩) (Ev.pos (by omega) (Ev.pos (by omega) ?_)))
  by_cases hb : bey W H (r.getD i 0) s = r.getD (i + 1) 0
  rotate_left
  ·rw [show (bey W H (r.getD i 0) s == r.getD (i + 1) 0) = false from beq_eq_false_iff_ne.2 hb]
   exact j4no fun h => hb h.2.symm
  rw [show (bey W H (r.getD i 0) s == r.getD (i + 1) 0) = true from beq_iff_eq.2 hb]
  refine Ev.step (fun k => by simp only [hinterlandlaw04_RoadGoesWays.j4];rfl) ?_
  rw [hpre,rdN,rdN,wrap_in (x:=s + 1) (by omega) (by omega)]
  refine Ev.pos (by first | rfl | trivial) (Ev.pos (by omega) (Ev.pos (by omega) (Ev.pos (by omega) (Ev.pos (by omega) (Ev.pos (by omega) (Ev.pos (by omega) (Ev.pos (by omega) (Ev.pos (by omega) ?_))))))))
  by_cases hok1 : ok = true
  ·exact Ev.pos hok1 (ih true (.inl rfl))
  refine Ev.neg hok1 ?_
  have step : ∀ v : Bool,(may W H A Y (r.getD i 0) s = true → v = true) → Ev (fun k => hinterlandlaw04_RoadGoesWays.l1 k t r (parts W H A) ((i + 1 : Nat) : Int) v (s + 1) W H A Y) true:=by
   intro v hvv
   refine ih v ?_
   rcases hok with h | ⟨s0,h1,h2⟩
   ·exact absurd h hok1
   ·rcases (by omega : s = s0 ∨ s + 1 ≤ s0) with e | e
    ·subst e;exact .inl (hvv h2.1)
    ·exact .inr ⟨s0,⟨e,h1.2⟩,h2⟩
  have fit : may W H A Y (r.getD i 0) s = true → Fits Y (r.getD i 0) (r.getD (i + 1) 0) s:=by
   intro hmay
   unfold may at hmay
   simp only [Bool.and_eq_true] at hmay
   rw [hb] at hmay
   exact ⟨lets_is hwp hmay.1.2,lets_is hwq hmay.2⟩
  by_cases a0 : rd Y (r.getD i 0) = 0
  ·refine Ev.pos a0 ?_
   by_cases b0 : rd Y (r.getD (i + 1) 0) = 0
   ·exact Ev.pos b0 (step true fun _ => rfl)
   ·exact Ev.neg b0 (step _ fun h => (fit h).2.resolve_left b0)
  refine Ev.neg a0 ?_
  by_cases a1 : ((rd Y (r.getD i 0) == 1) == decide (s < 2)) = true
  ·refine Ev.pos a1 ?_
   by_cases b0 : rd Y (r.getD (i + 1) 0) = 0
   ·exact Ev.pos b0 (step true fun _ => rfl)
   ·exact Ev.neg b0 (step _ fun h => (fit h).2.resolve_left b0)
  ·exact Ev.neg a1 (step false fun h => absurd ((fit h).1.resolve_left a0) a1)
theorem ways_l0 (g : Good W H A Y) (hA4 : A.length ≤ 4000) (hY4 : Y.length ≤ 4000) (ht : 0 ≤ t ∧ t < W * H) {r : List Int} (T : Trip W H A Y t r) (hr : r.length ≤ 5000) : ∀ n i : Nat, i + 1 + n = r.length → Ev (fun k => hinterlandlaw04_RoadGoesWays.l0 k t r (parts W H A) ((i + 1 : Nat) : Int) W H A Y) true
 | 0,i,h => Ev.step (fun k => by simp only [hinterlandlaw04_RoadGoesWays.l0];rfl) (Ev.neg (by omega) known_then)
 | n + 1,i,h => by
  have ih:=ways_l0 g hA4 hY4 ht T hr n (i + 1) (by omega)
  refine Ev.step (fun k => by simp only [hinterlandlaw04_RoadGoesWays.l0];rfl) (Ev.pos (by omega) ?_)
  obtain ⟨s,hs,hm,e⟩:=T.next i (by omega)
  exact ways_l1 g hA4 hY4 ht T hr i (by omega) ih 4 0 false (by omega) (by omega) (.inr ⟨s,hs,hm,e⟩)
end

theorem RoadGoesWays : hinterlandlaw04_RoadGoesWays.Pure := by
 intro W H A Y t f l _ _ _ _ _ _ _
 refine Ev.rounds ?_
 unfold hinterlandlaw04_RoadGoesWays.f
 have out : Ev (fun k => hinterlandlaw04_RoadGoesWays.j0 k t f l true W H A Y) true:=Ev.step (fun k => by simp only [hinterlandlaw04_RoadGoesWays.j0];rfl) (Ev.pos (by first | rfl | trivial) known_then)
 refine Ev.bindc (large_eq _ _ _ _) ?_
 by_cases hfar : (A.length : Int) > 4000 ∨ (Y.length : Int) > 4000
 ·exact Ev.pos (decide_eq_true hfar) out
 refine Ev.neg (fun h => hfar (of_decide_eq_true h)) ?_
 by_cases hl : (l.length : Int) > 4000
 ·rw [decide_eq_true hl];exact out
 rw [decide_eq_false hl]
 refine Ev.step (fun k => by simp only [hinterlandlaw04_RoadGoesWays.j0];rfl) (Ev.neg (by simp) ?_)
 have hn:=Next_ev (W:=W) (H:=H) (A:=A) (Y:=Y) (t:=t) (s:=f) (by omega) (by omega)
 have hgo : ∀ c : Int,c ≠ 0 → Ev (fun k => road_Go.f k W H A Y t f l) ([],c) → Ev (fun k => (road_Go.f k W H A Y t f l).bind fun bt621 => (if bt621.2 = 0 then ((road_Parts.f k W H A Y).bind fun bt626 => (if (bt621.1.length : Int) = 0 then (hinterlandlaw04_RoadGoesWays.j1 k t bt621.1 bt626.1 true W H A Y) else (if 0 < (bt621.1.length : Int) then (if (rd bt621.1 0) = t then (if (bt621.1.length : Int) > (wrap64 ((l.length : Int) + 1)) then (hinterlandlaw04_RoadGoesWays.j1 k t bt621.1 bt626.1 true W H A Y) else (hinterlandlaw04_RoadGoesWays.j1 k t bt621.1 bt626.1 ((bt626.1.length : Int) != (A.length : Int)) W H A Y)) else (hinterlandlaw04_RoadGoesWays.j1 k t bt621.1 bt626.1 true W H A Y)) else (none)))) else (if (bt621.1.length : Int) = 0 then ((hinterlandlaw04_known.f k).bind fun t625 => (some t625)) else (some false)))) true:=by
  intro c hc h
  exact Ev.bind h (Ev.neg hc (Ev.pos (by simp) known_then))
 by_cases h : tcode W H A Y t (-1) 3 f = 0
 rotate_left
 ·rw [if_neg h] at hn
  refine hgo _ h ?_
  unfold road_Go.f
  exact Ev.bind hn (Ev.neg h (Ev.now _))
 rw [if_pos h] at hn
 have hz:=tcode_zero.1 h
 have g:=good_of hz.1
 by_cases h1000 : (l.length : Int) > 1000
 ·refine hgo 4 (by decide) ?_
  unfold road_Go.f
  exact Ev.bind hn (Ev.pos (by first | rfl | trivial) (Ev.pos h1000 (Ev.now _)))
 obtain ⟨r,hr,T,h1⟩:=trip_l0 g t l (by omega) l.length 0 t f [t] (by omega) rfl rfl ⟨rfl,by simp,fun i hi => by simp at hi⟩ hz.2.1 hz.2.2.2
 have hgo1 : Ev (fun k => road_Go.f k W H A Y t f l) (r,0):=by
  unfold road_Go.f
  exact Ev.bind hn (Ev.pos (by first | rfl | trivial) (Ev.neg h1000 h1))
 have hp:=Parts_ev (W:=W) (H:=H) (A:=A) (Y:=Y) (by omega) (by omega)
 rw [if_pos hz.1] at hp
 have h0:=T.some
 refine Ev.bind hgo1 (Ev.pos (by first | rfl | trivial) (Ev.bind hp ?_))
 dsimp only
 refine Ev.neg (by omega) (Ev.pos (by omega) (Ev.pos T.first (Ev.neg (by rw [wrap_in (by omega) (by omega)];omega) ?_)))
 rw [parts_len,show ∀ x : Int,(x != x) = false from fun x => by simp]
 refine Ev.step (fun k => by simp only [hinterlandlaw04_RoadGoesWays.j1];rfl) (Ev.neg (by simp) ?_)
 exact ways_l0 g (by omega) (by omega) hz.2.1 T (by omega) (r.length - 1) 0 (by omega)

end Go.Proofs.Ytbdekjjdojbokaa.Pure
