/- Layer 17: how far a goal is, as the reference reckons it: rounds of marks come to the same. No conditions. -/
import Derived.Test.YthjmdpekcleihaaPx0
import Derived.Test.YthjmdpekcleihaaPx11
import Derived.Test.YthjmdpekcleihaaPx12
import Derived.Test.YthjmdpekcleihaaLane3
import Derived.Test.YthjmdpekcleihaaLaneS
namespace Go.Proofs.Ythjmdpekcleihaa.Pure
set_option linter.unusedVariables false
set_option linter.unusedSimpArgs false
open Go.RowKit Go.Proofs.YthjmdpekcleihaaW.PrintWords Go.Proofs.Ythjmdpekcleihaa.P Go.Proofs.Ythjmdpekcleihaa

def cz (x : S116) : Int := (cd x : Nat)
section
variable {W H : Int} {A Y : List Int}
theorem cz_parts (h : Good W H A Y) {x : S116} (hx : OkX W H x) : wrap64 (Int.tdiv (cz x) 4) = x.f0 ∧ Int.tmod (cz x) 4 = x.f1 ∧ 0 ≤ cz x ∧ cz x < 4 * (W * H) := by
 obtain ⟨⟨a1,a2⟩,⟨a3,a4⟩⟩:=hx
 have ha:=area h.hW h.hH
 have e : cz x = 4 * x.f0 + x.f1:=by unfold cz cd;omega
 rw [e,Int.tdiv_eq_ediv_of_nonneg (by omega),Int.tmod_eq_emod_of_nonneg (by omega),wrap_in (by omega) (by omega)]
 omega
theorem cz_of (h : Good W H A Y) {x : S116} (hx : OkX W H x) : wrap64 (wrap64 (4 * x.f0) + x.f1) = cz x := by
 obtain ⟨⟨a1,a2⟩,⟨a3,a4⟩⟩:=hx
 have ha:=area h.hW h.hH
 rw [wrap_in (x:=4 * x.f0) (by omega) (by omega),wrap_in (by omega) (by omega)]
 unfold cz cd
 omega
theorem rd_map (q : List S116) (i : Nat) (h : i < q.length) : rd (q.map cz) (i : Int) = cz (q.getD i z116) := by
 rw [rdN,List.getD_eq_getElem?_getD,List.getElem?_map,List.getElem?_eq_getElem h,List.getD_eq_getElem?_getD,List.getElem?_eq_getElem h]
 rfl
theorem rdB (M : List Bool) (c : Nat) : rdOf false M (c : Int) = M.getD c false := by unfold rdOf; simp
theorem rfar_l2 (h : Good W H A Y) {g n r : Int} {w : List S116} {i : Nat} (hi : i < w.length) {x : S116} (hwx : w.getD i z116 = x) (hx : OkX W H x) {s : List Int} (hs : ∀ y ∈ s, (0 ≤ y ∧ y ≤ 3) ∧ may W H A Y x.f0 y = true) (hsl : s.length ≤ 4) :
  ∀ d j,j + d = s.length → ∀ M q,(M.length : Int) = 4 * (W * H) → q.length + M.count false ≤ 4096 →
   Ev (fun k => hinterlandref17_far.l1 k g (vis M q (tgs W H x.f0 (s.drop j))).1 (w.map cz) n ((vis M q (tgs W H x.f0 (s.drop j))).2.map cz) (wrap64 ((i : Int) + 1)) W H A Y) r →
   Ev (fun k => hinterlandref17_far.l2 k g M (w.map cz) n (q.map cz) (i : Int) s (j : Int) W H A Y) r
 | 0,j,hj,M,q,hM,hq,hn => by
  have e : s.drop j = []:=List.drop_of_length_le (by omega)
  rw [e] at hn
  exact Ev.step (fun k => by simp only [hinterlandref17_far.l2];rfl) (Ev.neg (by omega) hn)
 | d + 1,j,hj,M,q,hM,hq,hn => by
  have hjl : j < s.length:=by omega
  have hsj:=hs _ (mem_at s j 0 hjl)
  have hb:=may_at h hx.1 hsj.2
  have hz : OkX W H ⟨bey W H x.f0 (s.getD j 0),opp (s.getD j 0)⟩:=⟨hb,(opp_at hsj.1).1⟩
  have hc:=vis_count (W:=W) (H:=H) [⟨bey W H x.f0 (s.getD j 0),opp (s.getD j 0)⟩] M q hM (by intro z k;rw [List.mem_singleton.1 k];exact hz)
  have hp:=cz_parts h hz
  have hq4:=cz_parts h hx
  rw [dropN s j 0 hjl] at hn
  simp only [tgs,List.map_cons] at hn
  rw [vis_one] at hn
  have ih:=rfar_l2 h hi hwx hx hs hsl d (j + 1) (by omega) (vis M q [⟨bey W H x.f0 (s.getD j 0),opp (s.getD j 0)⟩]).1 (vis M q [⟨bey W H x.f0 (s.getD j 0),opp (s.getD j 0)⟩]).2 (by rw [vis_len];exact hM) (by omega) hn
  refine Ev.step (fun k => by simp only [hinterlandref17_far.l2];rfl) (Ev.pos (by omega) (Ev.pos (by omega) (Ev.pos (by rw [List.length_map];omega) (Ev.pos (by omega) ?_))))
  rw [rd_map w i hi,hwx,hq4.1,rdN,show Int.tmod (wrap64 (s.getD j 0 + 2)) 4 = opp (s.getD j 0) from rfl,wrap_in (x:=(j : Int) + 1) (by omega) (by omega)]
  refine Ev.bindc (ref_beyond_eq (h.on hx.1) hsj.1 A Y) ?_
  have ez:=cz_of h hz
  dsimp only at ez
  rw [bside_bey hb.1,ez]
  refine Ev.pos hp.2.2.1 (Ev.pos (by omega) ?_)
  rw [show (j : Int) + 1 = ((j + 1 : Nat) : Int) by omega]
  unfold cz
  rw [rdB,Int.toNat_natCast]
  unfold vis at ih
  by_cases c : M.getD (cd ⟨bey W H x.f0 (s.getD j 0),opp (s.getD j 0)⟩) false = true
  ·rw [if_pos c] at ih
   exact Ev.pos c ih
  ·rw [if_neg c] at ih
   refine Ev.neg c (Ev.pos (by rw [List.length_map];omega) ?_)
   simp only [vis,List.map_append,List.map_cons,List.map_nil] at ih
   exact ih
open Classical in
theorem rfar_l1 (h : Good W H A Y) {g n r : Int} {w : List S116} (hw : ∀ x ∈ w, OkX W H x) (hwl : w.length ≤ 100000) :
  ∀ d i,i + d = w.length → ∀ M q,(M.length : Int) = 4 * (W * H) → q.length + M.count false ≤ 4096 →
   ((∃ z ∈ w.drop i,z.f0 = g) → r = n) →
   ((¬ ∃ z ∈ w.drop i,z.f0 = g) → Ev (fun k => hinterlandref17_far.l0 k g (vis M q (tg W H A Y (w.drop i))).1 ((vis M q (tg W H A Y (w.drop i))).2.map cz) (wrap64 (n + 1)) W H A Y) r) →
   Ev (fun k => hinterlandref17_far.l1 k g M (w.map cz) n (q.map cz) (i : Int) W H A Y) r
 | 0,i,hi,M,q,hM,hq,hy,hn => by
  have e : w.drop i = []:=List.drop_of_length_le (by omega)
  rw [e] at hn
  exact Ev.step (fun k => by simp only [hinterlandref17_far.l1];rfl) (Ev.neg (by rw [List.length_map];omega) (hn (by simp)))
 | d + 1,i,hi,M,q,hM,hq,hy,hn => by
  have hil : i < w.length:=by omega
  have hx:=hw _ (mem_at w i z116 hil)
  have hos : ∀ y ∈ outs W H A Y (w.getD i z116).f0 (w.getD i z116).f1,(0 ≤ y ∧ y ≤ 3) ∧ may W H A Y (w.getD i z116).f0 y = true:=fun y k => outs_mem hx.2.2 k
  have hc:=vis_count (W:=W) (H:=H) (tgs W H (w.getD i z116).f0 (outs W H A Y (w.getD i z116).f0 (w.getD i z116).f1)) M q hM (tgs_ok h hx.1 hos)
  have hp:=cz_parts h hx
  rw [dropN w i z116 hil] at hy hn
  refine Ev.step (fun k => by simp only [hinterlandref17_far.l1];rfl) (Ev.pos (by rw [List.length_map];omega) (Ev.pos (by omega) ?_))
  rw [rd_map w i hil,hp.1,hp.2.1]
  by_cases c : (w.getD i z116).f0 = g
  ·rw [hy ⟨_,List.mem_cons_self,c⟩]
   exact Ev.pos c (Ev.now _)
  refine Ev.neg c (Ev.bind (ref_leave_ev h hx.1 hx.2.2) ?_)
  refine rfar_l2 h hil rfl hx hos (outs_len _) (outs W H A Y (w.getD i z116).f0 (w.getD i z116).f1).length 0 (by omega) M q hM hq ?_
  rw [List.drop_zero,wrap_in (x:=(i : Int) + 1) (by omega) (by omega),show (i : Int) + 1 = ((i + 1 : Nat) : Int) by omega]
  refine rfar_l1 h hw hwl d (i + 1) (by omega) _ _ (by rw [vis_len];exact hM) (by omega) (fun ⟨z,k1,k2⟩ => hy ⟨z,List.mem_cons_of_mem _ k1,k2⟩) (fun hnn => ?_)
  have hn:=hn (fun ⟨z,k1,k2⟩ => by
   rcases List.mem_cons.1 k1 with k | k
   ·rw [k] at k2;exact c k2
   ·exact hnn ⟨z,k,k2⟩)
  simp only [tg] at hn
  rw [vis_app] at hn
  exact hn
theorem rfar_l0 (h : Good W H A Y) {g : Int} : ∀ (f : Nat) (n : Int) M q, (M.length : Int) = 4 * (W * H) → q.length ≤ 100000 → (∀ x ∈ q, OkX W H x) → (q = [] ∨ M.count false < f) → M.count false ≤ 4096 → 0 ≤ n → n + f ≤ 10000 →
  Ev (fun k => hinterlandref17_far.l0 k g M (q.map cz) n W H A Y) (lv W H A Y g f M q n)
 | 0,n,M,q,hM,hq,hok,hC,hB,h0,h1 => by
  obtain rfl : q = []:=hC.elim id (fun k => absurd k (Nat.not_lt_zero _))
  exact Ev.step (fun k => by simp only [hinterlandref17_far.l0];rfl) (Ev.neg (by simp) (Ev.now _))
 | f + 1,n,M,q,hM,hq,hok,hC,hB,h0,h1 => by
  unfold lv
  by_cases e : q = []
  ·rw [if_pos e]
   subst e
   exact Ev.step (fun k => by simp only [hinterlandref17_far.l0];rfl) (Ev.neg (by simp) (Ev.now _))
  rw [if_neg e]
  have hC2 : M.count false < f + 1:=hC.elim (fun k => absurd k e) id
  have hto:=tg_ok h q hok
  have hc:=vis_count (W:=W) (H:=H) (tg W H A Y q) M [] hM hto
  rw [List.length_nil] at hc
  have hlen : 0 < q.length:=List.length_pos_iff.2 e
  have hnil : ∀ z,z ∈ ([] : List S116) → OkX W H z:=fun z hz => by simp at hz
  refine Ev.step (fun k => by simp only [hinterlandref17_far.l0];rfl) (Ev.pos (by rw [List.length_map];omega) ?_)
  refine rfar_l1 h hok hq q.length 0 (by omega) M [] hM (by simpa using hB) (fun k => ?_) (fun hnn => ?_)
  ·rw [List.drop_zero] at k
   rw [if_pos k]
  ·rw [List.drop_zero] at hnn
   rw [if_neg hnn,List.drop_zero,wrap_in (x:=n + 1) (by omega) (by omega)]
   refine rfar_l0 h f (n + 1) _ _ (by rw [vis_len];exact hM) (by omega) (vis_ok _ M [] hnil hto) ?_ (by omega) (by omega) (by omega)
   by_cases e2 : (vis M [] (tg W H A Y q)).2 = []
   ·exact .inl e2
   ·have:=List.length_pos_iff.2 e2
    exact .inr (by omega)
theorem ref_far_ev (h : Good W H A Y) {t s g : Int} (ht : 0 ≤ t ∧ t < W * H) (hs : 0 ≤ s ∧ s ≤ 3) (hb : 0 ≤ bey W H t s ∧ bey W H t s < W * H) : Ev (fun k => hinterlandref17_far.f k W H A Y t s g) (farv W H A Y t s g) := by
 have ha:=area h.hW h.hH
 have hA:=h.hA
 have hx : OkX W H ⟨bey W H t s,opp s⟩:=⟨hb,(opp_at hs).1⟩
 have hp:=cz_parts h hx
 have ez:=cz_of h hx
 dsimp only at ez
 have hM : ((List.replicate (4 * (W * H).toNat) false).length : Int) = 4 * (W * H):=by rw [List.length_replicate];omega
 have hf : (List.replicate (4 * (W * H).toNat) false).getD (cd ⟨bey W H t s,opp s⟩) false = false:=by
  rw [List.getD_eq_getElem?_getD,List.getElem?_replicate]
  split <;> rfl
 have hc:=count_set (List.replicate (4 * (W * H).toNat) false) (cd ⟨bey W H t s,opp s⟩) (cd_lt hM hx) hf
 rw [List.count_replicate_self] at hc
 unfold hinterlandref17_far.f farv
 rw [wrap_in (x:=4 * (A.length : Int)) (by omega) (by omega),show (4 * (A.length : Int)).toNat = 4 * (W * H).toNat by omega]
 refine Ev.pos (by omega) (Ev.pos (by omega) (Ev.bindc rfl (Ev.bindc (ref_beyond_eq (h.on ht) hs A Y) (Ev.bindc rfl ?_))))
 rw [bside_bey hb.1,show Int.tmod (wrap64 (s + 2)) 4 = opp s from rfl,ez]
 rw [show rd [cz ⟨bey W H t s,opp s⟩] 0 = cz ⟨bey W H t s,opp s⟩ from rfl]
 refine Ev.pos (by simp) (Ev.pos hp.2.2.1 (Ev.pos (by omega) ?_))
 have:=rfar_l0 h (g:=g) (4 * (W * H).toNat + 1) 1 ((List.replicate (4 * (W * H).toNat) false).set (cd ⟨bey W H t s,opp s⟩) true) [⟨bey W H t s,opp s⟩] (by simpa using hM) (by simp) (fun x k => by rw [List.mem_singleton.1 k];exact hx) (.inr (by omega)) (by omega) (by omega) (by omega)
 exact this
theorem ref_choose_ev (h : Good W H A Y) {t f g : Int} (ht : 0 ≤ t ∧ t < W * H) (hf : f ≤ 3) : Ev (fun k => hinterlandref17_choose.f k W H A Y t f g) (chz W H A Y t f g) := by
 unfold hinterlandref17_choose.f chz
 refine Ev.bind (ref_leave_ev h ht hf) ?_
 have hm : ∀ y ∈ outs W H A Y t f,(0 ≤ y ∧ y ≤ 3) ∧ may W H A Y t y = true:=fun y k => outs_mem hf k
 have hl:=outs_len (W:=W) (H:=H) (A:=A) (Y:=Y) (t:=t) f
 generalize outs W H A Y t f = l at hm hl
 by_cases e : l = []
 ·rw [if_pos e]
  exact Ev.pos (by rw [e];rfl) (Ev.now _)
 rw [if_neg e]
 have hp:=List.length_pos_iff.2 e
 refine Ev.neg (by omega) (Ev.pos (by omega) ?_)
 rw [show rd l 0 = l.getD 0 0 from rdN l 0]
 have go : ∀ d i : Nat,i + d = l.length → ∀ b m : Int,Ev (fun k => hinterlandref17_choose.l0 k t g l b m (i : Int) W H A Y) (pick (fun s => farv W H A Y t s g) (l.drop i) b m,true):=by
  intro d
  induction d with
  | zero =>
   intro i hi b m
   rw [List.drop_of_length_le (by omega)]
   exact Ev.step (fun k => by simp only [hinterlandref17_choose.l0];rfl) (Ev.neg (by omega) (Ev.now _))
  | succ d ih =>
   intro i hi b m
   have ih:=ih (i + 1) (by omega)
   rw [show ((i + 1 : Nat) : Int) = (i : Int) + 1 from by omega] at ih
   have hs:=hm _ (mem_at l i 0 (by omega))
   rw [dropN l i 0 (by omega)]
   unfold pick
   refine Ev.step (fun k => by simp only [hinterlandref17_choose.l0];rfl) (Ev.pos (by omega) (Ev.pos (by omega) ?_))
   rw [rdN,wrap_in (x:=(i : Int) + 1) (by omega) (by omega)]
   refine Ev.bind (ref_far_ev h ht hs.1 (may_at h ht hs.2)) ?_
   by_cases c : farv W H A Y t (l.getD i 0) g ≥ 0
   ·refine Ev.pos c ?_
    rw [if_pos c]
    by_cases c1 : m < 0
    ·rw [if_pos c1];exact Ev.pos c1 (ih _ _)
    ·rw [if_neg c1]
     refine Ev.neg c1 ?_
     by_cases c2 : farv W H A Y t (l.getD i 0) g < m
     ·rw [if_pos c2];exact Ev.pos c2 (ih _ _)
     ·rw [if_neg c2];exact Ev.neg c2 (ih _ _)
   ·rw [if_neg c];exact Ev.neg c (ih _ _)
 exact go l.length 0 (by omega) _ _
end
end Go.Proofs.Ythjmdpekcleihaa.Pure
