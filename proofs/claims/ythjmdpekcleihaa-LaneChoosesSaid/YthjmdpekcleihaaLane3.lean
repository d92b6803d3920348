/- Layer 17: how far a goal is, as the program reckons it: the set of what has been entered and the marks tell the same. No conditions. -/
import Derived.Test.YthjmdpekcleihaaPx0
import Derived.Test.YthjmdpekcleihaaPx5
import Derived.Test.YthjmdpekcleihaaPx6
import Derived.Test.YthjmdpekcleihaaLane2
namespace Go.Proofs.Ythjmdpekcleihaa.Pure
set_option linter.unusedVariables false
set_option linter.unusedSimpArgs false
open Go.RowKit Go.Proofs.YthjmdpekcleihaaW.PrintWords Go.Proofs.Ythjmdpekcleihaa.P Go.Proofs.Ythjmdpekcleihaa

def Rel (W H : Int) (m : List (Int × Int)) (M : List Bool) : Prop := ∀ x, OkX W H x → mqHas (x.f0, x.f1) m = M.getD (cd x) false
section
variable {W H : Int} {A Y : List Int}
theorem vis_one (M : List Bool) (q : List S116) (x : S116) (xs : List S116) : vis M q (x :: xs) = vis (vis M q [x]).1 (vis M q [x]).2 xs := vis_app [x] xs M q
theorem e_ok (h : Good W H A Y) {t y g : Int} (ht : 0 ≤ t ∧ t < W * H) (hy : 0 ≤ y ∧ y ≤ 3) (hb : 0 ≤ bey W H t y ∧ bey W H t y < W * H) {m : List (Int × Int)} {M : List Bool} {q : List S116} (hM : (M.length : Int) = 4 * (W * H)) (hr : Rel W H m M) (hq : q.length ≤ 100000) :
  ∃ m',lane_far.e W H t y g m q = some (m',(vis M q [⟨bey W H t y,opp y⟩]).2,bey W H t y == g) ∧ Rel W H m' (vis M q [⟨bey W H t y,opp y⟩]).1:=by
 have hx : OkX W H ⟨bey W H t y,opp y⟩:=⟨hb,(opp_at hy).1⟩
 unfold lane_far.e
 rw [beside_eq (h.on ht) hy,Option.bind_some]
 dsimp only
 rw [bside_bey hb.1,show Int.tmod (wrap64 (y + 2)) 4 = opp y from rfl]
 have hh:=hr _ hx
 dsimp only at hh
 rw [hh]
 unfold vis
 by_cases c : M.getD (cd ⟨bey W H t y,opp y⟩) false = true
 ·rw [if_pos c,if_pos c]
  exact ⟨m,rfl,hr⟩
 ·rw [if_neg c,if_neg c,if_pos (by omega)]
  refine ⟨_,rfl,fun x hx' => ?_⟩
  unfold mqPut
  rw [hh,if_neg c]
  simp only [vis]
  rw [set_at]
  have hx2:=hr x hx'
  unfold mqHas at hx2 ⊢
  by_cases e : x = ⟨bey W H t y,opp y⟩
  ·rw [if_pos ⟨by rw [e],cd_lt hM hx'⟩,e];simp
  ·rw [if_neg (fun k => e (cd_inj hx' hx k.1.symm)),← hx2]
   have : ¬ ((x.f0,x.f1) = (bey W H t y,opp y)):=fun k => by
    cases x with
    | mk a b =>
     simp only [Prod.mk.injEq] at k
     exact e (by rw [k.1,k.2])
   simp [this]
theorem dropN {α : Type} (l : List α) (j : Nat) (d : α) (h : j < l.length) : l.drop j = l.getD j d :: l.drop (j + 1) := by
 rw [List.drop_eq_getElem_cons h,List.getD_eq_getElem?_getD,List.getElem?_eq_getElem h];rfl
theorem mem_at {α : Type} (l : List α) (j : Nat) (d : α) (h : j < l.length) : l.getD j d ∈ l := by
 rw [List.getD_eq_getElem?_getD,List.getElem?_eq_getElem h]
 exact List.getElem_mem h
theorem rdX (l : List S116) (i : Nat) : rd_T116 l (i : Int) = l.getD i z116 := by unfold rd_T116; simp
theorem far_l2 (h : Good W H A Y) {g n r : Int} {w : List S116} {i : Nat} {x : S116} (hi : rd_T116 w (i : Int) = x) (hx : OkX W H x) {s : List Int} (hs : ∀ y ∈ s, (0 ≤ y ∧ y ≤ 3) ∧ may W H A Y x.f0 y = true) (hsl : s.length ≤ 4) :
  ∀ d j,j + d = s.length → ∀ m M q,Rel W H m M → (M.length : Int) = 4 * (W * H) → q.length + M.count false ≤ 4096 →
   ((∃ z ∈ tgs W H x.f0 (s.drop j),z.f0 = g) → r = n) →
   ((¬ ∃ z ∈ tgs W H x.f0 (s.drop j),z.f0 = g) → ∀ m',Rel W H m' (vis M q (tgs W H x.f0 (s.drop j))).1 → Ev (fun k => lane_far.l1 k W H A Y g n w (wrap64 ((i : Int) + 1)) (vis M q (tgs W H x.f0 (s.drop j))).2 m') r) →
   Ev (fun k => lane_far.l2 k W H A Y g n w (i : Int) s (j : Int) q m) r
 | 0,j,hj,m,M,q,hr,hM,hq,hy,hn => by
  have e : s.drop j = []:=List.drop_of_length_le (by omega)
  rw [e] at hn
  exact Ev.step (fun k => by simp only [lane_far.l2];rfl) (Ev.neg (by omega) (hn (by simp [tgs]) m hr))
 | d + 1,j,hj,m,M,q,hr,hM,hq,hy,hn => by
  have hjl : j < s.length:=by omega
  have hsj:=hs _ (mem_at s j 0 hjl)
  have hb:=may_at h hx.1 hsj.2
  obtain ⟨m1,he,hr1⟩:=e_ok h (g:=g) (q:=q) hx.1 hsj.1 hb hM hr (by omega)
  have hc:=vis_count (W:=W) (H:=H) [⟨bey W H x.f0 (s.getD j 0),opp (s.getD j 0)⟩] M q hM (by intro z hz;rw [List.mem_singleton.1 hz];exact ⟨hb,(opp_at hsj.1).1⟩)
  rw [dropN s j 0 hjl] at hy hn
  simp only [tgs,List.map_cons] at hy hn
  rw [vis_one] at hn
  refine Ev.step (fun k => by simp only [lane_far.l2];rfl) (Ev.pos (by omega) (Ev.pos (by omega) ?_))
  rw [hi,rdN]
  refine Ev.bindc he ?_
  by_cases c : bey W H x.f0 (s.getD j 0) = g
  ·rw [hy ⟨_,List.mem_cons_self,c⟩]
   exact Ev.pos (beq_iff_eq.2 c) (Ev.now _)
  ·refine Ev.neg (fun k => c (beq_iff_eq.1 k)) ?_
   rw [wrap_in (x:=(j : Int) + 1) (by omega) (by omega),show (j : Int) + 1 = ((j + 1 : Nat) : Int) by omega]
   dsimp only
   refine far_l2 h hi hx hs hsl d (j + 1) (by omega) m1 _ _ hr1 (by rw [vis_len];exact hM) (by omega) (fun ⟨z,k1,k2⟩ => hy ⟨z,List.mem_cons_of_mem _ k1,k2⟩) (fun hnn => hn ?_)
   rintro ⟨z,k1,k2⟩
   rcases List.mem_cons.1 k1 with k | k
   ·rw [k] at k2;exact c k2
   ·exact hnn ⟨z,k,k2⟩
theorem far_l1 (h : Good W H A Y) {g n r : Int} {w : List S116} (hw : ∀ x ∈ w, OkX W H x) (hwl : w.length ≤ 100000) :
  ∀ d i,i + d = w.length → ∀ m M q,Rel W H m M → (M.length : Int) = 4 * (W * H) → q.length + M.count false ≤ 4096 →
   ((∃ z ∈ tg W H A Y (w.drop i),z.f0 = g) → r = n) →
   ((¬ ∃ z ∈ tg W H A Y (w.drop i),z.f0 = g) → ∀ m',Rel W H m' (vis M q (tg W H A Y (w.drop i))).1 → Ev (fun k => lane_far.l0 k W H A Y g (wrap64 (n + 1)) (vis M q (tg W H A Y (w.drop i))).2 m') r) →
   Ev (fun k => lane_far.l1 k W H A Y g n w (i : Int) q m) r
 | 0,i,hi,m,M,q,hr,hM,hq,hy,hn => by
  have e : w.drop i = []:=List.drop_of_length_le (by omega)
  rw [e] at hn
  exact Ev.step (fun k => by simp only [lane_far.l1];rfl) (Ev.neg (by omega) (hn (by simp [tg]) m hr))
 | d + 1,i,hi,m,M,q,hr,hM,hq,hy,hn => by
  have hil : i < w.length:=by omega
  have hx:=hw _ (mem_at w i z116 hil)
  have hos : ∀ y ∈ outs W H A Y (w.getD i z116).f0 (w.getD i z116).f1,(0 ≤ y ∧ y ≤ 3) ∧ may W H A Y (w.getD i z116).f0 y = true:=fun y k => outs_mem hx.2.2 k
  have hc:=vis_count (W:=W) (H:=H) (tgs W H (w.getD i z116).f0 (outs W H A Y (w.getD i z116).f0 (w.getD i z116).f1)) M q hM (tgs_ok h hx.1 hos)
  rw [dropN w i z116 hil] at hy hn
  simp only [tg] at hy hn
  rw [vis_app] at hn
  refine Ev.step (fun k => by simp only [lane_far.l1];rfl) (Ev.pos (by omega) (Ev.pos (by omega) ?_))
  rw [rdX]
  refine Ev.bind (leaves_ev h hx.1 hx.2.2) ?_
  refine far_l2 h (rdX w i) hx hos (outs_len _) (outs W H A Y (w.getD i z116).f0 (w.getD i z116).f1).length 0 (by omega) m M q hr hM hq (fun ⟨z,k1,k2⟩ => hy ⟨z,List.mem_append_left _ k1,k2⟩) (fun hnn m1 hr1 => ?_)
  rw [List.drop_zero] at hnn hr1
  rw [List.drop_zero,wrap_in (x:=(i : Int) + 1) (by omega) (by omega),show (i : Int) + 1 = ((i + 1 : Nat) : Int) by omega]
  refine far_l1 h hw hwl d (i + 1) (by omega) m1 _ _ hr1 (by rw [vis_len];exact hM) (by omega) (fun ⟨z,k1,k2⟩ => hy ⟨z,List.mem_append_right _ k1,k2⟩) (fun hnn2 => hn ?_)
  rintro ⟨z,k1,k2⟩
  rcases List.mem_append.1 k1 with k | k
  ·exact hnn ⟨z,k,k2⟩
  ·exact hnn2 ⟨z,k,k2⟩
theorem far_l0 (h : Good W H A Y) {g : Int} : ∀ (f : Nat) (n : Int) m M q, Rel W H m M → (M.length : Int) = 4 * (W * H) → q.length + M.count false ≤ 4097 → (∀ x ∈ q, OkX W H x) → (∀ x, OkX W H x → M.getD (cd x) false = true → x.f0 ≠ g) → (∀ x ∈ q, x.f0 ≠ g) →
  (q = [] ∨ M.count false < f) → M.count false ≤ 4096 → 0 ≤ n → n + f ≤ 10000 → Ev (fun k => lane_far.l0 k W H A Y g (n + 1) q m) (lv W H A Y g f M q n)
 | 0,n,m,M,q,hr,hM,hq,hok,hMg,hqg,hC,hB,h0,h1 => by
  obtain rfl : q = []:=hC.elim id (fun k => absurd k (Nat.not_lt_zero _))
  exact Ev.step (fun k => by simp only [lane_far.l0];rfl) (Ev.neg (by simp) (Ev.now _))
 | f + 1,n,m,M,q,hr,hM,hq,hok,hMg,hqg,hC,hB,h0,h1 => by
  unfold lv
  by_cases e : q = []
  ·rw [if_pos e]
   subst e
   exact Ev.step (fun k => by simp only [lane_far.l0];rfl) (Ev.neg (by simp) (Ev.now _))
  rw [if_neg e,if_neg (fun ⟨x,k1,k2⟩ => hqg x k1 k2)]
  have hC2 : M.count false < f + 1:=hC.elim (fun k => absurd k e) id
  have hto:=tg_ok h q hok
  have hc:=vis_count (W:=W) (H:=H) (tg W H A Y q) M [] hM hto
  rw [List.length_nil] at hc
  have hlen : 0 < q.length:=List.length_pos_iff.2 e
  refine Ev.step (fun k => by simp only [lane_far.l0];rfl) (Ev.pos (by omega) ?_)
  have hnil : ∀ z,z ∈ ([] : List S116) → OkX W H z:=fun z hz => by simp at hz
  refine far_l1 h hok (by omega) q.length 0 (by omega) m M [] hr hM (by simpa using hB) (fun ⟨z,k1,k2⟩ => ?_) (fun hnn m1 hr1 => ?_)
  ·rw [List.drop_zero] at k1
   have hz:=hto z k1
   have hzT : z ∈ (vis M [] (tg W H A Y q)).2:=(vis_mem _ M [] hM hto z k1).elim (fun k => absurd k2 (hMg z hz k)) id
   have hpos : 0 < (vis M [] (tg W H A Y q)).2.length:=List.length_pos_of_mem hzT
   obtain ⟨f',rfl⟩ : ∃ f',f = f' + 1:=⟨f - 1,by omega⟩
   unfold lv
   rw [if_neg (fun k => by rw [k] at hpos;simp at hpos),if_pos ⟨z,hzT,k2⟩]
  ·rw [List.drop_zero] at hnn hr1
   rw [List.drop_zero,wrap_in (x:=n + 1 + 1) (by omega) (by omega)]
   refine far_l0 h f (n + 1) m1 _ _ hr1 (by rw [vis_len];exact hM) (by omega) (vis_ok _ M [] hnil hto) (fun x hx k k2 => ?_) (fun x k k2 => ?_) ?_ (by omega) (by omega) (by omega)
   ·rcases vis_marks _ M [] _ k with k | ⟨y,hy,k3⟩
    ·exact hMg x hx k k2
    ·rw [← cd_inj (hto y hy) hx k3] at k2
     exact hnn ⟨y,hy,k2⟩
   ·rcases vis_from _ M [] x k with k | k
    ·simp at k
    ·exact hnn ⟨x,k,k2⟩
   ·by_cases e2 : (vis M [] (tg W H A Y q)).2 = []
    ·exact .inl e2
    ·have:=List.length_pos_iff.2 e2
     exact .inr (by omega)
theorem far_ev (h : Good W H A Y) {t s g : Int} (ht : 0 ≤ t ∧ t < W * H) (hs : 0 ≤ s ∧ s ≤ 3) (hb : 0 ≤ bey W H t s ∧ bey W H t s < W * H) : Ev (fun k => lane_far.f k W H A Y t s g) (farv W H A Y t s g) := by
 have ha:=area h.hW h.hH
 obtain ⟨N,hN⟩ : ∃ N,N = 4 * (W * H).toNat:=⟨_,rfl⟩
 have hx : OkX W H ⟨bey W H t s,opp s⟩:=⟨hb,(opp_at hs).1⟩
 have hM : ((List.replicate N false).length : Int) = 4 * (W * H):=by rw [List.length_replicate];omega
 have hr0 : Rel W H [] (List.replicate N false):=fun x _ => by
  unfold mqHas
  rw [List.getD_eq_getElem?_getD,List.getElem?_replicate]
  split <;> rfl
 obtain ⟨m1,he,hr1⟩:=e_ok h (g:=g) ht hs hb hM hr0 (q:=[]) (by simp)
 have hf : (List.replicate N false).getD (cd ⟨bey W H t s,opp s⟩) false = false:=by
  rw [List.getD_eq_getElem?_getD,List.getElem?_replicate]
  split <;> rfl
 have hv : vis (List.replicate N false) [] [⟨bey W H t s,opp s⟩] = ((List.replicate N false).set (cd ⟨bey W H t s,opp s⟩) true,[⟨bey W H t s,opp s⟩]):=by
  unfold vis
  rw [hf,if_neg (by simp)]
  rfl
 rw [hv] at he hr1
 have hc:=count_set (List.replicate N false) (cd ⟨bey W H t s,opp s⟩) (cd_lt hM hx) hf
 rw [List.count_replicate_self] at hc
 unfold lane_far.f farv
 rw [← hN]
 refine Ev.bindc he ?_
 by_cases c : bey W H t s = g
 ·refine Ev.eq (Ev.pos (beq_iff_eq.2 c) (Ev.now _)) ?_
  unfold lv
  rw [if_neg (by simp),if_pos ⟨_,List.mem_singleton.2 rfl,c⟩]
 ·refine Ev.neg (fun k => c (beq_iff_eq.1 k)) ?_
  refine far_l0 h (N + 1) 1 m1 _ _ hr1 (by simpa using hM) (by simp;omega) (fun x k => by rw [List.mem_singleton.1 k];exact hx) (fun x hx2 k => ?_) (fun x k => by rw [List.mem_singleton.1 k];exact c) (.inr (by omega)) (by omega) (by omega) (by omega)
  rw [set_at] at k
  by_cases e : cd ⟨bey W H t s,opp s⟩ = cd x ∧ cd x < (List.replicate N false).length
  ·rw [← cd_inj hx hx2 e.1];exact c
  ·rw [if_neg e,List.getD_eq_getElem?_getD,List.getElem?_replicate] at k
   split at k <;> simp at k
def pick (fv : Int → Int) : List Int → Int → Int → Int
 | [],b,_ => b
 | s :: r,b,l => if fv s ≥ 0 then (if l < 0 then pick fv r s (fv s) else if fv s < l then pick fv r s (fv s) else pick fv r b l) else pick fv r b l
noncomputable def chz (W H : Int) (A Y : List Int) (t f g : Int) : Int × Bool :=
 if outs W H A Y t f = [] then (0,false) else (pick (fun s => farv W H A Y t s g) (outs W H A Y t f) ((outs W H A Y t f).getD 0 0) (-1),true)
theorem choose_ev (h : Good W H A Y) {t f g : Int} (ht : 0 ≤ t ∧ t < W * H) (hf : f ≤ 3) : Ev (fun k => lane_choose.f k W H A Y t f g) (chz W H A Y t f g) := by
 unfold lane_choose.f chz
 refine Ev.bind (leaves_ev h ht hf) ?_
 have hm : ∀ y ∈ outs W H A Y t f,(0 ≤ y ∧ y ≤ 3) ∧ may W H A Y t y = true:=fun y k => outs_mem hf k
 have hl:=outs_len (W:=W) (H:=H) (A:=A) (Y:=Y) (t:=t) f
 generalize outs W H A Y t f = l at hm hl
 by_cases e : l = []
 ·rw [if_pos e]
  exact Ev.pos (by rw [e];rfl) (Ev.now _)
 rw [if_neg e]
 have hp:=List.length_pos_iff.2 e
 refine Ev.neg (by omega) (Ev.pos (by omega) ?_)
 rw [show rd l 0 = l.getD 0 0 from rdN l 0]
 have go : ∀ d i : Nat,i + d = l.length → ∀ b m : Int,Ev (fun k => lane_choose.l0 k t g b m l (l.length : Int) (i : Int) W H A Y) (pick (fun s => farv W H A Y t s g) (l.drop i) b m,true):=by
  intro d
  induction d with
  | zero =>
   intro i hi b m
   rw [List.drop_of_length_le (by omega)]
   exact Ev.step (fun k => by simp only [lane_choose.l0];rfl) (Ev.neg (by omega) (Ev.now _))
  | succ d ih =>
   intro i hi b m
   have ih:=ih (i + 1) (by omega)
   rw [show ((i + 1 : Nat) : Int) = (i : Int) + 1 from by omega] at ih
   have hs:=hm _ (mem_at l i 0 (by omega))
   rw [dropN l i 0 (by omega)]
   unfold pick
   refine Ev.step (fun k => by simp only [lane_choose.l0];rfl) (Ev.pos (by omega) (Ev.pos (by omega) (Ev.pos (by omega) ?_)))
   rw [rdN,wrap_in (x:=(i : Int) + 1) (by omega) (by omega)]
   refine Ev.bind (far_ev h ht hs.1 (may_at h ht hs.2)) ?_
   by_cases c : farv W H A Y t (l.getD i 0) g ≥ 0
   ·refine Ev.pos c ?_
    rw [if_pos c]
    by_cases c1 : m < 0
    ·rw [if_pos c1];exact Ev.pos c1 (ih _ _)
    ·rw [if_neg c1]
     refine Ev.neg c1 ?_
     by_cases c2 : farv W H A Y t (l.getD i 0) g < m
     ·rw [if_pos c2];exact Ev.pos c2 (ih _ _)
     ·rw [if_neg c2];exact Ev.neg c2 (ih _ _)
   ·rw [if_neg c];exact Ev.neg c (ih _ _)
 exact go l.length 0 (by omega) _ _
end
end Go.Proofs.Ythjmdpekcleihaa.Pure
