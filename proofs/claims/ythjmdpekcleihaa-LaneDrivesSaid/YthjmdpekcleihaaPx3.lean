/- Functions of this seat as plain Lean functions, with proofs that the Go code comes to just their answers, or what stands between them and a law's statement; no conditions. (Laid by a program of this session, out of the kit's print.) -/
import Derived.Test.YthjmdpekcleihaaPx0
import Derived.Test.YthjmdpekcleihaaPx2
namespace Go.Proofs.Ythjmdpekcleihaa.P
open Go.RowKit Go.Proofs.YthjmdpekcleihaaW.PrintWords Go.Proofs.YthjmdpekcleihaaW.PrintLast Go.Proofs.YthjmdpekcleihaaW.PrintMore
attribute [local go_sem] max2_int min2_int max_two min_two max_three min_three max_four min_four   -- for this text's walks alone
set_option linter.unusedVariables false
set_option linter.unusedSimpArgs false

-- plug-in
/-! ### lane_far: function 66 -/
def lane_far.e (a0_0 a0_1 a1 a2 a3 : Int) (m : List (Int × Int)) (q : List S116) : Option (List (Int × Int) × List S116 × Bool) :=
 (lane_beside.f a0_0 a0_1 a1 a2).bind fun b => if mqHas (b.1,Int.tmod (wrap64 (a2 + 2)) 4) m = true then some (m,q,b.1 == a3) else if q.length < 8796093022208 then some (mqPut (b.1,Int.tmod (wrap64 (a2 + 2)) 4) m,q ++ [⟨b.1,Int.tmod (wrap64 (a2 + 2)) 4⟩],b.1 == a3) else none
mutual
def lane_far.l0 : Nat → Int → Int → List Int → List Int → Int → Int → List S116 → List (Int × Int) → Option Int
 | 0,_,_,_,_,_,_,_,_ => none
 | k + 1,x0,x1,x2,x3,a3,n,q,m => if (q.length : Int) > 0 then lane_far.l1 k x0 x1 x2 x3 a3 n q 0 [] m else some (-1)
def lane_far.l1 : Nat → Int → Int → List Int → List Int → Int → Int → List S116 → Int → List S116 → List (Int × Int) → Option Int
 | 0,_,_,_,_,_,_,_,_,_,_ => none
 | k + 1,x0,x1,x2,x3,a3,n,w,i,q,m => if i < (w.length : Int) then (if 0 ≤ i then ((lane_leaves.f k x0 x1 x2 x3 (rd_T116 w i).f0 (rd_T116 w i).f1).bind fun s => lane_far.l2 k x0 x1 x2 x3 a3 n w i s 0 q m) else none) else lane_far.l0 k x0 x1 x2 x3 a3 (wrap64 (n + 1)) q m
def lane_far.l2 : Nat → Int → Int → List Int → List Int → Int → Int → List S116 → Int → List Int → Int → List S116 → List (Int × Int) → Option Int
 | 0,_,_,_,_,_,_,_,_,_,_,_,_ => none
 | k + 1,x0,x1,x2,x3,a3,n,w,i,s,j,q,m => if j < (s.length : Int) then (if 0 ≤ j then ((lane_far.e x0 x1 (rd_T116 w i).f0 (rd s j) a3 m q).bind fun t => if t.2.2 = true then some n else lane_far.l2 k x0 x1 x2 x3 a3 n w i s (wrap64 (j + 1)) t.2.1 t.1) else none) else lane_far.l1 k x0 x1 x2 x3 a3 n w (wrap64 (i + 1)) q m
end
def lane_far.f (k : Nat) (a0_0 : Int) (a0_1 : Int) (l0_2 : List Int) (l0_3 : List Int) (a1 : Int) (a2 : Int) (a3 : Int) : Option Int :=
 (lane_far.e a0_0 a0_1 a1 a2 a3 [] []).bind fun t => if t.2.2 = true then some 1 else lane_far.l0 k a0_0 a0_1 l0_2 l0_3 a3 2 t.2.1 t.1
theorem lane_far.mono_l : ∀ k, (∀ y0 y1 y2 y3 y4 y5 y6 y7, LeO (lane_far.l0 k y0 y1 y2 y3 y4 y5 y6 y7) (lane_far.l0 (k + 1) y0 y1 y2 y3 y4 y5 y6 y7)) ∧ (∀ y0 y1 y2 y3 y4 y5 y6 y7 y8 y9, LeO (lane_far.l1 k y0 y1 y2 y3 y4 y5 y6 y7 y8 y9) (lane_far.l1 (k + 1) y0 y1 y2 y3 y4 y5 y6 y7 y8 y9)) ∧ (∀ y0 y1 y2 y3 y4 y5 y6 y7 y8 y9 y10 y11, LeO (lane_far.l2 k y0 y1 y2 y3 y4 y5 y6 y7 y8 y9 y10 y11) (lane_far.l2 (k + 1) y0 y1 y2 y3 y4 y5 y6 y7 y8 y9 y10 y11))
 | 0 => ⟨fun _ _ _ _ _ _ _ _ r h => by simp [lane_far.l0] at h,fun _ _ _ _ _ _ _ _ _ _ r h => by simp [lane_far.l1] at h,fun _ _ _ _ _ _ _ _ _ _ _ _ r h => by simp [lane_far.l2] at h⟩
 | k + 1 => by
  obtain ⟨ih0,ih1,ih2⟩:=lane_far.mono_l k
  refine ⟨?_,?_,?_⟩
  ·intro y0 y1 y2 y3 y4 y5 y6 y7
   unfold lane_far.l0
   exact LeO.ite (ih1 _ _ _ _ _ _ _ _ _ _) (LeO.refl _)
  ·intro y0 y1 y2 y3 y4 y5 y6 y7 y8 y9
   unfold lane_far.l1
   exact LeO.ite (LeO.ite (LeO.bind (lane_leaves.mono _ _ _ _ _ _ _) (fun _ => ih2 _ _ _ _ _ _ _ _ _ _ _ _)) (LeO.refl _)) (ih0 _ _ _ _ _ _ _ _)
  ·intro y0 y1 y2 y3 y4 y5 y6 y7 y8 y9 y10 y11
   unfold lane_far.l2
   exact LeO.ite (LeO.ite (LeO.bind (LeO.refl _) (fun _ => LeO.ite (LeO.refl _) (ih2 _ _ _ _ _ _ _ _ _ _ _ _))) (LeO.refl _)) (ih1 _ _ _ _ _ _ _ _ _ _)
theorem lane_far.mono : ∀ a0 a1 a2 a3 a4 a5 a6 k, LeO (lane_far.f k a0 a1 a2 a3 a4 a5 a6) (lane_far.f (k + 1) a0 a1 a2 a3 a4 a5 a6) := by
 intro a0 a1 a2 a3 a4 a5 a6 k
 unfold lane_far.f
 exact LeO.bind (LeO.refl _) (fun _ => LeO.ite (LeO.refl _) ((lane_far.mono_l k).1 _ _ _ _ _ _ _ _))
/-- What stands in memory while the rounds go on: the streets, the goal, the set, the row of what is still to be gone on from. -/
structure lane_far.I (x0 x1 a3 : Int) (v2 v3 : Value) (gT gS gM gL gG base : Nat) (w0 W : World) (ok : Nat → Prop) (vL : Value) (m : List (Int × Int)) (q : List S116) : Prop where
 hT : W.heap[gT]? = some (.cells #[.int .i64 x0,.int .i64 x1,v2,v3] 24 (0,0))
 hG : W.heap[gG]? = some (.cells #[.int .i64 a3] 3 (0,0))
 hS : W.heap[gS]? = some (.cells #[.map (some gM)] 113 (0,0))
 hM : W.heap[gM]? = some (mqO m)
 hL : W.heap[gL]? = some (.cells #[vL] 114 (0,0))
 hO : Kd.R k116 116 W base ok vL q
 hB : Below base w0 W
 bM : base ≤ gM
 bL : base ≤ gL
section
variable {x0 x1 a3 : Int} {v2 v3 : Value} {gT gS gM gL gG base : Nat} {w0 W w1 : World} {ok : Nat → Prop} {vL : Value} {m : List (Int × Int)} {q : List S116}
theorem lane_far.I.step (h : lane_far.I x0 x1 a3 v2 v3 gT gS gM gL gG base w0 W ok vL m q) (hb : Below W.heap.size W w1) : lane_far.I x0 x1 a3 v2 v3 gT gS gM gL gG base w0 w1 ok vL m q :=
 ⟨blk_below h.hT hb,blk_below h.hG hb,blk_below h.hS hb,blk_below h.hM hb,blk_below h.hL hb,Kd.R_below h.hO hb,below_then h.hB (by have:=blk_lt h.hM;have:=h.bM;omega) hb,h.bM,h.bL⟩
theorem lane_far.I.draw (h : lane_far.I x0 x1 a3 v2 v3 gT gS gM gL gG base w0 W ok vL m q) (n : Nat) : lane_far.I x0 x1 a3 v2 v3 gT gS gM gL gG base w0 (W.drewN n) ok vL m q := h.step (pw_below_drewN (Below.refl _ _) n)
theorem lane_far.I.size (h : lane_far.I x0 x1 a3 v2 v3 gT gS gM gL gG base w0 W ok vL m q) : base ≤ W.heap.size := by have := blk_lt h.hM; have := h.bM; omega
/-- A block that is none of these. -/
structure lane_far.N (gx gT gS gM gL gG : Nat) (vL : Value) : Prop where
 nT : gT ≠ gx
 nS : gS ≠ gx
 nM : gM ≠ gx
 nL : gL ≠ gx
 nG : gG ≠ gx
 nO : some gx ≠ vL.ownBlock
theorem lane_far.I.fresh (h : lane_far.I x0 x1 a3 v2 v3 gT gS gM gL gG base w0 W ok vL m q) {gx : Nat} (hg : gx = W.heap.size) : lane_far.N gx gT gS gM gL gG vL := by
 have h1:=blk_lt h.hT
 have h2:=blk_lt h.hS
 have h3:=blk_lt h.hM
 have h4:=blk_lt h.hL
 have h5:=blk_lt h.hG
 exact ⟨by omega,by omega,by omega,by omega,by omega,fun e => by have:=Kd.R_lt h.hO _ e.symm;omega⟩
theorem lane_far.set2 {gx k : Nat} {u v : Value} (hk : k ≠ gx) : ((W.setCell ⟨gx, 0, none⟩ u).setCell ⟨gx, 1, none⟩ v).heap[k]? = W.heap[k]? := set_far hk (set_far hk rfl)
theorem lane_far.I.set (h : lane_far.I x0 x1 a3 v2 v3 gT gS gM gL gG base w0 W ok vL m q) {gx : Nat} (hx : lane_far.N gx gT gS gM gL gG vL) (hb : base ≤ gx) (hok : ∀ k, ok k → some k = vL.ownBlock) (u v : Value) :
  lane_far.I x0 x1 a3 v2 v3 gT gS gM gL gG base w0 ((W.setCell ⟨gx,0,none⟩ u).setCell ⟨gx,1,none⟩ v) ok vL m q :=
 ⟨(lane_far.set2 hx.nT).trans h.hT,(lane_far.set2 hx.nG).trans h.hG,(lane_far.set2 hx.nS).trans h.hS,(lane_far.set2 hx.nM).trans h.hM,(lane_far.set2 hx.nL).trans h.hL,
  Kd.R_step h.hO (fun k ho _ => lane_far.set2 (fun e => hx.nO (by rw [← e];exact hok k ho))),(h.hB.setCell hb _).setCell hb _,h.bM,h.bL⟩
theorem lane_far.I.put {m2 : List (Int × Int)} (h : lane_far.I x0 x1 a3 v2 v3 gT gS gM gL gG base w0 W ok vL m q) (hg : W.grownBy w1 (some gM)) (hM : w1.heap[gM]? = some (mqO m2)) : lane_far.I x0 x1 a3 v2 v3 gT gS gM gL gG base w0 w1 ok vL m2 q :=
 have ne : ∀ {g : Nat} {t : Nat} {cs : Array Value},W.heap[g]? = some (.cells cs t (0,0)) → some g ≠ some gM:=fun hc e => mq_ne hc h.hM (Option.some.inj e)
 ⟨blk_grown h.hT hg (ne h.hT),blk_grown h.hG hg (ne h.hG),blk_grown h.hS hg (ne h.hS),hM,blk_grown h.hL hg (ne h.hL),mq_R_over h.hO h.hM ⟨_,rfl⟩ hg,Below.grown h.hB hg h.size (fun k hk => by injection hk with hk;rw [← hk];exact h.bM),h.bM,h.bL⟩
/-- Behind an append to the row, and the row's keeping. -/
theorem lane_far.I.app {ok2 : Nat → Prop} {v1 : Value} {q2 : List S116} (h : lane_far.I x0 x1 a3 v2 v3 gT gS gM gL gG base w0 W ok vL m q) (hg : W.grownBy w1 vL.ownBlock) (ho : Kd.R k116 116 w1 base ok2 v1 q2) (hb : Below base w0 w1) :
  lane_far.I x0 x1 a3 v2 v3 gT gS gM gL gG base w0 (w1.setCell ⟨gL,0,none⟩ v1) ok2 v1 m q2 :=
 have k:=fun {g t : Nat} {cs : Array Value} (hc : W.heap[g]? = some (.cells cs t (0,0))) (ht : 116 ≠ t) => blk_grown hc hg (Kd.R_ne h.hO hc ht)
 have hl:=k h.hL (by decide)
 ⟨blk_far (k h.hT (by decide)) (blk_ne h.hT h.hL (by decide)) _,blk_far (k h.hG (by decide)) (blk_ne h.hG h.hL (by decide)) _,blk_far (k h.hS (by decide)) (blk_ne h.hS h.hL (by decide)) _,
  (Below.heap_setCell w1 ⟨gL,0,none⟩ v1 gM (mq_ne h.hL h.hM).symm).trans (blk_grown h.hM hg (mq_R_ne h.hO h.hM)),blk_set hl 0 v1,
  Kd.R_set ho hl (by decide) 0 v1,hb.setCell h.bL _,h.bM,h.bL⟩
theorem lane_far.mT : Try.prog.underlying 113 = some (.map 116 4) := by kernel_rfl
theorem lane_far.mZ (w : World) : (zeroValue 4).run Try.prog w = .ok (.bool false) w := by kernel_rfl
set_option maxHeartbeats 8000000 in
set_option maxRecDepth 100000 in
theorem lane_far.enter (a1 a2 : Int) (m2 : List (Int × Int)) (q2 : List S116) (hit : Bool) (P0 : Nat → Prop) (w : World) (hI : lane_far.I x0 x1 a3 v2 v3 gT gS gM gL gG base w0 w P0 vL m q) (hP : ∀ k, P0 k → some k = vL.ownBlock)
  (h : lane_far.e x0 x1 a1 a2 a3 m q = some (m2,q2,hit)) :
  Calls Try.prog 86 #[.int .i64 a1,.int .i64 a2,.pointer (some ⟨gT,0,none⟩),.pointer (some ⟨gS,0,none⟩),.pointer (some ⟨gL,0,none⟩),.pointer (some ⟨gG,0,none⟩)] w fun e w' => ∃ v1,e = .returned (.bool hit) ∧ lane_far.I x0 x1 a3 v2 v3 gT gS gM gL gG base w0 w' (fun k => P0 k ∨ w.heap.size ≤ k) v1 m2 q2 ∧ Kept w w' (fun k => k = gL ∨ k = gM ∨ P0 k):=by
 have hu24:=Try.underlying24
 have hu116:=Try.underlying116
 unfold lane_far.e at h
 obtain ⟨⟨b,is⟩,hb,h⟩:=Option.bind_eq_some_iff.1 h
 dsimp only at h
 have A1:=Aside0.mk hb
 clear hb
 have hGL : gG ≠ gL:=blk_ne hI.hG hI.hL (by decide)
 have hLG : gL ≠ gG:=hGL.symm
 obtain ⟨hcT0,hcT1,_,_,_,_,_,_⟩:=cells4 hI.hT
 have HI:=Aside0.mk hI
 have HP:=Aside0.mk hP
 have HK:=Aside0.mk (Kept.refl w (fun k => k = gL ∨ k = gM ∨ P0 k))
 clear hI hP
 by_cases hc : mqHas (b,Int.tmod (wrap64 (a2 + 2)) 4) m = true
 ·rw [if_pos hc] at h
  simp only [Option.some.injEq,Prod.mk.injEq] at h
  obtain ⟨rfl,rfl,rfl⟩:=h
  go_enter Try.func86,Try.ntmps86
  go_wp2_with (first
   | (go_at_call 72;(with_reducible refine (lane_beside.calls _ _ _ _ b is _ A1.out).mono ?_);rintro e w' ⟨rfl,⟨nd,rfl⟩⟩;replace HI:=Aside0.mk (HI.out.draw nd);replace HK:=Aside0.mk (HK.out.drewN nd))
   | ((with_reducible refine gate_dst (N:=11) rfl ?_);refine box_ev (N:=11) (cs:=#[.int .i64 0,.int .i64 0]) (t:=116) ?_;intro gx hg w1 hbox hb;have BX:=Aside0.mk hbox;have NX:=Aside0.mk (HI.out.fresh hg);have GX : Aside0 (w.heap.size ≤ gx):=⟨by rw [hg];exact HK.out.1⟩;have GB : Aside0 (base ≤ gx):=⟨by rw [hg];exact HI.out.size⟩;replace HI:=Aside0.mk (HI.out.step hb);replace HK:=Aside0.mk (HK.out.below hb);clear hb hbox hg;obtain ⟨hcX0,hcX1,hfX0,hfX1⟩:=cells2 BX.out;obtain ⟨hcS0,hfS0⟩:=cells1 HI.out.hS;obtain ⟨hcG0,hfG0⟩:=cells1 HI.out.hG;have h3_:=NX.out.nS;have h4_:=h3_.symm;have h5_:=NX.out.nG;have h6_:=h5_.symm)
   | ((with_reducible refine gate_dst (N:=29) rfl ?_);refine mq_look_1 rfl (t:=113) rfl (b:=gM) b (Int.tmod (wrap64 (a2 + 2)) 4) (l:=m) ?hm_ ?hk_ lane_far.mT mqK_116 lane_far.mZ ?hb_ ?_;(case hm_ => first|rfl|(go_simp;done));(case hk_ => first|rfl|(go_simp;done));(case hb_ => exact (HI.out.set NX.out GB.out HP.out _ _).hM)))
  go_ret
  exact ⟨_,rfl,⟨(HI.out.set NX.out GB.out HP.out _ _).hT,(HI.out.set NX.out GB.out HP.out _ _).hG,(HI.out.set NX.out GB.out HP.out _ _).hS,(HI.out.set NX.out GB.out HP.out _ _).hM,(HI.out.set NX.out GB.out HP.out _ _).hL,Kd.R_mono (HI.out.set NX.out GB.out HP.out _ _).hO (fun _ h => .inl h),(HI.out.set NX.out GB.out HP.out _ _).hB,HI.out.bM,HI.out.bL⟩,(HK.out.setCell (.inr GX.out) _).setCell (.inr GX.out) _⟩
 ·rw [if_neg hc] at h
  have hc : mqHas (b,Int.tmod (wrap64 (a2 + 2)) 4) m = false:=by simpa using hc
  by_cases hl : q.length < 8796093022208
  rotate_left
  ·rw [if_neg hl] at h;exact absurd h (by simp)
  rw [if_pos hl] at h
  simp only [Option.some.injEq,Prod.mk.injEq] at h
  obtain ⟨rfl,rfl,rfl⟩:=h
  have HQ:=Aside0.mk hl
  clear hl
  go_enter Try.func86,Try.ntmps86
  go_wp2_with (first
   | (go_at_call 72;(with_reducible refine (lane_beside.calls _ _ _ _ b is _ A1.out).mono ?_);rintro e w' ⟨rfl,⟨nd,rfl⟩⟩;replace HI:=Aside0.mk (HI.out.draw nd);replace HK:=Aside0.mk (HK.out.drewN nd))
   | ((with_reducible refine gate_dst (N:=11) rfl ?_);refine box_ev (N:=11) (cs:=#[.int .i64 0,.int .i64 0]) (t:=116) ?_;intro gx hg w1 hbox hb;have BX:=Aside0.mk hbox;have NX:=Aside0.mk (HI.out.fresh hg);have GX : Aside0 (w.heap.size ≤ gx):=⟨by rw [hg];exact HK.out.1⟩;have GB : Aside0 (base ≤ gx):=⟨by rw [hg];exact HI.out.size⟩;replace HI:=Aside0.mk (HI.out.step hb);replace HK:=Aside0.mk (HK.out.below hb);clear hb hbox hg;obtain ⟨hcX0,hcX1,hfX0,hfX1⟩:=cells2 BX.out;obtain ⟨hcS0,hfS0⟩:=cells1 HI.out.hS;have h3_:=NX.out.nS;have h4_:=h3_.symm)
   | ((with_reducible refine gate_dst (N:=29) rfl ?_);refine mq_look_1 rfl (t:=113) rfl (b:=gM) b (Int.tmod (wrap64 (a2 + 2)) 4) (l:=m) ?hm_ ?hk_ lane_far.mT mqK_116 lane_far.mZ ?hb_ ?_;(case hm_ => first|rfl|(go_simp;done));(case hk_ => first|rfl|(go_simp;done));(case hb_ => exact (HI.out.set NX.out GB.out HP.out _ _).hM))
   | ((with_reducible refine mq_gate (t:=113) rfl ?_);refine mq_put rfl rfl (t:=113) rfl (b:=gM) b (Int.tmod (wrap64 (a2 + 2)) 4) (l:=m) ?hm_ ?hk_ ?hv_ lane_far.mT mqK_116 ?hb_ ?_;(case hm_ => first|rfl|(go_simp;done));(case hk_ => first|rfl|(go_simp;done));(case hv_ => first|rfl|(go_simp;done));(case hb_ => exact (HI.out.set NX.out GB.out HP.out _ _).hM);intro w2 hbox hg;replace BX:=Aside0.mk (blk_grown (blk_puts2 BX.out) hg (fun e_ => NX.out.nM (Option.some.inj e_).symm));replace HI:=Aside0.mk ((HI.out.set NX.out GB.out HP.out _ _).put hg hbox);replace HK:=Aside0.mk (Kept.of_grown hg ((HK.out.setCell (.inr GX.out) _).setCell (.inr GX.out) _) (fun k hk => .inl (.inr (.inl (Option.some.inj hk).symm))));clear hbox hg;obtain ⟨hdX0,hdX1,heX0,heX1⟩:=cells2 BX.out;obtain ⟨hdL0,heL0⟩:=cells1 HI.out.hL)
   | ((with_reducible refine gate_builtin (b:=.append) (xs:=#[.tmp 33,.tmp 35]) rfl ?_);at_builtin;refine Kd.R_append k116 (w0:=w0) base rfl (.tmp 33) (.tmp 35) 114 116 (.agg #[.int .i64 0,.int .i64 0]) 16 rfl Try.underlying114 info116 rfl (by decide) (by omega) vL q (⟨b,Int.tmod (wrap64 (a2 + 2)) 4⟩ : S116) [.int .i64 b,.int .i64 (Int.tmod (wrap64 (a2 + 2)) 4)] (fun k => P0 k ∨ w.heap.size ≤ k) (fun _ => False) rfl (by first|(go_simp;done)|(go_simp;rfl)) ?aP (fun _ hk => hk.elim) ?aF ?aO ?aB ?aS ?aL ?_;(case aP => exact k116_mkM _ _ _ (⟨b,Int.tmod (wrap64 (a2 + 2)) 4⟩ : S116));(case aF => exact fun k hk => .inr (Nat.le_trans HK.out.1 hk));(case aO => exact Kd.R_mono HI.out.hO (fun _ h => .inl h));(case aB => exact HI.out.hB);(case aS => exact HI.out.size);(case aL => have:=HQ.out;omega);intro v1 w3 ho hb hg hat;replace HK:=Aside0.mk (Kept.of_grown hg HK.out (fun k hk => .inl (.inr (.inr (HI.out.hO.1 k hk)))));have HJ:=Aside0.mk (HI.out.app hg ho hb);obtain ⟨Ao_,co_,eo_⟩:=Kd.R_slice HJ.out.hO;subst eo_;obtain ⟨hfL0,hgL0⟩:=cells1 (blk_grown HI.out.hL hg (Kd.R_ne HI.out.hO HI.out.hL (by decide)));obtain ⟨hcG0,hfG0⟩:=cells1 (blk_grown HI.out.hG hg (Kd.R_ne HI.out.hO HI.out.hG (by decide)));clear ho hb hg hat))
  go_ret

  exact ⟨_,rfl,by have h_:=HJ.out;simp only [List.length_append,List.length_singleton] at h_;exact h_,HK.out.setCell (.inl (.inl rfl)) _⟩
end
/-- The row that rounds go over now, and the one that is laid aside: apart. -/
structure lane_far.J (x0 x1 a3 : Int) (v2 v3 : Value) (gT gS gM gL gG base : Nat) (w0 W : World) (vL : Value) (m : List (Int × Int)) (q : List S116) (vW : Value) (y : List S116) : Prop where
 i : lane_far.I x0 x1 a3 v2 v3 gT gS gM gL gG base w0 W (fun k => some k = vL.ownBlock) vL m q
 r : Kd.R k116 116 W base (fun k => some k = vW.ownBlock) vW y
 d : ∀ k,some k = vL.ownBlock → some k ≠ vW.ownBlock
structure lane_far.X (gT gS gM gL gG base : Nat) (W : World) (vL : Value) (gx : Nat) (x : S116) (vS : Value) (s : List Int) : Prop where
 b : W.heap[gx]? = some (.cells #[.int .i64 x.f0,.int .i64 x.f1] 116 (0,0))
 n : lane_far.N gx gT gS gM gL gG vL
 g : base ≤ gx
 s : Kd.R (Kd.int .i64) 3 W base (fun k => some k = vS.ownBlock) vS s
section
variable {x0 x1 a3 : Int} {v2 v3 : Value} {gT gS gM gL gG base gx : Nat} {w0 W w1 : World} {ok : Nat → Prop} {vL vW vS v1 : Value} {m m2 : List (Int × Int)} {q q2 y : List S116} {x : S116} {s : List Int}
theorem lane_far.I.tight (h : lane_far.I x0 x1 a3 v2 v3 gT gS gM gL gG base w0 W ok vL m q) : lane_far.I x0 x1 a3 v2 v3 gT gS gM gL gG base w0 W (fun k => some k = vL.ownBlock) vL m q :=
 ⟨h.hT,h.hG,h.hS,h.hM,h.hL,Kd.R_tight rfl h.hO,h.hB,h.bM,h.bL⟩
theorem lane_far.J.step (h : lane_far.J x0 x1 a3 v2 v3 gT gS gM gL gG base w0 W vL m q vW y) (hb : Below W.heap.size W w1) : lane_far.J x0 x1 a3 v2 v3 gT gS gM gL gG base w0 w1 vL m q vW y := ⟨h.i.step hb, Kd.R_below h.r hb, h.d⟩
theorem lane_far.J.ents (h : lane_far.J x0 x1 a3 v2 v3 gT gS gM gL gG base w0 W vL m q vW y) (hi : lane_far.I x0 x1 a3 v2 v3 gT gS gM gL gG base w0 w1 (fun k => some k = vL.ownBlock ∨ W.heap.size ≤ k) v1 m2 q2)
  (hk : Kept W w1 (fun k => k = gL ∨ k = gM ∨ some k = vL.ownBlock)) : lane_far.J x0 x1 a3 v2 v3 gT gS gM gL gG base w0 w1 v1 m2 q2 vW y :=
 ⟨hi.tight,Kd.R_kept h.r hk (fun k ho hs => by
  rcases hs with e_|e_|hs
  ·rw [e_] at ho;exact Kd.R_ne h.r h.i.hL (by decide) ho
  ·rw [e_] at ho;exact mq_R_ne h.r h.i.hM ho
  ·exact h.d k hs ho),fun k hk => (hi.hO.1 k hk.symm).elim (h.d k) (fun h2 e => by have:=Kd.R_lt h.r k e.symm;omega)⟩
theorem lane_far.X.ents (h : lane_far.X gT gS gM gL gG base W vL gx x vS s) (hi0 : lane_far.I x0 x1 a3 v2 v3 gT gS gM gL gG base w0 W (fun k => some k = vL.ownBlock) vL m q) (hi : lane_far.I x0 x1 a3 v2 v3 gT gS gM gL gG base w0 w1 (fun k => some k = vL.ownBlock ∨ W.heap.size ≤ k) v1 m2 q2)
  (hk : Kept W w1 (fun k => k = gL ∨ k = gM ∨ some k = vL.ownBlock)) : lane_far.X gT gS gM gL gG base w1 v1 gx x vS s :=
 ⟨blk_kept h.b hk (fun hs => hs.elim (fun e => h.n.nL e.symm) (fun h2 => h2.elim (fun e => h.n.nM e.symm) h.n.nO)),
  ⟨h.n.nT,h.n.nS,h.n.nM,h.n.nL,h.n.nG,fun e => (hi.hO.1 gx e.symm).elim h.n.nO (fun h2 => by have:=blk_lt h.b;omega)⟩,h.g,
  Kd.R_kept h.s hk (fun k ho hs => by
  obtain ⟨c,hc⟩:=Kd.R_typed h.s k ho.symm
  rcases hs with e_|e_|hs
  ·rw [e_,hi0.hL] at hc;simp at hc
  ·rw [e_,hi0.hM] at hc;simp [mqO] at hc
  ·obtain ⟨c2,hc2⟩:=Kd.R_typed hi0.hO k hs.symm
   rw [hc2] at hc;simp at hc)⟩
theorem lane_far.J.start (h : lane_far.I x0 x1 a3 v2 v3 gT gS gM gL gG base w0 W (fun k => some k = vW.ownBlock) vW m y) : lane_far.J x0 x1 a3 v2 v3 gT gS gM gL gG base w0 (W.setCell ⟨gL, 0, none⟩ (.slice none 0 0)) (.slice none 0 0) m [] vW y :=
 ⟨⟨blk_far h.hT (blk_ne h.hT h.hL (by decide)) _,blk_far h.hG (blk_ne h.hG h.hL (by decide)) _,blk_far h.hS (blk_ne h.hS h.hL (by decide)) _,
  (Below.heap_setCell W ⟨gL,0,none⟩ _ gM (mq_ne h.hL h.hM).symm).trans h.hM,blk_set h.hL 0 _,Kd.R_nil _ _ _ _ _,h.hB.setCell h.bL _,h.bM,h.bL⟩,
  Kd.R_set h.hO h.hL (by decide) 0 _,fun k hk => by simp [Value.ownBlock] at hk⟩
theorem lane_far.J.set (h : lane_far.J x0 x1 a3 v2 v3 gT gS gM gL gG base w0 W vL m q vW y) (hx : lane_far.N gx gT gS gM gL gG vL) (hw : some gx ≠ vW.ownBlock) (hb : base ≤ gx) (u v : Value) :
  lane_far.J x0 x1 a3 v2 v3 gT gS gM gL gG base w0 ((W.setCell ⟨gx,0,none⟩ u).setCell ⟨gx,1,none⟩ v) vL m q vW y :=
 ⟨h.i.set hx hb (fun _ hk => hk) u v,Kd.R_step h.r (fun k ho _ => lane_far.set2 (fun e => hw (by rw [← e];exact ho))),h.d⟩
theorem lane_far.J.away (h : lane_far.J x0 x1 a3 v2 v3 gT gS gM gL gG base w0 W vL m q vW y) (hg : gx = W.heap.size) : some gx ≠ vW.ownBlock := fun e => by have := Kd.R_lt h.r gx e.symm; omega
end
set_option maxHeartbeats 8000000 in
set_option maxRecDepth 100000 in
theorem lane_far.calls (k : Nat) (a0_0 : Int) (a0_1 : Int) (A0_2 : Option Addr) (c0_2 : Nat) (l0_2 : List Int) (A0_3 : Option Addr) (c0_3 : Nat) (l0_3 : List Int) (a1 : Int) (a2 : Int) (a3 : Int) (r : Int) (w : World) (hr0_2 : Kd.C (Kd.int .i64) w A0_2 l0_2.length l0_2) (hc0_2 : l0_2.length ≤ c0_2) (hr0_3 : Kd.C (Kd.int .i64) w A0_3 l0_3.length l0_3) (hc0_3 : l0_3.length ≤ c0_3) (h : lane_far.f k a0_0 a0_1 l0_2 l0_3 a1 a2 a3 = some r) :
  Calls Try.prog 66 #[.agg #[.int .i64 a0_0,.int .i64 a0_1,.slice A0_2 l0_2.length c0_2,.slice A0_3 l0_3.length c0_3],.int .i64 a1,.int .i64 a2,.int .i64 a3] w fun e w' => e = .returned (.int .i64 r) ∧ Below w.heap.size w w':=by
 have hu24:=Try.underlying24
 have hu116:=Try.underlying116
 have hmf : ∀ (fn : Fn) (first cap : Array Value) (w : World),(Instr.makeFunc fn first cap).run Try.prog w = .ok (.func fn first cap) w:=fun _ _ _ _ => rfl
 have HR2:=Aside0.mk hr0_2
 have HR3:=Aside0.mk hr0_3
 have HC2:=Aside0.mk hc0_2
 have HC3:=Aside0.mk hc0_3
 clear hr0_2 hr0_3 hc0_2 hc0_3
 have HB:=Aside0.mk (Below.refl w.heap.size w)
 unfold lane_far.f at h
 obtain ⟨⟨m1,q1,hit⟩,he,h⟩:=Option.bind_eq_some_iff.1 h
 dsimp only at h
 have HE:=Aside0.mk he
 have H:=Aside0.mk h
 clear he h
 cases hit with
 | true =>
  have h:=H.out
  rw [if_pos rfl] at h
  obtain rfl:=Option.some.inj h
  clear H h
  go_enter Try.func66,Try.ntmps66
  go_wp2_with (first
   | ((with_reducible refine gate_dst (N:=4) rfl ?_);refine box_ev (N:=4) (cs:=#[.int .i64 a0_0,.int .i64 a0_1,.slice A0_2 l0_2.length c0_2,.slice A0_3 l0_3.length c0_3]) (t:=24) ?_;intro gT hg w1 hbox hb;have BT:=Aside0.mk hbox;have GT : Aside0 (w.heap.size ≤ gT):=gsz hg;replace HB:=Aside0.mk (below_step (hb_) hb);clear hb hbox hg)
   | ((with_reducible refine gate_dst (N:=7) rfl ?_);refine box_ev (N:=7) (cs:=#[.int .i64 a3]) (t:=3) ?_;intro gG hg w2 hbox hb;have BG:=Aside0.mk hbox;have GG : Aside0 (w.heap.size ≤ gG):=gsz hg;replace BT:=bkb BT hb;replace HB:=Aside0.mk (below_step (hb_) hb);clear hb hbox hg)
   | ((with_reducible refine gate_dst (N:=18) rfl ?_);refine mq_make rfl (t:=113) rfl ?_;intro gM hg w3 hbox hb;have BM:=Aside0.mk hbox;have GM : Aside0 (w.heap.size ≤ gM):=gsz hg;replace BT:=bkb BT hb;replace BG:=bkb BG hb;replace HB:=Aside0.mk (below_step (hb_) hb);clear hb hbox hg)
   | ((with_reducible refine gate_dst (N:=9) rfl ?_);refine box_ev (N:=9) (cs:=#[.map none]) (t:=113) ?_;intro gS hg w4 hbox hb;have BS:=Aside0.mk hbox;have GS : Aside0 (w.heap.size ≤ gS):=gsz hg;have NS:=nbl BM hg;have NT:=nbl BT hg;have NG:=nbl BG hg;replace BT:=bkb BT hb;replace BG:=bkb BG hb;replace BM:=bkb BM hb;replace HB:=Aside0.mk (below_step (hb_) hb);clear hb hbox hg;obtain ⟨hcS0,hfS0⟩:=cells1 BS.out)
   | ((with_reducible refine gate_dst (N:=11) rfl ?_);refine box_ev (N:=11) (cs:=#[.slice none 0 0]) (t:=114) ?_;intro gL hg w5 hbox hb;have BL:=Aside0.mk hbox;have GL : Aside0 (w.heap.size ≤ gL):=⟨by rw [hg];exact (HB.out.setCell GS.out _).size⟩;have HI:=Aside0.mk (lane_far.I.mk (x0:=a0_0) (x1:=a0_1) (a3:=a3) (w0:=w) (ok:=fun k => some k = (Value.slice none 0 0).ownBlock) (blk_below (blk_far BT.out NT.out _) hb) (blk_below (blk_far BG.out NG.out _) hb) (blk_below (blk_set BS.out 0 _) hb) (blk_below ((Below.heap_setCell _ _ _ _ NS.out).trans BM.out) hb) BL.out (Kd.R_nil _ _ _ _ _) (below_step (HB.out.setCell GS.out _) hb) GM.out GL.out);clear hb hbox hg BT BG BM BS BL HB hcS0 hfS0)
   | (go_at_call 86;refine (lane_far.enter a1 a2 m1 q1 true (fun k => some k = (Value.slice none 0 0).ownBlock) _ HI.out (fun _ hk => hk) HE.out).mono ?_;rintro e w' ⟨v1,rfl,hi,hk⟩;replace HI:=Aside0.mk hi;clear hi hk))
  go_ret
  exact ⟨rfl,HI.out.hB⟩
 | false =>
  go_enter Try.func66,Try.ntmps66
  go_wp2_with (first
   | ((with_reducible refine gate_dst (N:=4) rfl ?_);refine box_ev (N:=4) (cs:=#[.int .i64 a0_0,.int .i64 a0_1,.slice A0_2 l0_2.length c0_2,.slice A0_3 l0_3.length c0_3]) (t:=24) ?_;intro gT hg w1 hbox hb;have BT:=Aside0.mk hbox;have GT : Aside0 (w.heap.size ≤ gT):=gsz hg;replace HB:=Aside0.mk (below_step (hb_) hb);clear hb hbox hg)
   | ((with_reducible refine gate_dst (N:=7) rfl ?_);refine box_ev (N:=7) (cs:=#[.int .i64 a3]) (t:=3) ?_;intro gG hg w2 hbox hb;have BG:=Aside0.mk hbox;have GG : Aside0 (w.heap.size ≤ gG):=gsz hg;replace BT:=bkb BT hb;replace HB:=Aside0.mk (below_step (hb_) hb);clear hb hbox hg)
   | ((with_reducible refine gate_dst (N:=18) rfl ?_);refine mq_make rfl (t:=113) rfl ?_;intro gM hg w3 hbox hb;have BM:=Aside0.mk hbox;have GM : Aside0 (w.heap.size ≤ gM):=gsz hg;replace BT:=bkb BT hb;replace BG:=bkb BG hb;replace HB:=Aside0.mk (below_step (hb_) hb);clear hb hbox hg)
   | ((with_reducible refine gate_dst (N:=9) rfl ?_);refine box_ev (N:=9) (cs:=#[.map none]) (t:=113) ?_;intro gS hg w4 hbox hb;have BS:=Aside0.mk hbox;have GS : Aside0 (w.heap.size ≤ gS):=gsz hg;have NS:=nbl BM hg;have NT:=nbl BT hg;have NG:=nbl BG hg;replace BT:=bkb BT hb;replace BG:=bkb BG hb;replace BM:=bkb BM hb;replace HB:=Aside0.mk (below_step (hb_) hb);clear hb hbox hg;obtain ⟨hcS0,hfS0⟩:=cells1 BS.out)
   | ((with_reducible refine gate_dst (N:=11) rfl ?_);refine box_ev (N:=11) (cs:=#[.slice none 0 0]) (t:=114) ?_;intro gL hg w5 hbox hb;have BL:=Aside0.mk hbox;have GL : Aside0 (w.heap.size ≤ gL):=⟨by rw [hg];exact (HB.out.setCell GS.out _).size⟩;have HI:=Aside0.mk (lane_far.I.mk (x0:=a0_0) (x1:=a0_1) (a3:=a3) (w0:=w) (ok:=fun k => some k = (Value.slice none 0 0).ownBlock) (blk_below (blk_far BT.out NT.out _) hb) (blk_below (blk_far BG.out NG.out _) hb) (blk_below (blk_set BS.out 0 _) hb) (blk_below ((Below.heap_setCell _ _ _ _ NS.out).trans BM.out) hb) BL.out (Kd.R_nil _ _ _ _ _) (below_step (HB.out.setCell GS.out _) hb) GM.out GL.out);clear hb hbox hg BT BG BM BS BL HB hcS0 hfS0)
   | (go_at_call 86;refine (lane_far.enter a1 a2 m1 q1 false (fun k => some k = (Value.slice none 0 0).ownBlock) _ HI.out (fun _ hk => hk) HE.out).mono ?_;rintro e w' ⟨v1,rfl,hi,hk⟩;have HI1:=Aside0.mk hi.tight;clear HI hi hk;obtain ⟨AL,cL,eL⟩:=Kd.R_slice HI1.out.hO;subst eL))
  go_loopg [13] k (fun kq v13 w' => ∃ (n : Int) (q : List S116) (m : List (Int × Int)) (vL : Value),v13 = .int .i64 n ∧ Aside0 (lane_far.l0 kq a0_0 a0_1 l0_2 l0_3 a3 n q m = some r) ∧ Aside0 (kq ≤ k) ∧ Aside0 (lane_far.I a0_0 a0_1 a3 (.slice A0_2 l0_2.length c0_2) (.slice A0_3 l0_3.length c0_3) gT gS gM gL gG w.heap.size w w' (fun k => some k = vL.ownBlock) vL m q))
  case atStart => exact ⟨2,q1,m1,_,rfl,⟨by have h:=H.out;rw [if_neg (by simp)] at h;exact h⟩,⟨Nat.le_refl _⟩,HI1⟩
  case round =>
   clear H HE HI1
   obtain ⟨n,y,m,vW,rfl,HA,HK1,HI⟩:=hrel
   cases gk with
   | zero => exact absurd HA.out (by simp [lane_far.l0])
   | succ k1 =>
    have h:=HA.out
    clear HA
    simp only [lane_far.l0] at h
    obtain ⟨AW,cW,eW⟩:=Kd.R_slice HI.out.hO
    subst eW
    obtain ⟨hcL0,hfL0⟩:=cells1 HI.out.hL
    by_cases c : (y.length : Int) > 0
    rotate_left
    ·rw [if_neg c] at h
     obtain rfl:=Option.some.inj h
     have c0 : decide (0 < (y.length : Int)) = false:=decide_eq_false c
     have c1 : decide (0 < y.length) = false:=decide_eq_false (by omega)
     clear h c
     go_wp2
     go_ret
     exact ⟨rfl,HI.out.hB⟩
    rw [if_pos c] at h
    have c0 : decide (0 < (y.length : Int)) = true:=decide_eq_true c
    have c1 : decide (0 < y.length) = true:=decide_eq_true (by omega)
    have H1:=Aside0.mk h
    clear h c
    go_wp2
    go_loopg [32] k1 (fun kq v32 w' => ∃ (i : Int) (q : List S116) (m : List (Int × Int)) (vL : Value),v32 = .int .i64 i ∧ Aside0 (lane_far.l1 kq a0_0 a0_1 l0_2 l0_3 a3 n y i q m = some r) ∧ Aside0 (kq ≤ k1) ∧ Aside0 (lane_far.J a0_0 a0_1 a3 (.slice A0_2 l0_2.length c0_2) (.slice A0_3 l0_3.length c0_3) gT gS gM gL gG w.heap.size w w' vL m q (.slice AW y.length cW) y))
    case atStart => exact ⟨0,[],m,_,rfl,H1,⟨Nat.le_refl _⟩,⟨lane_far.J.start HI.out⟩⟩
    case round =>
     clear H1 HI hcL0 hfL0
     obtain ⟨i,q,m,vL,rfl,HA,HK2,HJ⟩:=hrel
     cases gk with
     | zero => exact absurd HA.out (by simp [lane_far.l1])
     | succ k2 =>
      have h:=HA.out
      clear HA
      simp only [lane_far.l1] at h
      by_cases c : i < (y.length : Int)
      rotate_left
      ·rw [if_neg c] at h
       have c2 : decide (i < (y.length : Int)) = false:=decide_eq_false c
       have H1:=Aside0.mk h
       clear h c
       go_wp2
       go_roundg k2
       case measure => have:=HK1.out;have:=HK2.out;omega
       case rel => exact ⟨wrap64 (n + 1),q,m,vL,rfl,H1,⟨by have:=HK1.out;have:=HK2.out;omega⟩,⟨HJ.out.i⟩⟩
      rw [if_pos c] at h
      by_cases c3 : 0 ≤ i
      rotate_left
      ·rw [if_neg c3] at h;exact absurd h (by simp)
      rw [if_pos c3] at h
      obtain ⟨s,hs,h⟩:=Option.bind_eq_some_iff.1 h
      have c2 : decide (i < (y.length : Int)) = true:=decide_eq_true c
      have H1:=Aside0.mk h
      have HS:=Aside0.mk hs
      clear h hs
      obtain ⟨_,_,hry⟩:=Kd.R_reads' HJ.out.r
      obtain ⟨ad,eW,hx0,hx1⟩:=at_T116 hry i c3 c
      subst eW
      have p1:=eq_true c3
      have p2:=eq_true c
      clear hry c3 c
      go_wp2_with (first
       | ((with_reducible refine gate_dst (N:=15) rfl ?_);refine box_ev (N:=15) (cs:=#[.int .i64 0,.int .i64 0]) (t:=116) ?_;intro gx hg w6 hbox hb;have BX:=Aside0.mk hbox;have NX:=Aside0.mk (HJ.out.i.fresh hg);have NW:=Aside0.mk (HJ.out.away hg);have GX : Aside0 (w.heap.size ≤ gx):=⟨by rw [hg];exact HJ.out.i.size⟩;replace HJ:=Aside0.mk (HJ.out.step hb);clear hb hbox hg;obtain ⟨hcX0,hcX1,hfX0,hfX1⟩:=cells2 BX.out;obtain ⟨hcT0,hcT1,hcT2,hcT3,_,_,_,_⟩:=cells4 HJ.out.i.hT;have n1_:=NX.out.nT;have n2_:=n1_.symm)
       | (go_at_call 65;refine (lane_leaves.calls k2 _ _ _ _ l0_2 _ _ l0_3 _ _ s _ (Kd.C_below HR2.out (HJ.out.set NX.out NW.out GX.out _ _).i.hB) HC2.out (Kd.C_below HR3.out (HJ.out.set NX.out NW.out GX.out _ _).i.hB) HC3.out HS.out).mono ?_;rintro e w' ⟨vS,rfl,ho,hb⟩;have HX:=Aside0.mk (lane_far.X.mk (x:=rd_T116 y i) (blk_below (blk_puts2 BX.out) hb) NX.out GX.out (Kd.R_tight rfl (Kd.R_lower ho (HJ.out.set NX.out NW.out GX.out _ _).i.size)));replace HJ:=Aside0.mk ((HJ.out.set NX.out NW.out GX.out _ _).step hb);clear ho hb BX;obtain ⟨AS,cS,eS⟩:=Kd.R_slice HX.out.s;subst eS))
      go_loopg [43] k2 (fun kq v43 w' => ∃ (j : Int) (q : List S116) (m : List (Int × Int)) (vL : Value),v43 = .int .i64 j ∧ Aside0 (lane_far.l2 kq a0_0 a0_1 l0_2 l0_3 a3 n y i s j q m = some r) ∧ Aside0 (kq ≤ k2) ∧ Aside0 (lane_far.J a0_0 a0_1 a3 (.slice A0_2 l0_2.length c0_2) (.slice A0_3 l0_3.length c0_3) gT gS gM gL gG w.heap.size w w' vL m q (.slice (some ad) y.length cW) y) ∧ Aside0 (lane_far.X gT gS gM gL gG w.heap.size w' vL gx (rd_T116 y i) (.slice AS s.length cS) s))
      case atStart => exact ⟨0,q,m,vL,rfl,H1,⟨Nat.le_refl _⟩,HJ,HX⟩
      case round =>
       clear H1 HS HJ HX NX NW
       obtain ⟨j,q,m,vL,rfl,HA,HK3,HJ,HX⟩:=hrel
       cases gk with
       | zero => exact absurd HA.out (by simp [lane_far.l2])
       | succ k3 =>
        have h:=HA.out
        clear HA
        simp only [lane_far.l2] at h
        by_cases c : j < (s.length : Int)
        rotate_left
        ·rw [if_neg c] at h
         have c4 : decide (j < (s.length : Int)) = false:=decide_eq_false c
         have H1:=Aside0.mk h
         clear h c
         go_wp2
         go_roundg k3
         case measure => have:=HK1.out;have:=HK2.out;have:=HK3.out;omega
         case rel => exact ⟨wrap64 (i + 1),q,m,vL,rfl,H1,⟨by have:=HK1.out;have:=HK2.out;have:=HK3.out;omega⟩,HJ⟩
        rw [if_pos c] at h
        by_cases c5 : 0 ≤ j
        rotate_left
        ·rw [if_neg c5] at h;exact absurd h (by simp)
        rw [if_pos c5] at h
        obtain ⟨⟨m2,q2,hit⟩,he,h⟩:=Option.bind_eq_some_iff.1 h
        dsimp only at h
        have c4 : decide (j < (s.length : Int)) = true:=decide_eq_true c
        have H1:=Aside0.mk h
        have HE:=Aside0.mk he
        clear h he
        obtain ⟨_,_,hrs⟩:=Kd.R_reads' HX.out.s
        obtain ⟨ae,eS,hy0⟩:=Kd.at_int hrs j c5 c
        subst eS
        have p3:=eq_true c5
        have p4:=eq_true c
        clear hrs c5 c
        obtain ⟨hcX0,hcX1,hfX0,hfX1⟩:=cells2 HX.out.b
        cases hit with
        | true =>
         have h:=H1.out
         rw [if_pos rfl] at h
         obtain rfl:=Option.some.inj h
         clear H1 h
         go_wp2_with (go_at_call 86;refine (lane_far.enter _ _ m2 q2 true (fun k => some k = vL.ownBlock) _ HJ.out.i (fun _ hk => hk) HE.out).mono ?_;rintro e w' ⟨v1,rfl,hi,hk⟩;replace HJ:=Aside0.mk (HJ.out.ents hi hk);clear hi hk)
         go_ret
         exact ⟨rfl,HJ.out.i.hB⟩
        | false =>
         have h:=H1.out
         rw [if_neg (by simp)] at h
         replace H1:=Aside0.mk h
         clear h
         go_wp2_with (go_at_call 86;refine (lane_far.enter _ _ m2 q2 false (fun k => some k = vL.ownBlock) _ HJ.out.i (fun _ hk => hk) HE.out).mono ?_;rintro e w' ⟨v1,rfl,hi,hk⟩;replace HX:=Aside0.mk (HX.out.ents HJ.out.i hi hk);replace HJ:=Aside0.mk (HJ.out.ents hi hk);clear hi hk)
         go_roundg k3
         case measure => have:=HK1.out;have:=HK2.out;have:=HK3.out;omega
         case rel => exact ⟨wrap64 (j + 1),q2,m2,v1,rfl,H1,⟨by have:=HK3.out;omega⟩,HJ,HX⟩


end Go.Proofs.Ythjmdpekcleihaa.P
