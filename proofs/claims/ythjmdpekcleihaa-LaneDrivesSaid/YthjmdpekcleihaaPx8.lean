/- Functions of this seat as plain Lean functions, with proofs that the Go code comes to just their answers, or what stands between them and a law's statement; no conditions. (Laid by a program of this session, out of the kit's print.) -/
import Derived.Test.YthjmdpekcleihaaPx0
import Derived.Test.YthjmdpekcleihaaPx2
import Derived.Test.YthjmdpekcleihaaPx4
import Derived.Test.YthjmdpekcleihaaPx7
namespace Go.Proofs.Ythjmdpekcleihaa.P
open Go.RowKit Go.Proofs.YthjmdpekcleihaaW.PrintWords Go.Proofs.YthjmdpekcleihaaW.PrintLast Go.Proofs.YthjmdpekcleihaaW.PrintMore
attribute [local go_sem] max2_int min2_int max_two min_two max_three min_three max_four min_four   -- for this text's walks alone
set_option linter.unusedVariables false
set_option linter.unusedSimpArgs false

-- plug-in
/-! ### lane_step: function 50 -/
def lane_step.upd (x : S50) (j : Nat) (u : Int) : S50 := match j with
 | 0 => ⟨u,x.f1,x.f2,x.f3,x.f4⟩
 | 1 => ⟨x.f0,u,x.f2,x.f3,x.f4⟩
 | 2 => ⟨x.f0,x.f1,u,x.f3,x.f4⟩
 | 3 => ⟨x.f0,x.f1,x.f2,u,x.f4⟩
 | _ => ⟨x.f0,x.f1,x.f2,x.f3,u⟩
/-- One number of one element is written. -/
theorem lane_step.put {W : World} {base g n cap : Nat} {ok : Nat → Prop} {xs : List S50} (h : Kd.R k50 50 W base ok (.slice (some ⟨g, 0, none⟩) n cap) xs) (i : Int) (h0 : 0 ≤ i) (h1 : i < n) (j : Nat) (hj : j < 5) (u : Int) :
  Kd.R k50 50 (W.setCell ⟨g,i.toNat * 5 + j,none⟩ (.int .i64 u)) base ok (.slice (some ⟨g,0,none⟩) n cap) (xs.set i.toNat (lane_step.upd (rd_T50 xs i) j u)):=by
 obtain ⟨c,hcl,hM,hcc,hfr⟩:=Kd.R_elem h z50 i h0 h1
 have hM2 : k50.M W base (fun k => ok k ∧ k ≠ g) (rd_T50 xs i) c:=hM
 obtain rfl:=k50_openM hM2
 have key : ∀ (x' : S50),k50.M W base (fun k => ok k ∧ k ≠ g) x' (([.int .i64 (rd_T50 xs i).f0,.int .i64 (rd_T50 xs i).f1,.int .i64 (rd_T50 xs i).f2,.int .i64 (rd_T50 xs i).f3,.int .i64 (rd_T50 xs i).f4] : List Value).take j ++ [.int .i64 u] ++ ([.int .i64 (rd_T50 xs i).f0,.int .i64 (rd_T50 xs i).f1,.int .i64 (rd_T50 xs i).f2,.int .i64 (rd_T50 xs i).f3,.int .i64 (rd_T50 xs i).f4] : List Value).drop (j + 1)) → Kd.R k50 50 (W.setCell ⟨g,i.toNat * 5 + j,none⟩ (.int .i64 u)) base ok (.slice (some ⟨g,0,none⟩) n cap) (xs.set i.toNat x') :=
  fun x' hx => (Kd.R_seg h i h0 h1 (seg:=[.int .i64 u]) (j:=j) hcl hcc (show j + 1 ≤ 5 by omega) (x':=x') hx (fun _ hk => hk)).1
 rcases (by omega : j = 0 ∨ j = 1 ∨ j = 2 ∨ j = 3 ∨ j = 4) with rfl|rfl|rfl|rfl|rfl
 all_goals exact key _ (k50_mkM _ _ _ (lane_step.upd (rd_T50 xs i) _ u))
theorem lane_step.rd_set (l : List S50) (i : Int) (h0 : 0 ≤ i) (h1 : i < (l.length : Int)) (y : S50) : rd_T50 (l.set i.toNat y) i = y := by
 unfold rd_T50;simp [List.getD,show i.toNat < l.length by omega]
theorem lane_step.cells {W : World} {base g n cap : Nat} {ok : Nat → Prop} {xs : List S50} (h : Kd.R k50 50 W base ok (.slice (some ⟨g, 0, none⟩) n cap) xs) (i : Int) (h0 : 0 ≤ i) (h1 : i < n) :
  (W.cell? ⟨g,i.toNat * 5,none⟩ = some (.int .i64 (rd_T50 xs i).f0) ∧ W.cell? ⟨g,i.toNat * 5 + 1,none⟩ = some (.int .i64 (rd_T50 xs i).f1) ∧ W.cell? ⟨g,i.toNat * 5 + 2,none⟩ = some (.int .i64 (rd_T50 xs i).f2) ∧ W.cell? ⟨g,i.toNat * 5 + 3,none⟩ = some (.int .i64 (rd_T50 xs i).f3) ∧ W.cell? ⟨g,i.toNat * 5 + 4,none⟩ = some (.int .i64 (rd_T50 xs i).f4)) ∧
  (W.frozen? ⟨g,i.toNat * 5,none⟩ = false ∧ W.frozen? ⟨g,i.toNat * 5 + 1,none⟩ = false ∧ W.frozen? ⟨g,i.toNat * 5 + 2,none⟩ = false ∧ W.frozen? ⟨g,i.toNat * 5 + 3,none⟩ = false ∧ W.frozen? ⟨g,i.toNat * 5 + 4,none⟩ = false):=by
 obtain ⟨c,hcl,hM,hcc,hfr⟩:=Kd.R_elem h z50 i h0 h1
 have hM2 : k50.M W base (fun k => ok k ∧ k ≠ g) (rd_T50 xs i) c:=hM
 obtain rfl:=k50_openM hM2
 exact ⟨⟨hcc 0 _ rfl,hcc 1 _ rfl,hcc 2 _ rfl,hcc 3 _ rfl,hcc 4 _ rfl⟩,⟨hfr 0,hfr 1,hfr 2,hfr 3,hfr 4⟩⟩
def lane_step.f (k : Nat) (a0_0 : Int) (a0_1 : Int) (l0_2 : List Int) (l0_3 : List Int) (l0_4 : List Int) (l0_5 : List S50) (a1 : Int) (a2 : Int) : Option (Int × List S50) :=
 if 0 ≤ a1 then (if a1 < (l0_5.length : Int) then (if (rd_T50 l0_5 a1).f0 = (-1) then some (0,l0_5) else
  if wrap64 ((rd_T50 l0_5 a1).f4 + (rd_T50 l0_5 a1).f3) < 192 then some (0,l0_5.set a1.toNat ⟨(rd_T50 l0_5 a1).f0,(rd_T50 l0_5 a1).f1,(rd_T50 l0_5 a1).f2,(rd_T50 l0_5 a1).f3,wrap64 ((rd_T50 l0_5 a1).f4 + (rd_T50 l0_5 a1).f3)⟩) else
  ((lane_beside.f a0_0 a0_1 (rd_T50 l0_5 a1).f0 (rd_T50 l0_5 a1).f2).bind fun b => (lane_choose.f k a0_0 a0_1 l0_2 l0_3 b.1 (Int.tmod (wrap64 ((rd_T50 l0_5 a1).f2 + 2)) 4) a2).bind fun c => (slices_BinarySearch_int_int.f k l0_4 b.1).bind fun s =>
   if s.2 = true then some (1,l0_5.set a1.toNat ⟨(rd_T50 l0_5 a1).f0,(rd_T50 l0_5 a1).f1,(rd_T50 l0_5 a1).f2,0,191⟩) else
   if c.2 = true then ((lane_held.f k a0_0 a0_1 l0_2 l0_3 l0_4 (l0_5.set a1.toNat ⟨(rd_T50 l0_5 a1).f0,(rd_T50 l0_5 a1).f1,(rd_T50 l0_5 a1).f2,(rd_T50 l0_5 a1).f3,wrap64 ((rd_T50 l0_5 a1).f4 + (rd_T50 l0_5 a1).f3)⟩) a1 b.1 c.1).bind fun h =>
    if h = true then some (1,l0_5.set a1.toNat ⟨(rd_T50 l0_5 a1).f0,(rd_T50 l0_5 a1).f1,(rd_T50 l0_5 a1).f2,0,191⟩) else
    if b.1 = a2 then some (3,l0_5.set a1.toNat ⟨b.1,Int.tmod (wrap64 ((rd_T50 l0_5 a1).f2 + 2)) 4,c.1,(rd_T50 l0_5 a1).f3,0⟩) else some (0,l0_5.set a1.toNat ⟨b.1,Int.tmod (wrap64 ((rd_T50 l0_5 a1).f2 + 2)) 4,c.1,(rd_T50 l0_5 a1).f3,wrap64 (wrap64 ((rd_T50 l0_5 a1).f4 + (rd_T50 l0_5 a1).f3) - 192)⟩)) else
   some (1,l0_5.set a1.toNat ⟨(rd_T50 l0_5 a1).f0,(rd_T50 l0_5 a1).f1,(rd_T50 l0_5 a1).f2,0,191⟩))) else none) else none
theorem lane_step.mono : ∀ a0 a1 a2 a3 a4 a5 a6 a7 k, LeO (lane_step.f k a0 a1 a2 a3 a4 a5 a6 a7) (lane_step.f (k + 1) a0 a1 a2 a3 a4 a5 a6 a7) := by
 intro a0 a1 a2 a3 a4 a5 a6 a7 k
 unfold lane_step.f
 repeat' first
  | (with_reducible exact lane_choose.mono _ _ _ _ _ _ _ _)
  | (with_reducible exact lane_held.mono _ _ _ _ _ _ _ _ _ _)
  | (with_reducible exact slices_BinarySearch_int_int.mono _ _ _)
  | (with_reducible exact LeO.refl _)
  | (with_reducible exact LeO.none _)
  | (with_reducible refine LeO.ite ?_ ?_)
  | (with_reducible refine LeO.bind ?_ (fun _ => ?_))
theorem lane_step.to_ {W : World} {base : Nat} {ok ok' : Nat → Prop} {v : Value} {xs ys : List S50} (hk : ∀ k, ok k → ok' k) (h : Kd.R k50 50 W base ok v xs) (e : xs = ys) : Kd.R k50 50 W base ok' v ys := e ▸ Kd.R_mono h hk
set_option maxHeartbeats 8000000 in
set_option maxRecDepth 100000 in
theorem lane_step.calls (k : Nat) (a0_0 : Int) (a0_1 : Int) (A0_2 : Option Addr) (c0_2 : Nat) (l0_2 : List Int) (A0_3 : Option Addr) (c0_3 : Nat) (l0_3 : List Int) (A0_4 : Option Addr) (c0_4 : Nat) (l0_4 : List Int) (P0_5_ : Nat → Prop) (u9000_ : Value) (l0_5 : List (S50)) (a1 : Int) (a2 : Int) (r1 : Int) (r2 : List (S50)) (w0 w : World) (hB : Below w0.heap.size w0 w) (hr0_2 : ∀ W_, Kept w W_ (fun k_ => P0_5_ k_) → Kd.C (Kd.int .i64) W_ A0_2 l0_2.length l0_2) (hc0_2 : l0_2.length ≤ c0_2) (hr0_3 : ∀ W_, Kept w W_ (fun k_ => P0_5_ k_) → Kd.C (Kd.int .i64) W_ A0_3 l0_3.length l0_3) (hc0_3 : l0_3.length ≤ c0_3) (hr0_4 : ∀ W_, Kept w W_ (fun k_ => P0_5_ k_) → Kd.C (Kd.int .i64) W_ A0_4 l0_4.length l0_4) (hc0_4 : l0_4.length ≤ c0_4) (ho0_5 : Kd.R k50 50 w w0.heap.size P0_5_ u9000_ l0_5) (h : lane_step.f k a0_0 a0_1 l0_2 l0_3 l0_4 l0_5 a1 a2 = some (r1, r2)) :
  Calls Try.prog 50 #[.agg #[.int .i64 a0_0,.int .i64 a0_1,.slice A0_2 l0_2.length c0_2,.slice A0_3 l0_3.length c0_3,.slice A0_4 l0_4.length c0_4,u9000_],.int .i64 a1,.int .i64 a2] w fun e w' => e = .returned (.int .i64 r1) ∧ Kd.R k50 50 w' w0.heap.size (fun k_ => (P0_5_ k_ ∨ w.heap.size ≤ k_)) u9000_ r2 ∧ Below w0.heap.size w0 w' ∧ Kept w w' (fun k_ => P0_5_ k_):=by
 have hu24:=Try.underlying24
 have hu33:=Try.underlying33
 have hu50:=Try.underlying50
 unfold lane_step.f at h
 by_cases c0 : 0 ≤ a1
 rotate_left
 ·rw [if_neg c0] at h;exact absurd h (by simp)
 by_cases c1 : a1 < (l0_5.length : Int)
 rotate_left
 ·rw [if_pos c0,if_neg c1] at h;exact absurd h (by simp)
 rw [if_pos c0,if_pos c1] at h
 obtain ⟨g,cap,rfl,hgb,hgl,_⟩:=Kd.R_form ho0_5 (by omega)
 have hP : P0_5_ g:=ho0_5.1 g rfl
 obtain ⟨⟨hx0,hx1,hx2,hx3,hx4⟩,⟨hf0,hf1,hf2,hf3,hf4⟩⟩:=lane_step.cells ho0_5 a1 c0 c1
 have HR:=Aside0.mk ho0_5
 have HB:=Aside0.mk hB
 have HG:=Aside0.mk hgb
 have HP:=Aside0.mk hP
 have H2:=Aside0.mk hr0_2
 have H3:=Aside0.mk hr0_3
 have H4:=Aside0.mk hr0_4
 have C2:=Aside0.mk hc0_2
 have C3:=Aside0.mk hc0_3
 have C4:=Aside0.mk hc0_4
 have HL:=Aside0.mk hgl
 have p0:=eq_true c0
 have p1:=eq_true c1
 have C0:=Aside0.mk c0
 have C1:=Aside0.mk c1
 clear hr0_2 hr0_3 hr0_4 hc0_2 hc0_3 hc0_4 ho0_5 hB hgb hP c0 c1 hgl
 by_cases c2 : (rd_T50 l0_5 a1).f0 = (-1)
 ·rw [if_pos c2] at h
  simp only [Option.some.injEq,Prod.mk.injEq] at h
  obtain ⟨rfl,rfl⟩:=h
  have c2b : ((rd_T50 l0_5 a1).f0 == (-1)) = true:=beq_iff_eq.2 c2
  clear c2
  go_enter Try.func50,Try.ntmps50
  go_wp2_with (first
   | ((with_reducible refine gate_dst (N:=3) rfl ?_);refine box_ev (N:=3) (cs:=#[.int .i64 a0_0,.int .i64 a0_1,.slice A0_2 l0_2.length c0_2,.slice A0_3 l0_3.length c0_3,.slice A0_4 l0_4.length c0_4,.slice (some ⟨g,0,none⟩) l0_5.length cap]) (t:=33) ?_;intro gl hg w1 hbox hb;have BL:=Aside0.mk hbox;have NL : Aside0 (g ≠ gl):=⟨by rw [hg];exact Nat.ne_of_lt HL.out⟩;replace HR:=rbw HR hb;have HK:=Aside0.mk (Kept.of_below hb (fun k_ => P0_5_ k_));replace HB:=Aside0.mk (below_then HB.out HB.out.size hb);clear hb hbox hg;obtain ⟨hcl0,hcl1,hcl2,hcl3,hcl4,hcl5,_,_,_,_,_,_⟩:=cells6 BL.out;obtain ⟨⟨hy0,hy1,hy2,hy3,hy4⟩,⟨he0,he1,he2,he3,he4⟩⟩:=lane_step.cells HR.out a1 C0.out C1.out))
  go_ret
  exact ⟨rfl,Kd.R_mono HR.out (fun _ h => .inl h),HB.out,HK.out⟩
 rw [if_neg c2] at h
 have c2b : ((rd_T50 l0_5 a1).f0 == (-1)) = false:=beq_eq_false_iff_ne.2 c2
 clear c2
 go_enter Try.func50,Try.ntmps50
 go_wp2_with (first
   | ((with_reducible refine gate_dst (N:=3) rfl ?_);refine box_ev (N:=3) (cs:=#[.int .i64 a0_0,.int .i64 a0_1,.slice A0_2 l0_2.length c0_2,.slice A0_3 l0_3.length c0_3,.slice A0_4 l0_4.length c0_4,.slice (some ⟨g,0,none⟩) l0_5.length cap]) (t:=33) ?_;intro gl hg w1 hbox hb;have BL:=Aside0.mk hbox;have NL : Aside0 (g ≠ gl):=⟨by rw [hg];exact Nat.ne_of_lt HL.out⟩;have GL : Aside0 (w.heap.size ≤ gl):=⟨by rw [hg];exact Nat.le_refl _⟩;replace HR:=rbw HR hb;have HK:=Aside0.mk (Kept.of_below hb (fun k_ => P0_5_ k_));replace HB:=Aside0.mk (below_then HB.out HB.out.size hb);clear hb hbox hg;obtain ⟨hcl0,hcl1,hcl2,hcl3,hcl4,hcl5,_,_,_,_,_,_⟩:=cells6 BL.out;obtain ⟨⟨hy0,hy1,hy2,hy3,hy4⟩,⟨he0,he1,he2,he3,he4⟩⟩:=lane_step.cells HR.out a1 C0.out C1.out))
 go_region
 have hrd : ∀ y : S50,rd_T50 (l0_5.set a1.toNat y) a1 = y:=fun y => lane_step.rd_set l0_5 a1 C0.out C1.out y
 replace HR:=Aside0.mk (Kd.R_drew (lane_step.put HR.out a1 C0.out C1.out 4 (by omega) (wrap64 ((rd_T50 l0_5 a1).f4 + (rd_T50 l0_5 a1).f3))))
 replace HK:=Aside0.mk ((HK.out.setCell (p:=⟨g,a1.toNat * 5 + 4,none⟩) (.inl HP.out) (.int .i64 (wrap64 ((rd_T50 l0_5 a1).f4 + (rd_T50 l0_5 a1).f3)))).drew)
 replace HB:=Aside0.mk (below_drew (HB.out.setCell (p:=⟨g,a1.toNat * 5 + 4,none⟩) HG.out (.int .i64 (wrap64 ((rd_T50 l0_5 a1).f4 + (rd_T50 l0_5 a1).f3)))))
 replace BL:=Aside0.mk (blk_drew (blk_far BL.out (p:=⟨g,a1.toNat * 5 + 4,none⟩) (Ne.symm NL.out) (.int .i64 (wrap64 ((rd_T50 l0_5 a1).f4 + (rd_T50 l0_5 a1).f3)))))
 clear hcl0 hcl1 hcl2 hcl3 hcl4 hcl5 hy0 hy1 hy2 hy3 hy4 he0 he1 he2 he3 he4 hx0 hx1 hx2 hx3 hx4 hf0 hf1 hf2 hf3 hf4
 generalize (w1.setCell ⟨g,a1.toNat * 5 + 4,none⟩ (.int .i64 (wrap64 ((rd_T50 l0_5 a1).f4 + (rd_T50 l0_5 a1).f3)))).drew = W at *
 obtain ⟨hcl0,hcl1,hcl2,hcl3,hcl4,hcl5,_,_,_,_,_,_⟩:=cells6 BL.out
 obtain ⟨⟨hy0,hy1,hy2,hy3,hy4⟩,⟨he0,he1,he2,he3,he4⟩⟩:=lane_step.cells HR.out a1 C0.out C1.out
 rw [hrd] at hy0 hy1 hy2 hy3 hy4
 change W.cell? _ = some (.int .i64 (rd_T50 l0_5 a1).f0) at hy0
 change W.cell? _ = some (.int .i64 (rd_T50 l0_5 a1).f1) at hy1
 change W.cell? _ = some (.int .i64 (rd_T50 l0_5 a1).f2) at hy2
 change W.cell? _ = some (.int .i64 (rd_T50 l0_5 a1).f3) at hy3
 change W.cell? _ = some (.int .i64 (wrap64 ((rd_T50 l0_5 a1).f4 + (rd_T50 l0_5 a1).f3))) at hy4
 by_cases c3 : wrap64 ((rd_T50 l0_5 a1).f4 + (rd_T50 l0_5 a1).f3) < 192
 ·rw [if_pos c3] at h
  simp only [Option.some.injEq,Prod.mk.injEq] at h
  obtain ⟨rfl,rfl⟩:=h
  have c3b:=decide_eq_true c3
  go_wp2
  go_ret
  exact ⟨rfl,Kd.R_mono HR.out (fun _ h => .inl h),HB.out,HK.out⟩
 rw [if_neg c3] at h
 have c3b:=decide_eq_false c3
 obtain ⟨b,hb,h⟩:=Option.bind_eq_some_iff.mp h
 obtain ⟨c,hc,h⟩:=Option.bind_eq_some_iff.mp h
 obtain ⟨s,hs,h⟩:=Option.bind_eq_some_iff.mp h
 obtain ⟨b1,b2⟩:=b
 obtain ⟨c1,c2⟩:=c
 obtain ⟨s1,s2⟩:=s
 have A1:=Aside0.mk hb
 have A2:=Aside0.mk hc
 have A3:=Aside0.mk hs
 clear hb hc hs
 go_wp2
 go_quiet ((exact Calls.quiet_of ((lane_beside.calls a0_0 a0_1 _ _ b1 b2 _ A1.out).mono fun _ _ hh => ⟨hh.1,hh.2.out⟩)))
 cases s2
 rotate_left
 ·simp only [if_pos,Option.some.injEq,Prod.mk.injEq] at h
  obtain ⟨rfl,rfl⟩:=h
  go_wp2_with (first|(go_at_call 38;(with_reducible refine (lane_choose.calls k a0_0 a0_1 _ _ l0_2 _ _ l0_3 _ _ _ c1 c2 _ ?_ ?_ ?_ ?_ A2.out).mono ?_);exact H2.out _ (HK.out.drewN _);exact C2.out;exact H3.out _ (HK.out.drewN _);exact C3.out;rintro e w' ⟨rfl,hb⟩;replace BL:=Aside0.mk (blk_below (blk_drewN BL.out nq) hb);replace HR:=Aside0.mk (Kd.R_below (Kd.R_drewN HR.out nq) hb);replace HK:=Aside0.mk ((HK.out.drewN nq).below hb);replace HB:=Aside0.mk (below_then (pw_below_drewN HB.out nq) (pw_below_drewN HB.out nq).size hb);clear hb hcl0 hcl1 hcl2 hcl3 hcl4 hcl5 hy0 hy1 hy2 hy3 hy4 he0 he1 he2 he3 he4;obtain ⟨hcl0,hcl1,hcl2,hcl3,hcl4,hcl5,_,_,_,_,_,_⟩:=cells6 BL.out;obtain ⟨⟨hy0,hy1,hy2,hy3,hy4⟩,⟨he0,he1,he2,he3,he4⟩⟩:=lane_step.cells HR.out a1 C0.out C1.out;rw [hrd] at hy0 hy1 hy2 hy3 hy4;simp only [lane_step.upd] at hy0 hy1 hy2 hy3 hy4)|(go_at_call 73;(with_reducible refine (slices_BinarySearch_int_int.calls k _ _ l0_4 b1 s1 _ _ ?_ ?_ A3.out).mono ?_);exact H4.out _ HK.out;exact C4.out;rintro e w' ⟨rfl,⟨nd,rfl⟩⟩))
  go_ret
  exact ⟨rfl,lane_step.to_ (fun _ h => .inl h) (lane_step.put (lane_step.put (Kd.R_drewN HR.out _) a1 C0.out C1.out 4 (by omega) 191) a1 C0.out C1.out 3 (by omega) 0) (by simp only [List.set_set,hrd,lane_step.upd]),((pw_below_drewN HB.out _).setCell (p:=⟨g,a1.toNat * 5 + 4,none⟩) HG.out _).setCell (p:=⟨g,a1.toNat * 5 + 3,none⟩) HG.out _,((HK.out.drewN _).setCell (p:=⟨g,a1.toNat * 5 + 4,none⟩) (.inl HP.out) _).setCell (p:=⟨g,a1.toNat * 5 + 3,none⟩) (.inl HP.out) _⟩
 cases c2
 ·simp only [if_neg (show ¬ (false = true) by decide),Option.some.injEq,Prod.mk.injEq] at h
  obtain ⟨rfl,rfl⟩:=h
  go_wp2_with (first|(go_at_call 38;(with_reducible refine (lane_choose.calls k a0_0 a0_1 _ _ l0_2 _ _ l0_3 _ _ _ c1 _ _ ?_ ?_ ?_ ?_ A2.out).mono ?_);exact H2.out _ (HK.out.drewN _);exact C2.out;exact H3.out _ (HK.out.drewN _);exact C3.out;rintro e w' ⟨rfl,hb⟩;replace BL:=Aside0.mk (blk_below (blk_drewN BL.out nq) hb);replace HR:=Aside0.mk (Kd.R_below (Kd.R_drewN HR.out nq) hb);replace HK:=Aside0.mk ((HK.out.drewN nq).below hb);replace HB:=Aside0.mk (below_then (pw_below_drewN HB.out nq) (pw_below_drewN HB.out nq).size hb);clear hb hcl0 hcl1 hcl2 hcl3 hcl4 hcl5 hy0 hy1 hy2 hy3 hy4 he0 he1 he2 he3 he4;obtain ⟨hcl0,hcl1,hcl2,hcl3,hcl4,hcl5,_,_,_,_,_,_⟩:=cells6 BL.out;obtain ⟨⟨hy0,hy1,hy2,hy3,hy4⟩,⟨he0,he1,he2,he3,he4⟩⟩:=lane_step.cells HR.out a1 C0.out C1.out;rw [hrd] at hy0 hy1 hy2 hy3 hy4;simp only [lane_step.upd] at hy0 hy1 hy2 hy3 hy4)|(go_at_call 73;(with_reducible refine (slices_BinarySearch_int_int.calls k _ _ l0_4 b1 s1 _ _ ?_ ?_ A3.out).mono ?_);exact H4.out _ HK.out;exact C4.out;rintro e w' ⟨rfl,⟨nd,rfl⟩⟩))
  go_ret
  exact ⟨rfl,lane_step.to_ (fun _ h => .inl h) (lane_step.put (lane_step.put (Kd.R_drewN HR.out _) a1 C0.out C1.out 4 (by omega) 191) a1 C0.out C1.out 3 (by omega) 0) (by simp only [List.set_set,hrd,lane_step.upd]),((pw_below_drewN HB.out _).setCell (p:=⟨g,a1.toNat * 5 + 4,none⟩) HG.out _).setCell (p:=⟨g,a1.toNat * 5 + 3,none⟩) HG.out _,((HK.out.drewN _).setCell (p:=⟨g,a1.toNat * 5 + 4,none⟩) (.inl HP.out) _).setCell (p:=⟨g,a1.toNat * 5 + 3,none⟩) (.inl HP.out) _⟩
 simp only [if_neg (show ¬ (false = true) by decide),if_true] at h
 obtain ⟨t,ht,h⟩:=Option.bind_eq_some_iff.mp h
 have A4:=Aside0.mk ht
 clear ht
 cases t
 rotate_left
 ·simp only [if_true,Option.some.injEq,Prod.mk.injEq] at h
  obtain ⟨rfl,rfl⟩:=h
  go_wp2_with (first|(go_at_call 38;(with_reducible refine (lane_choose.calls k a0_0 a0_1 _ _ l0_2 _ _ l0_3 _ _ _ c1 _ _ ?_ ?_ ?_ ?_ A2.out).mono ?_);exact H2.out _ (HK.out.drewN _);exact C2.out;exact H3.out _ (HK.out.drewN _);exact C3.out;rintro e w' ⟨rfl,hb⟩;replace BL:=Aside0.mk (blk_below (blk_drewN BL.out nq) hb);replace HR:=Aside0.mk (Kd.R_below (Kd.R_drewN HR.out nq) hb);replace HK:=Aside0.mk ((HK.out.drewN nq).below hb);replace HB:=Aside0.mk (below_then (pw_below_drewN HB.out nq) (pw_below_drewN HB.out nq).size hb);clear hb hcl0 hcl1 hcl2 hcl3 hcl4 hcl5 hy0 hy1 hy2 hy3 hy4 he0 he1 he2 he3 he4;obtain ⟨hcl0,hcl1,hcl2,hcl3,hcl4,hcl5,_,_,_,_,_,_⟩:=cells6 BL.out;obtain ⟨⟨hy0,hy1,hy2,hy3,hy4⟩,⟨he0,he1,he2,he3,he4⟩⟩:=lane_step.cells HR.out a1 C0.out C1.out;rw [hrd] at hy0 hy1 hy2 hy3 hy4;simp only [lane_step.upd] at hy0 hy1 hy2 hy3 hy4)|(go_at_call 73;(with_reducible refine (slices_BinarySearch_int_int.calls k _ _ l0_4 b1 s1 _ _ ?_ ?_ A3.out).mono ?_);exact H4.out _ HK.out;exact C4.out;rintro e w' ⟨rfl,⟨nd,rfl⟩⟩)|(go_at_call 45;have hq:=lane_held.calls k a0_0 a0_1 A0_2 c0_2 l0_2 A0_3 c0_3 l0_3 A0_4 c0_4 l0_4 (some ⟨g,0,none⟩) cap _ a1 b1 c1 _ _ (H2.out _ (HK.out.drewN nd)) C2.out (H3.out _ (HK.out.drewN nd)) C3.out (H4.out _ (HK.out.drewN nd)) C4.out (Kd.R_reads' (Kd.R_drewN HR.out nd)).2.2 (by rw [List.length_set];exact (Kd.R_reads' HR.out).2.1) A4.out;rw [List.length_set] at hq;refine hq.mono ?_;clear hq;rintro e w3 ⟨rfl,hb⟩;replace BL:=Aside0.mk (blk_below (blk_drewN BL.out nd) hb);replace HR:=Aside0.mk (Kd.R_below (Kd.R_drewN HR.out nd) hb);replace HK:=Aside0.mk ((HK.out.drewN nd).below hb);replace HB:=Aside0.mk (below_then (pw_below_drewN HB.out nd) (pw_below_drewN HB.out nd).size hb);clear hb hcl0 hcl1 hcl2 hcl3 hcl4 hcl5 hy0 hy1 hy2 hy3 hy4 he0 he1 he2 he3 he4;obtain ⟨hcl0,hcl1,hcl2,hcl3,hcl4,hcl5,_,_,_,_,_,_⟩:=cells6 BL.out;obtain ⟨⟨hy0,hy1,hy2,hy3,hy4⟩,⟨he0,he1,he2,he3,he4⟩⟩:=lane_step.cells HR.out a1 C0.out C1.out;rw [hrd] at hy0 hy1 hy2 hy3 hy4;simp only [lane_step.upd] at hy0 hy1 hy2 hy3 hy4))
  go_ret
  exact ⟨rfl,lane_step.to_ (fun _ h => .inl h) (lane_step.put (lane_step.put HR.out a1 C0.out C1.out 4 (by omega) 191) a1 C0.out C1.out 3 (by omega) 0) (by simp only [List.set_set,hrd,lane_step.upd]),((HB.out.setCell (p:=⟨g,a1.toNat * 5 + 4,none⟩) HG.out _).setCell (p:=⟨g,a1.toNat * 5 + 3,none⟩) HG.out _),((HK.out.setCell (p:=⟨g,a1.toNat * 5 + 4,none⟩) (.inl HP.out) _).setCell (p:=⟨g,a1.toNat * 5 + 3,none⟩) (.inl HP.out) _)⟩
 simp only [if_neg (show ¬ (false = true) by decide)] at h
 by_cases c4 : b1 = a2
 ·rw [if_pos c4] at h
  simp only [Option.some.injEq,Prod.mk.injEq] at h
  obtain ⟨rfl,rfl⟩:=h
  have c4b : (b1 == a2) = true:=beq_iff_eq.2 c4
  clear c4
  go_wp2_with (first|(go_at_call 38;(with_reducible refine (lane_choose.calls k a0_0 a0_1 _ _ l0_2 _ _ l0_3 _ _ _ c1 _ _ ?_ ?_ ?_ ?_ A2.out).mono ?_);exact H2.out _ (HK.out.drewN _);exact C2.out;exact H3.out _ (HK.out.drewN _);exact C3.out;rintro e w' ⟨rfl,hb⟩;replace BL:=Aside0.mk (blk_below (blk_drewN BL.out nq) hb);replace HR:=Aside0.mk (Kd.R_below (Kd.R_drewN HR.out nq) hb);replace HK:=Aside0.mk ((HK.out.drewN nq).below hb);replace HB:=Aside0.mk (below_then (pw_below_drewN HB.out nq) (pw_below_drewN HB.out nq).size hb);clear hb hcl0 hcl1 hcl2 hcl3 hcl4 hcl5 hy0 hy1 hy2 hy3 hy4 he0 he1 he2 he3 he4;obtain ⟨hcl0,hcl1,hcl2,hcl3,hcl4,hcl5,_,_,_,_,_,_⟩:=cells6 BL.out;obtain ⟨⟨hy0,hy1,hy2,hy3,hy4⟩,⟨he0,he1,he2,he3,he4⟩⟩:=lane_step.cells HR.out a1 C0.out C1.out;rw [hrd] at hy0 hy1 hy2 hy3 hy4;simp only [lane_step.upd] at hy0 hy1 hy2 hy3 hy4)|(go_at_call 73;(with_reducible refine (slices_BinarySearch_int_int.calls k _ _ l0_4 b1 s1 _ _ ?_ ?_ A3.out).mono ?_);exact H4.out _ HK.out;exact C4.out;rintro e w' ⟨rfl,⟨nd,rfl⟩⟩)|(go_at_call 45;have hq:=lane_held.calls k a0_0 a0_1 A0_2 c0_2 l0_2 A0_3 c0_3 l0_3 A0_4 c0_4 l0_4 (some ⟨g,0,none⟩) cap _ a1 b1 c1 _ _ (H2.out _ (HK.out.drewN nd)) C2.out (H3.out _ (HK.out.drewN nd)) C3.out (H4.out _ (HK.out.drewN nd)) C4.out (Kd.R_reads' (Kd.R_drewN HR.out nd)).2.2 (by rw [List.length_set];exact (Kd.R_reads' HR.out).2.1) A4.out;rw [List.length_set] at hq;refine hq.mono ?_;clear hq;rintro e w3 ⟨rfl,hb⟩;replace BL:=Aside0.mk (blk_below (blk_drewN BL.out nd) hb);replace HR:=Aside0.mk (Kd.R_below (Kd.R_drewN HR.out nd) hb);replace HK:=Aside0.mk ((HK.out.drewN nd).below hb);replace HB:=Aside0.mk (below_then (pw_below_drewN HB.out nd) (pw_below_drewN HB.out nd).size hb);clear hb hcl0 hcl1 hcl2 hcl3 hcl4 hcl5 hy0 hy1 hy2 hy3 hy4 he0 he1 he2 he3 he4;obtain ⟨hcl0,hcl1,hcl2,hcl3,hcl4,hcl5,_,_,_,_,_,_⟩:=cells6 BL.out;obtain ⟨⟨hy0,hy1,hy2,hy3,hy4⟩,⟨he0,he1,he2,he3,he4⟩⟩:=lane_step.cells HR.out a1 C0.out C1.out;rw [hrd] at hy0 hy1 hy2 hy3 hy4;simp only [lane_step.upd] at hy0 hy1 hy2 hy3 hy4))
  go_ret
  exact ⟨rfl,lane_step.to_ (fun _ h => .inl h) (lane_step.put (lane_step.put (lane_step.put (lane_step.put (lane_step.put HR.out a1 C0.out C1.out 0 (by omega) b1) a1 C0.out C1.out 1 (by omega) (Int.tmod (wrap64 ((rd_T50 l0_5 a1).f2 + 2)) 4)) a1 C0.out C1.out 2 (by omega) c1) a1 C0.out C1.out 4 (by omega) _) a1 C0.out C1.out 4 (by omega) 0) (by simp only [List.set_set,hrd,lane_step.upd]),(((((HB.out.setCell (p:=⟨g,a1.toNat * 5 + 0,none⟩) HG.out _).setCell (p:=⟨g,a1.toNat * 5 + 1,none⟩) HG.out _).setCell (p:=⟨g,a1.toNat * 5 + 2,none⟩) HG.out _).setCell (p:=⟨g,a1.toNat * 5 + 4,none⟩) HG.out _).setCell (p:=⟨g,a1.toNat * 5 + 4,none⟩) HG.out _),(((((HK.out.setCell (p:=⟨g,a1.toNat * 5 + 0,none⟩) (.inl HP.out) _).setCell (p:=⟨g,a1.toNat * 5 + 1,none⟩) (.inl HP.out) _).setCell (p:=⟨g,a1.toNat * 5 + 2,none⟩) (.inl HP.out) _).setCell (p:=⟨g,a1.toNat * 5 + 4,none⟩) (.inl HP.out) _).setCell (p:=⟨g,a1.toNat * 5 + 4,none⟩) (.inl HP.out) _)⟩
 rw [if_neg c4] at h
 simp only [Option.some.injEq,Prod.mk.injEq] at h
 obtain ⟨rfl,rfl⟩:=h
 have c4b : (b1 == a2) = false:=beq_eq_false_iff_ne.2 c4
 clear c4
 go_wp2_with (first|(go_at_call 38;(with_reducible refine (lane_choose.calls k a0_0 a0_1 _ _ l0_2 _ _ l0_3 _ _ _ c1 _ _ ?_ ?_ ?_ ?_ A2.out).mono ?_);exact H2.out _ (HK.out.drewN _);exact C2.out;exact H3.out _ (HK.out.drewN _);exact C3.out;rintro e w' ⟨rfl,hb⟩;replace BL:=Aside0.mk (blk_below (blk_drewN BL.out nq) hb);replace HR:=Aside0.mk (Kd.R_below (Kd.R_drewN HR.out nq) hb);replace HK:=Aside0.mk ((HK.out.drewN nq).below hb);replace HB:=Aside0.mk (below_then (pw_below_drewN HB.out nq) (pw_below_drewN HB.out nq).size hb);clear hb hcl0 hcl1 hcl2 hcl3 hcl4 hcl5 hy0 hy1 hy2 hy3 hy4 he0 he1 he2 he3 he4;obtain ⟨hcl0,hcl1,hcl2,hcl3,hcl4,hcl5,_,_,_,_,_,_⟩:=cells6 BL.out;obtain ⟨⟨hy0,hy1,hy2,hy3,hy4⟩,⟨he0,he1,he2,he3,he4⟩⟩:=lane_step.cells HR.out a1 C0.out C1.out;rw [hrd] at hy0 hy1 hy2 hy3 hy4;simp only [lane_step.upd] at hy0 hy1 hy2 hy3 hy4)|(go_at_call 73;(with_reducible refine (slices_BinarySearch_int_int.calls k _ _ l0_4 b1 s1 _ _ ?_ ?_ A3.out).mono ?_);exact H4.out _ HK.out;exact C4.out;rintro e w' ⟨rfl,⟨nd,rfl⟩⟩)|(go_at_call 45;have hq:=lane_held.calls k a0_0 a0_1 A0_2 c0_2 l0_2 A0_3 c0_3 l0_3 A0_4 c0_4 l0_4 (some ⟨g,0,none⟩) cap _ a1 b1 c1 _ _ (H2.out _ (HK.out.drewN nd)) C2.out (H3.out _ (HK.out.drewN nd)) C3.out (H4.out _ (HK.out.drewN nd)) C4.out (Kd.R_reads' (Kd.R_drewN HR.out nd)).2.2 (by rw [List.length_set];exact (Kd.R_reads' HR.out).2.1) A4.out;rw [List.length_set] at hq;refine hq.mono ?_;clear hq;rintro e w3 ⟨rfl,hb⟩;replace BL:=Aside0.mk (blk_below (blk_drewN BL.out nd) hb);replace HR:=Aside0.mk (Kd.R_below (Kd.R_drewN HR.out nd) hb);replace HK:=Aside0.mk ((HK.out.drewN nd).below hb);replace HB:=Aside0.mk (below_then (pw_below_drewN HB.out nd) (pw_below_drewN HB.out nd).size hb);clear hb hcl0 hcl1 hcl2 hcl3 hcl4 hcl5 hy0 hy1 hy2 hy3 hy4 he0 he1 he2 he3 he4;obtain ⟨hcl0,hcl1,hcl2,hcl3,hcl4,hcl5,_,_,_,_,_,_⟩:=cells6 BL.out;obtain ⟨⟨hy0,hy1,hy2,hy3,hy4⟩,⟨he0,he1,he2,he3,he4⟩⟩:=lane_step.cells HR.out a1 C0.out C1.out;rw [hrd] at hy0 hy1 hy2 hy3 hy4;simp only [lane_step.upd] at hy0 hy1 hy2 hy3 hy4))
 go_ret
 exact ⟨rfl,lane_step.to_ (fun _ h => .inl h) (lane_step.put (lane_step.put (lane_step.put (lane_step.put HR.out a1 C0.out C1.out 0 (by omega) b1) a1 C0.out C1.out 1 (by omega) (Int.tmod (wrap64 ((rd_T50 l0_5 a1).f2 + 2)) 4)) a1 C0.out C1.out 2 (by omega) c1) a1 C0.out C1.out 4 (by omega) _) (by simp only [List.set_set,hrd,lane_step.upd]),((((HB.out.setCell (p:=⟨g,a1.toNat * 5 + 0,none⟩) HG.out _).setCell (p:=⟨g,a1.toNat * 5 + 1,none⟩) HG.out _).setCell (p:=⟨g,a1.toNat * 5 + 2,none⟩) HG.out _).setCell (p:=⟨g,a1.toNat * 5 + 4,none⟩) HG.out _),((((HK.out.setCell (p:=⟨g,a1.toNat * 5 + 0,none⟩) (.inl HP.out) _).setCell (p:=⟨g,a1.toNat * 5 + 1,none⟩) (.inl HP.out) _).setCell (p:=⟨g,a1.toNat * 5 + 2,none⟩) (.inl HP.out) _).setCell (p:=⟨g,a1.toNat * 5 + 4,none⟩) (.inl HP.out) _)⟩


end Go.Proofs.Ythjmdpekcleihaa.P
