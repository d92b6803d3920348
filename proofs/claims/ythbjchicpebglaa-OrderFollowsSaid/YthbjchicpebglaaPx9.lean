/- Functions of this seat as plain Lean functions, with proofs that the Go code comes to just their answers, or what stands between them and a law's statement; no conditions. (Laid by a program of this session, out of the kit's print.) -/
import Derived.Test.YthbjchicpebglaaPx0
import Derived.Test.YthbjchicpebglaaPx2
import Derived.Test.YthbjchicpebglaaPx7
import Derived.Test.YthbjchicpebglaaPx8
namespace Go.Proofs.Ythbjchicpebglaa.P
open Go.RowKit Go.Proofs.YthbjchicpebglaaW.PrintWords Go.Proofs.YthbjchicpebglaaW.PrintLast Go.Proofs.YthbjchicpebglaaW.PrintMore
attribute [local go_sem] max2_int min2_int max_two min_two max_three min_three max_four min_four   -- for this text's walks alone
set_option linter.unusedVariables false
set_option linter.unusedSimpArgs false

/-! ### order_Insert: function 36 -/
def order_Insert.l0 : Nat → Int → List (S33) → Int → Int → Int → Int → Int → Int → Int → Int → Int → Int → Int → Option ((List (S33)) × Int)
 | 0,_,_,_,_,_,_,_,_,_,_,_,_,_ => none
 | k + 1,x1,x9,x30,x31,x168000,x168001,x168002,x168003,x168004,x168005,x168006,x168007,x168008 => if x31 < x30 then (if 0 ≤ x31 then (if x31 < (x9.length : Int) then (if ((rd_T33 x9 x31).f0) = 2 then (if ((rd_T33 x9 x31).f6) ≥ x1 then (order_Insert.l0 k x1 (x9.set (x31 : Int).toNat (⟨(rd_T33 x9 x31).f0,(rd_T33 x9 x31).f1,(rd_T33 x9 x31).f2,(rd_T33 x9 x31).f3,(rd_T33 x9 x31).f4,(rd_T33 x9 x31).f5,wrap64 (((rd_T33 x9 x31).f6) + 1),(rd_T33 x9 x31).f7,(rd_T33 x9 x31).f8⟩ : S33)) x30 (wrap64 (x31 + 1)) x168000 x168001 x168002 x168003 x168004 x168005 x168006 x168007 x168008) else (order_Insert.l0 k x1 x9 x30 (wrap64 (x31 + 1)) x168000 x168001 x168002 x168003 x168004 x168005 x168006 x168007 x168008)) else (order_Insert.l0 k x1 x9 x30 (wrap64 (x31 + 1)) x168000 x168001 x168002 x168003 x168004 x168005 x168006 x168007 x168008)) else (none)) else (none)) else ((api_Order_49.f x9 x1 (([(⟨x168000,x168001,x168002,x168003,x168004,x168005,x168006,x168007,x168008⟩ : S33)] : List (S33)))).bind fun t180 => ((order_Validate.f k t180).bind fun t183 => (if t183 = 0 then (some (t180,0)) else (some (([] : List (S33)),t183)))))
def order_Insert.f (k : Nat) (l0 : List (S33)) (a1 : Int) (a2_0 : Int) (a2_1 : Int) (a2_2 : Int) (a2_3 : Int) (a2_4 : Int) (a2_5 : Int) (a2_6 : Int) (a2_7 : Int) (a2_8 : Int) : Option ((List (S33)) × Int) := (order_Validate.f k l0).bind fun t168 => (if t168 = 0 then ((order_within.f a1 (l0.length : Int)).bind fun t169 => (if t169 = true then (if (l0.length : Int) ≥ 40 then (some (([] : List (S33)), 4)) else ((order_copied.f l0).bind fun t170 => (order_Insert.l0 k a1 t170 (t170.length : Int) 0 a2_0 a2_1 a2_2 a2_3 a2_4 a2_5 a2_6 a2_7 a2_8))) else (some (([] : List (S33)), 2)))) else (some (([] : List (S33)), t168)))
theorem order_Insert.mono_l : ∀ k, (∀ y0 y1 y2 y3 y4 y5 y6 y7 y8 y9 y10 y11 y12, LeO (order_Insert.l0 k y0 y1 y2 y3 y4 y5 y6 y7 y8 y9 y10 y11 y12) (order_Insert.l0 (k + 1) y0 y1 y2 y3 y4 y5 y6 y7 y8 y9 y10 y11 y12))
 | 0 => fun _ _ _ _ _ _ _ _ _ _ _ _ _ r h => by simp [order_Insert.l0] at h
 | k + 1 => by
  have ih0:=order_Insert.mono_l k
  ·intro y0 y1 y2 y3 y4 y5 y6 y7 y8 y9 y10 y11 y12
   unfold order_Insert.l0
   repeat' first
   | (with_reducible exact ih0 _ _ _ _ _ _ _ _ _ _ _ _ _)
   | (with_reducible exact order_Validate.mono _ _)
   | (with_reducible exact LeO.refl _)
   | (with_reducible exact LeO.none _)
   | (with_reducible refine LeO.ite ?_ ?_)
   | (with_reducible refine LeO.bind ?_ (fun _ => ?_))
   | exact ih0 _ _ _ _ _ _ _ _ _ _ _ _ _
   | exact order_Validate.mono _ _
   | exact LeO.none _
   | refine LeO.ite ?_ ?_
   | refine LeO.bind ?_ (fun _ => ?_)
theorem order_Insert.mono : ∀ a0 a1 a2 a3 a4 a5 a6 a7 a8 a9 a10 k, LeO (order_Insert.f k a0 a1 a2 a3 a4 a5 a6 a7 a8 a9 a10) (order_Insert.f (k + 1) a0 a1 a2 a3 a4 a5 a6 a7 a8 a9 a10) := by
 intro a0 a1 a2 a3 a4 a5 a6 a7 a8 a9 a10 k
 have ih0:=order_Insert.mono_l k
 unfold order_Insert.f
 repeat' first
   | (with_reducible exact ih0 _ _ _ _ _ _ _ _ _ _ _ _ _)
   | (with_reducible exact order_Validate.mono _ _)
   | (with_reducible exact LeO.refl _)
   | (with_reducible exact LeO.none _)
   | (with_reducible refine LeO.ite ?_ ?_)
   | (with_reducible refine LeO.bind ?_ (fun _ => ?_))
   | exact ih0 _ _ _ _ _ _ _ _ _ _ _ _ _
   | exact order_Validate.mono _ _
   | exact LeO.none _
   | refine LeO.ite ?_ ?_
   | refine LeO.bind ?_ (fun _ => ?_)
set_option maxHeartbeats 8000000 in
set_option maxRecDepth 100000 in
theorem order_Insert.calls (k : Nat) (A0 : Option Addr) (c0 : Nat) (l0 : List (S33)) (a1 : Int) (a2_0 : Int) (a2_1 : Int) (a2_2 : Int) (a2_3 : Int) (a2_4 : Int) (a2_5 : Int) (a2_6 : Int) (a2_7 : Int) (a2_8 : Int) (r1 : List (S33)) (r2 : Int) (w : World) (hr0 : Kd.C k33 w A0 l0.length l0) (hc0 : l0.length ≤ c0) (h : order_Insert.f k l0 a1 a2_0 a2_1 a2_2 a2_3 a2_4 a2_5 a2_6 a2_7 a2_8 = some (r1, r2)) :
  Calls Try.prog 36 #[.slice A0 l0.length c0,.int .i64 a1,.agg #[.int .i64 a2_0,.int .i64 a2_1,.int .i64 a2_2,.int .i64 a2_3,.int .i64 a2_4,.int .i64 a2_5,.int .i64 a2_6,.int .i64 a2_7,.int .i64 a2_8]] w fun e w' => ∃ v0_ : Value,e = .returned (.tuple #[v0_,.int .i64 r2]) ∧ Kd.R k33 33 w' w.heap.size (fun _ => True) v0_ r1 ∧ Below w.heap.size w w':=by
 have hu33:=Try.underlying33
 have HR0:=Aside0.mk hr0
 have HC0:=Aside0.mk hc0
 clear hr0 hc0
 have HB:=Aside0.mk (Below.refl w.heap.size w)
 have H : ((order_Validate.f k l0).bind fun t168 => (if t168 = 0 then ((order_within.f a1 (l0.length : Int)).bind fun t169 => (if t169 = true then (if (l0.length : Int) ≥ 40 then (some (([] : List (S33)),4)) else ((order_copied.f l0).bind fun t170 => (order_Insert.l0 k a1 t170 (t170.length : Int) 0 a2_0 a2_1 a2_2 a2_3 a2_4 a2_5 a2_6 a2_7 a2_8))) else (some (([] : List (S33)),2)))) else (some (([] : List (S33)),t168)))) = some (r1,r2):=h
 clear h
 replace H:=Option.bind_eq_some_iff.mp H
 obtain ⟨t168,A40,H⟩:=H
 replace H : (if t168 = 0 then ((order_within.f a1 (l0.length : Int)).bind fun t169 => (if t169 = true then (if (l0.length : Int) ≥ 40 then (some (([] : List (S33)),4)) else ((order_copied.f l0).bind fun t170 => (order_Insert.l0 k a1 t170 (t170.length : Int) 0 a2_0 a2_1 a2_2 a2_3 a2_4 a2_5 a2_6 a2_7 a2_8))) else (some (([] : List (S33)),2)))) else (some (([] : List (S33)),t168))) = some (r1,r2):=H
 have A4:=Aside0.mk A40
 clear A40
 by_cases c5 : t168 = 0
 rotate_left
 ·rw [if_neg c5] at H
  have c5b0 : (t168 == 0) = false:=beq_eq_false_iff_ne.mpr c5
  have c5b1 : (t168 != 0) = true:=bne_iff_ne.mpr c5
  simp only [Option.some.injEq,Prod.mk.injEq] at H
  obtain ⟨rfl,rfl⟩:=H
  go_enter Try.func36,Try.ntmps36
  go_wp2_with (first|((with_reducible refine gate_dst (N:=5) rfl ?_);refine box_ev (N:=5) (cs:=#[.int .i64 a2_0,.int .i64 a2_1,.int .i64 a2_2,.int .i64 a2_3,.int .i64 a2_4,.int .i64 a2_5,.int .i64 a2_6,.int .i64 a2_7,.int .i64 a2_8]) (t:=33) ?_;intro gb167 hg w43 hbox hb;have BK167:=Aside0.mk (hbox);have GW167 : Aside0 (w.heap.size ≤ gb167):=gsz hg;have GE167:=GW167;replace HB:=Aside0.mk (below_step (hb_) hb);clear hb hbox hg)|((with_reducible refine gate_callee (f:=18) rfl ?_);refine goesL_ (some 13) rfl rfl Try.func18 (by kernel_rfl) rfl #[.slice A0 l0.length c0] rfl (by (try simp only [List.map_toArray,List.map_cons,List.map_nil]);first|done|rfl|(simp only [List.length_drop,List.length_take];rfl)) ?_;(with_reducible refine (order_Validate.calls k _ _ l0 t168 _ ?side1 ?side2 A4.out).mono ?_);(case side1 => exact Kd.C_up (Kd.C_below HR0.out HB.out));(case side2 => exact HC0.out);rintro e w44 ⟨rfl,hb⟩;refine ⟨_,rfl,?_⟩;replace BK167:=bkb BK167 hb;replace HB:=Aside0.mk (below_step (hb_) hb)))
  go_ret2
  exact ⟨_,by first|rfl|(simp [errW_none,errW_some] <;> rfl)|(simp [*,errW_none,errW_some] <;> rfl),by first|exact Kd.R_nil _ _ _ _ _|exact Kd.N_nil _ _ _ _ _|exact Kd.V_nil _ _ _ _ _|exact Kd.Q_nil _ _ _ _ _|exact Kd.S_nil _ _ _ _ _,hb_⟩
 rw [if_pos c5] at H
 have c5b0 : (t168 == 0) = true:=beq_iff_eq.mpr c5
 have c5b1 : (t168 != 0) = false:=bne_eq_false_iff_eq.mpr c5
 clear c5
 replace H:=Option.bind_eq_some_iff.mp H
 obtain ⟨t169,A60,H⟩:=H
 replace H : (if t169 = true then (if (l0.length : Int) ≥ 40 then (some (([] : List (S33)),4)) else ((order_copied.f l0).bind fun t170 => (order_Insert.l0 k a1 t170 (t170.length : Int) 0 a2_0 a2_1 a2_2 a2_3 a2_4 a2_5 a2_6 a2_7 a2_8))) else (some (([] : List (S33)),2))) = some (r1,r2):=H
 have A6:=Aside0.mk A60
 clear A60
 by_cases c7 : t169 = true
 ·subst c7
  have H1 : (if (l0.length : Int) ≥ 40 then (some (([] : List (S33)),4)) else ((order_copied.f l0).bind fun t170 => (order_Insert.l0 k a1 t170 (t170.length : Int) 0 a2_0 a2_1 a2_2 a2_3 a2_4 a2_5 a2_6 a2_7 a2_8))) = some (r1,r2):=by rw [if_pos rfl] at H;exact H
  clear H
  have H:=H1
  clear H1
  by_cases c8 : (l0.length : Int) ≥ 40
  ·rw [if_pos c8] at H
   have c8b0 : decide (40 ≤ (l0.length : Int)) = true:=decide_eq_true c8
   have c8b1 : decide (40 ≤ l0.length) = true:=decide_eq_true (by omega)
   clear c8
   simp only [Option.some.injEq,Prod.mk.injEq] at H
   obtain ⟨rfl,rfl⟩:=H
   go_enter Try.func36,Try.ntmps36
   go_wp2_with (first|((with_reducible refine gate_dst (N:=5) rfl ?_);refine box_ev (N:=5) (cs:=#[.int .i64 a2_0,.int .i64 a2_1,.int .i64 a2_2,.int .i64 a2_3,.int .i64 a2_4,.int .i64 a2_5,.int .i64 a2_6,.int .i64 a2_7,.int .i64 a2_8]) (t:=33) ?_;intro gb167 hg w9 hbox hb;have BK167:=Aside0.mk (hbox);have GW167 : Aside0 (w.heap.size ≤ gb167):=gsz hg;have GE167:=GW167;replace HB:=Aside0.mk (below_step (hb_) hb);clear hb hbox hg)|((with_reducible refine gate_callee (f:=18) rfl ?_);refine goesL_ (some 13) rfl rfl Try.func18 (by kernel_rfl) rfl #[.slice A0 l0.length c0] rfl (by (try simp only [List.map_toArray,List.map_cons,List.map_nil]);first|done|rfl|(simp only [List.length_drop,List.length_take];rfl)) ?_;(with_reducible refine (order_Validate.calls k _ _ l0 t168 _ ?side1 ?side2 A4.out).mono ?_);(case side1 => exact Kd.C_up (Kd.C_below HR0.out HB.out));(case side2 => exact HC0.out);rintro e w10 ⟨rfl,hb⟩;refine ⟨_,rfl,?_⟩;replace BK167:=bkb BK167 hb;replace HB:=Aside0.mk (below_step (hb_) hb))|((with_reducible refine gate_callee (f:=39) rfl ?_);refine goesL_ (some 21) rfl rfl Try.func39 (by kernel_rfl) rfl #[.int .i64 a1,.int .i64 (l0.length : Int)] rfl (by (try simp only [List.map_toArray,List.map_cons,List.map_nil]);first|done|rfl|(simp only [List.length_drop,List.length_take];rfl)) ?_;(with_reducible refine (order_within.calls a1 (l0.length : Int) true _ A6.out).mono ?_);rintro e w' ⟨rfl,⟨nd,rfl⟩⟩;refine ⟨_,rfl,?_⟩))
   go_ret2
   exact ⟨_,by first|rfl|(simp [errW_none,errW_some] <;> rfl)|(simp [*,errW_none,errW_some] <;> rfl),by first|exact Kd.R_nil _ _ _ _ _|exact Kd.N_nil _ _ _ _ _|exact Kd.V_nil _ _ _ _ _|exact Kd.Q_nil _ _ _ _ _|exact Kd.S_nil _ _ _ _ _,hb_⟩
  rw [if_neg c8] at H
  have c8b0 : decide (40 ≤ (l0.length : Int)) = false:=decide_eq_false c8
  have c8b1 : decide (40 ≤ l0.length) = false:=decide_eq_false (by omega)
  clear c8
  replace H:=Option.bind_eq_some_iff.mp H
  obtain ⟨t170,A110,H⟩:=H
  replace H : (order_Insert.l0 k a1 t170 (t170.length : Int) 0 a2_0 a2_1 a2_2 a2_3 a2_4 a2_5 a2_6 a2_7 a2_8) = some (r1,r2):=H
  have A11:=Aside0.mk A110
  clear A110
  have H':=Aside0.mk H
  clear H
  go_enter Try.func36,Try.ntmps36
  go_wp2_with (first|((with_reducible refine gate_dst (N:=5) rfl ?_);refine box_ev (N:=5) (cs:=#[.int .i64 a2_0,.int .i64 a2_1,.int .i64 a2_2,.int .i64 a2_3,.int .i64 a2_4,.int .i64 a2_5,.int .i64 a2_6,.int .i64 a2_7,.int .i64 a2_8]) (t:=33) ?_;intro gb167 hg w12 hbox hb;have BK167:=Aside0.mk (hbox);have GW167 : Aside0 (w.heap.size ≤ gb167):=gsz hg;have GE167:=GW167;replace HB:=Aside0.mk (below_step (hb_) hb);clear hb hbox hg)|((with_reducible refine gate_callee (f:=18) rfl ?_);refine goesL_ (some 13) rfl rfl Try.func18 (by kernel_rfl) rfl #[.slice A0 l0.length c0] rfl (by (try simp only [List.map_toArray,List.map_cons,List.map_nil]);first|done|rfl|(simp only [List.length_drop,List.length_take];rfl)) ?_;(with_reducible refine (order_Validate.calls k _ _ l0 t168 _ ?side1 ?side2 A4.out).mono ?_);(case side1 => exact Kd.C_up (Kd.C_below HR0.out HB.out));(case side2 => exact HC0.out);rintro e w13 ⟨rfl,hb⟩;refine ⟨_,rfl,?_⟩;replace BK167:=bkb BK167 hb;replace HB:=Aside0.mk (below_step (hb_) hb))|((with_reducible refine gate_callee (f:=39) rfl ?_);refine goesL_ (some 21) rfl rfl Try.func39 (by kernel_rfl) rfl #[.int .i64 a1,.int .i64 (l0.length : Int)] rfl (by (try simp only [List.map_toArray,List.map_cons,List.map_nil]);first|done|rfl|(simp only [List.length_drop,List.length_take];rfl)) ?_;(with_reducible refine (order_within.calls a1 (l0.length : Int) true _ A6.out).mono ?_);rintro e w' ⟨rfl,⟨nd,rfl⟩⟩;refine ⟨_,rfl,?_⟩)|((with_reducible refine gate_callee (f:=48) rfl ?_);refine goesL_ (some 28) rfl rfl Try.func48 (by kernel_rfl) rfl #[.slice A0 l0.length c0] rfl (by (try simp only [List.map_toArray,List.map_cons,List.map_nil]);first|done|rfl|(simp only [List.length_drop,List.length_take];rfl)) ?_;(with_reducible refine (order_copied.calls2 _ _ l0 t170 _ ?side1 ?side2 A11.out).mono ?_);(case side1 => repeat (first|exact (Kd.C_below HR0.out (hb_))|(with_reducible refine Kd.C_alloc ?_ _)|(with_reducible refine Kd.C_drewN ?_ _)|(with_reducible refine Kd.C_drew ?_)));(case side2 => exact HC0.out);rintro e w14 ⟨v171,rfl,ho0,hb,hcap_⟩;have HCAP_:=Aside0.mk hcap_;clear hcap_;refine ⟨_,rfl,?_⟩;have HO172:=Aside0.mk (Kd.R_lower (Kd.R_newB ho0 (blk_up BK167.out)) (below_size (hb_)));replace BK167:=bkb BK167 hb;replace HB:=Aside0.mk (below_step (hb_) hb);obtain ⟨Ao15,co15,eo15⟩:=Kd.R_slice HO172.out;subst eo15))
  go_loopg [31] k (fun kq v31 w' => ∃ (x9_1 : List (S33)) (x31_1 : Int) (x168006_1 : Int),v31 = .int .i64 x31_1 ∧ Aside0 (order_Insert.l0 kq a1 x9_1 (t170.length : Int) x31_1 a2_0 a2_1 a2_2 a2_3 a2_4 a2_5 x168006_1 a2_7 a2_8 = some (r1,r2)) ∧ Aside0 (kq ≤ k) ∧ Aside0 (Kd.R k33 33 w' w.heap.size (fun k_ => k_ ≠ gb167) (.slice Ao15 t170.length co15) x9_1) ∧ Aside0 (w'.heap[gb167]? = some (.cells #[.int .i64 a2_0,.int .i64 a2_1,.int .i64 a2_2,.int .i64 a2_3,.int .i64 a2_4,.int .i64 a2_5,.int .i64 x168006_1,.int .i64 a2_7,.int .i64 a2_8] 33 (0,0))) ∧ Aside0 (Below w.heap.size w w'))
  case atStart => exact ⟨(t170),(0),(a2_6),(by first|rfl|(simp;done)|(simp [*];done)),H',⟨Nat.le_refl _⟩,⟨by (with_reducible repeat (first|apply Kd.R_alloc|apply Kd.R_drewN|apply Kd.R_drew));exact Kd.R_mono HO172.out (fun _ hk => hk.2)⟩,⟨blk_up BK167.out⟩,⟨hb_⟩⟩
  case round =>
   clear H'
   obtain ⟨x9_1,x31_1,x168006_1,rfl,HA,HK1,HO_9,BK167,HB⟩:=hrel
   have hl9_1:=(Kd.R_reads' HO_9.out).1
   rw [hl9_1] at HO_9
   (try simp only [hl9_1])
   (try simp only [hl9_1] at BK167)
   cases gk with
   | zero => exact absurd HA.out (by simp [order_Insert.l0])
   | succ k1 =>
    have H:=HA.out
    clear HA
    simp only [order_Insert.l0] at H
    by_cases c16 : x31_1 < (t170.length : Int)
    rotate_left
    ·rw [if_neg c16] at H
     have c16b0 : decide (x31_1 < (t170.length : Int)) = false:=decide_eq_false c16
     (try simp only [hl9_1] at c16b0)
     clear c16
     obtain ⟨y177,hy177⟩ : ∃ y_ : List (S33),y_ = (([(⟨a2_0,a2_1,a2_2,a2_3,a2_4,a2_5,x168006_1,a2_7,a2_8⟩ : S33)] : List (S33))):=⟨_,rfl⟩
     replace H : ((api_Order_49.f x9_1 a1 y177).bind fun t180 => ((order_Validate.f k1 t180).bind fun t183 => (if t183 = 0 then (some (t180,0)) else (some (([] : List (S33)),t183))))) = some (r1,r2):=by first|(rw [hy177];with_reducible exact H)|(have H2_:=(Option.bind_some _ _).symm.trans H;rw [hy177];with_reducible exact H2_)|(have H2_:=(Option.bind_some _ _).symm.trans H;with_reducible exact H2_)|with_reducible exact H|(rw [hy177];exact H)|exact H
     have Ny177:=Aside0.mk hy177
     clear hy177
     replace H:=Option.bind_eq_some_iff.mp H
     obtain ⟨t180,A240,H⟩:=H
     replace H : ((order_Validate.f k1 t180).bind fun t183 => (if t183 = 0 then (some (t180,0)) else (some (([] : List (S33)),t183)))) = some (r1,r2):=H
     have A24:=Aside0.mk A240
     clear A240
     replace H:=Option.bind_eq_some_iff.mp H
     obtain ⟨t183,A250,H⟩:=H
     replace H : (if t183 = 0 then (some (t180,0)) else (some (([] : List (S33)),t183))) = some (r1,r2):=H
     have A25:=Aside0.mk A250
     clear A250
     by_cases c26 : t183 = 0
     ·rw [if_pos c26] at H
      have c26b0 : (t183 == 0) = true:=beq_iff_eq.mpr c26
      have c26b1 : (t183 != 0) = false:=bne_eq_false_iff_eq.mpr c26
      clear c26
      simp only [Option.some.injEq,Prod.mk.injEq] at H
      obtain ⟨rfl,rfl⟩:=H
      obtain ⟨hcz27_0,hcz27_1,hcz27_2,hcz27_3,hcz27_4,hcz27_5,hcz27_6,hcz27_7,hcz27_8,hfz27_0,hfz27_1,hfz27_2,hfz27_3,hfz27_4,hfz27_5,hfz27_6,hfz27_7,hfz27_8⟩:=cells9 BK167.out
      go_wp2_with (first|((with_reducible refine gate_dst (N:=61) rfl ?_);refine Kd.R_lit k33 _ 33 ?hg (N:=61) ?hd (xs:=([(⟨a2_0,a2_1,a2_2,a2_3,a2_4,a2_5,x168006_1,a2_7,a2_8⟩ : S33)] : List (S33))) (inner:=[.int .i64 a2_0,.int .i64 a2_1,.int .i64 a2_2,.int .i64 a2_3,.int .i64 a2_4,.int .i64 a2_5,.int .i64 x168006_1,.int .i64 a2_7,.int .i64 a2_8]) (ok:=fun _ => True) (okp:=fun _ => True) ?hr ?hp (fun _ hk => hk) trivial (Below.refl _ _) (Nat.le_refl _) (by simp) ?_;(case hd => rfl);(case hg => rfl);(case hr => first|(go_simp;done)|(go_simp;rfl));(case hp => exact (Reps.c9 (show Kd.M k33 _ _ _ (⟨a2_0,a2_1,a2_2,a2_3,a2_4,a2_5,x168006_1,a2_7,a2_8⟩ : S33) [.int .i64 a2_0,.int .i64 a2_1,.int .i64 a2_2,.int .i64 a2_3,.int .i64 a2_4,.int .i64 a2_5,.int .i64 x168006_1,.int .i64 a2_7,.int .i64 a2_8] from (k33_mkM _ _ _ (⟨a2_0,a2_1,a2_2,a2_3,a2_4,a2_5,x168006_1,a2_7,a2_8⟩ : S33) )) (Reps.none _ _)));intro v178 w28 ho29 hb hg_ hnew_;clear hg_ hnew_;(first|rw [← Ny177.out] at ho29|(simp only [Int.reduceToNat] at ho29;rw [← Ny177.out] at ho29));have HO179:=Aside0.mk (Kd.R_lower (Kd.R_newB (Kd.R_new' ho29 (Kd.R_lt (Kd.R_up HO_9.out))) (blk_up BK167.out)) (below_size (hb_)));replace HO_9:=Aside0.mk (Kd.R_elder' (Kd.R_up HO_9.out) (Kd.R_base ho29) hb);replace BK167:=bkb BK167 hb;replace HB:=Aside0.mk (below_step (hb_) hb);clear hb ho29;obtain ⟨Ao30,co30,eo30⟩:=Kd.R_slice HO179.out;subst eo30)|((with_reducible refine gate_callee (f:=49) rfl ?_);refine goesL_ (some 62) rfl rfl Try.func49 (by kernel_rfl) rfl #[.slice Ao15 x9_1.length co15,.int .i64 a1,.slice Ao30 y177.length co30] rfl (by (try simp only [List.map_toArray,List.map_cons,List.map_nil]);first|done|rfl|(simp only [List.length_drop,List.length_take];rfl)) ?_;(with_reducible refine (api_Order_49.calls (fun k_ => some k_ = (.slice Ao15 x9_1.length co15 : Value).ownBlock) (.slice Ao15 x9_1.length co15) x9_1 a1 _ _ y177 t180 w _ ?side1 ?side2 ?side3 ?side4 A24.out).mono ?_);(case side1 => repeat (first|(with_reducible first|exact HB.out|apply below_alloc|apply pw_below_drewN|apply below_drew1|refine below_set ?_ GE167.out)|exact HB.out));(case side2 => exact Kd.R_tight rfl HO_9.out);(case side3 => exact api_Order_49.arg (HO179.out) (by intro A_ n_ c_ he_;injection he_ with _ h2_ h3_;have h4_:=HCAP_.out _ _ _ rfl;omega));(case side4 => exact (Kd.R_reads' HO179.out).2.1);rintro e w31 ⟨v181,rfl,ho0,hb,hkp⟩;refine ⟨_,rfl,?_⟩;have HO182:=Aside0.mk (Kd.R_mono (ok':=fun k_ => some k_ ≠ (.slice Ao30 y177.length co30 : Value).ownBlock ∧ k_ ≠ gb167) ho0 (fun k_ hk_ => ⟨Or.elim hk_ (fun hs_ => fun e_ => (((HO179.out).1 k_ e_.symm).1.2) hs_) (fun hn_ => (Kd.fresh' (Kd.R_lt (Kd.R_up HO179.out)) k_ hn_)),Or.elim hk_ (fun hs_ => fun e_ => (Kd.R_away HO_9.out (fun _ hk => hk.1)) (by rw [← e_];exact hs_)) (fun hn_ => (Kd.freshB (blk_up BK167.out) k_ hn_))⟩));replace BK167:=Aside0.mk (blk_kept (blk_up BK167.out) hkp (fun hs_ => (fun e_ => (Kd.R_away HO_9.out (fun _ hk => hk.1)) e_) hs_));replace HO179:=Aside0.mk (Kd.R_mono (ok':=fun k_ => k_ ≠ gb167 ∧ some k_ ≠ (v181 : Value).ownBlock) (Kd.R_keptB (HO179.out) hkp (fun k_ hk_ hs_ => (hk_.1.2) hs_)) (fun k_ hk_ => ⟨hk_.1.2,fun e_ => Or.elim (ho0.1 k_ e_.symm) (fun hs_ => hk_.2.1 hs_) (fun hn_ => Nat.not_le.2 hk_.2.2 hn_)⟩));replace HB:=Aside0.mk (hb);clear HO_9;obtain ⟨Ao32,co32,eo32⟩:=Kd.R_slice HO182.out;subst eo32)|((with_reducible refine gate_callee (f:=18) rfl ?_);refine goesL_ (some 64) rfl rfl Try.func18 (by kernel_rfl) rfl #[.slice Ao32 t180.length co32] rfl (by (try simp only [List.map_toArray,List.map_cons,List.map_nil]);first|done|rfl|(simp only [List.length_drop,List.length_take];rfl)) ?_;(with_reducible refine (order_Validate.calls k1 _ _ t180 t183 _ ?side1 ?side2 A25.out).mono ?_);(case side1 => exact Kd.C_up (Kd.R_reads' HO182.out).2.2);(case side2 => exact (Kd.R_reads' HO182.out).2.1);rintro e w33 ⟨rfl,hb⟩;refine ⟨_,rfl,?_⟩;replace HO179:=rbw HO179 hb;replace HO182:=rbw HO182 hb;replace BK167:=bkb BK167 hb;replace HB:=Aside0.mk (below_step (hb_) hb)))
      go_ret2
      exact ⟨_,by first|rfl|(simp [errW_none,errW_some] <;> rfl)|(simp [*,errW_none,errW_some] <;> rfl),by (with_reducible repeat (first|apply Kd.R_alloc|apply Kd.R_drewN|apply Kd.R_drew));exact Kd.R_mono HO182.out (fun _ hk => trivial),hb_⟩
     ·rw [if_neg c26] at H
      have c26b0 : (t183 == 0) = false:=beq_eq_false_iff_ne.mpr c26
      have c26b1 : (t183 != 0) = true:=bne_iff_ne.mpr c26
      simp only [Option.some.injEq,Prod.mk.injEq] at H
      obtain ⟨rfl,rfl⟩:=H
      obtain ⟨hcz34_0,hcz34_1,hcz34_2,hcz34_3,hcz34_4,hcz34_5,hcz34_6,hcz34_7,hcz34_8,hfz34_0,hfz34_1,hfz34_2,hfz34_3,hfz34_4,hfz34_5,hfz34_6,hfz34_7,hfz34_8⟩:=cells9 BK167.out
      go_wp2_with (first|((with_reducible refine gate_dst (N:=61) rfl ?_);refine Kd.R_lit k33 _ 33 ?hg (N:=61) ?hd (xs:=([(⟨a2_0,a2_1,a2_2,a2_3,a2_4,a2_5,x168006_1,a2_7,a2_8⟩ : S33)] : List (S33))) (inner:=[.int .i64 a2_0,.int .i64 a2_1,.int .i64 a2_2,.int .i64 a2_3,.int .i64 a2_4,.int .i64 a2_5,.int .i64 x168006_1,.int .i64 a2_7,.int .i64 a2_8]) (ok:=fun _ => True) (okp:=fun _ => True) ?hr ?hp (fun _ hk => hk) trivial (Below.refl _ _) (Nat.le_refl _) (by simp) ?_;(case hd => rfl);(case hg => rfl);(case hr => first|(go_simp;done)|(go_simp;rfl));(case hp => exact (Reps.c9 (show Kd.M k33 _ _ _ (⟨a2_0,a2_1,a2_2,a2_3,a2_4,a2_5,x168006_1,a2_7,a2_8⟩ : S33) [.int .i64 a2_0,.int .i64 a2_1,.int .i64 a2_2,.int .i64 a2_3,.int .i64 a2_4,.int .i64 a2_5,.int .i64 x168006_1,.int .i64 a2_7,.int .i64 a2_8] from (k33_mkM _ _ _ (⟨a2_0,a2_1,a2_2,a2_3,a2_4,a2_5,x168006_1,a2_7,a2_8⟩ : S33) )) (Reps.none _ _)));intro v178 w35 ho36 hb hg_ hnew_;clear hg_ hnew_;(first|rw [← Ny177.out] at ho36|(simp only [Int.reduceToNat] at ho36;rw [← Ny177.out] at ho36));have HO179:=Aside0.mk (Kd.R_lower (Kd.R_newB (Kd.R_new' ho36 (Kd.R_lt (Kd.R_up HO_9.out))) (blk_up BK167.out)) (below_size (hb_)));replace HO_9:=Aside0.mk (Kd.R_elder' (Kd.R_up HO_9.out) (Kd.R_base ho36) hb);replace BK167:=bkb BK167 hb;replace HB:=Aside0.mk (below_step (hb_) hb);clear hb ho36;obtain ⟨Ao37,co37,eo37⟩:=Kd.R_slice HO179.out;subst eo37)|((with_reducible refine gate_callee (f:=49) rfl ?_);refine goesL_ (some 62) rfl rfl Try.func49 (by kernel_rfl) rfl #[.slice Ao15 x9_1.length co15,.int .i64 a1,.slice Ao37 y177.length co37] rfl (by (try simp only [List.map_toArray,List.map_cons,List.map_nil]);first|done|rfl|(simp only [List.length_drop,List.length_take];rfl)) ?_;(with_reducible refine (api_Order_49.calls (fun k_ => some k_ = (.slice Ao15 x9_1.length co15 : Value).ownBlock) (.slice Ao15 x9_1.length co15) x9_1 a1 _ _ y177 t180 w _ ?side1 ?side2 ?side3 ?side4 A24.out).mono ?_);(case side1 => repeat (first|(with_reducible first|exact HB.out|apply below_alloc|apply pw_below_drewN|apply below_drew1|refine below_set ?_ GE167.out)|exact HB.out));(case side2 => exact Kd.R_tight rfl HO_9.out);(case side3 => exact api_Order_49.arg (HO179.out) (by intro A_ n_ c_ he_;injection he_ with _ h2_ h3_;have h4_:=HCAP_.out _ _ _ rfl;omega));(case side4 => exact (Kd.R_reads' HO179.out).2.1);rintro e w38 ⟨v181,rfl,ho0,hb,hkp⟩;refine ⟨_,rfl,?_⟩;have HO182:=Aside0.mk (Kd.R_mono (ok':=fun k_ => some k_ ≠ (.slice Ao37 y177.length co37 : Value).ownBlock ∧ k_ ≠ gb167) ho0 (fun k_ hk_ => ⟨Or.elim hk_ (fun hs_ => fun e_ => (((HO179.out).1 k_ e_.symm).1.2) hs_) (fun hn_ => (Kd.fresh' (Kd.R_lt (Kd.R_up HO179.out)) k_ hn_)),Or.elim hk_ (fun hs_ => fun e_ => (Kd.R_away HO_9.out (fun _ hk => hk.1)) (by rw [← e_];exact hs_)) (fun hn_ => (Kd.freshB (blk_up BK167.out) k_ hn_))⟩));replace BK167:=Aside0.mk (blk_kept (blk_up BK167.out) hkp (fun hs_ => (fun e_ => (Kd.R_away HO_9.out (fun _ hk => hk.1)) e_) hs_));replace HO179:=Aside0.mk (Kd.R_mono (ok':=fun k_ => k_ ≠ gb167 ∧ some k_ ≠ (v181 : Value).ownBlock) (Kd.R_keptB (HO179.out) hkp (fun k_ hk_ hs_ => (hk_.1.2) hs_)) (fun k_ hk_ => ⟨hk_.1.2,fun e_ => Or.elim (ho0.1 k_ e_.symm) (fun hs_ => hk_.2.1 hs_) (fun hn_ => Nat.not_le.2 hk_.2.2 hn_)⟩));replace HB:=Aside0.mk (hb);clear HO_9;obtain ⟨Ao39,co39,eo39⟩:=Kd.R_slice HO182.out;subst eo39)|((with_reducible refine gate_callee (f:=18) rfl ?_);refine goesL_ (some 64) rfl rfl Try.func18 (by kernel_rfl) rfl #[.slice Ao39 t180.length co39] rfl (by (try simp only [List.map_toArray,List.map_cons,List.map_nil]);first|done|rfl|(simp only [List.length_drop,List.length_take];rfl)) ?_;(with_reducible refine (order_Validate.calls k1 _ _ t180 t183 _ ?side1 ?side2 A25.out).mono ?_);(case side1 => exact Kd.C_up (Kd.R_reads' HO182.out).2.2);(case side2 => exact (Kd.R_reads' HO182.out).2.1);rintro e w40 ⟨rfl,hb⟩;refine ⟨_,rfl,?_⟩;replace HO179:=rbw HO179 hb;replace HO182:=rbw HO182 hb;replace BK167:=bkb BK167 hb;replace HB:=Aside0.mk (below_step (hb_) hb)))
      go_ret2
      exact ⟨_,by first|rfl|(simp [errW_none,errW_some] <;> rfl)|(simp [*,errW_none,errW_some] <;> rfl),by first|exact Kd.R_nil _ _ _ _ _|exact Kd.N_nil _ _ _ _ _|exact Kd.V_nil _ _ _ _ _|exact Kd.Q_nil _ _ _ _ _|exact Kd.S_nil _ _ _ _ _,hb_⟩
    rw [if_pos c16] at H
    have c16b0 : decide (x31_1 < (t170.length : Int)) = true:=decide_eq_true c16
    (try simp only [hl9_1] at c16b0)
    clear c16
    replace H:=ifp_ H;obtain ⟨c17,H⟩:=H
    have c17b0 : decide (0 ≤ x31_1) = true:=decide_eq_true c17
    clear c17
    replace H:=ifp_ H;obtain ⟨c18,H⟩:=H
    have c18b0 : decide (x31_1 < (x9_1.length : Int)) = true:=decide_eq_true c18
    (try simp only [hl9_1] at c18b0)
    clear c18
    by_cases c19 : ((rd_T33 x9_1 x31_1).f0) = 2
    rotate_left
    ·rw [if_neg c19] at H
     have c19b0 : (((rd_T33 x9_1 x31_1).f0) == 2) = false:=beq_eq_false_iff_ne.mpr c19
     have c19b1 : (((rd_T33 x9_1 x31_1).f0) != 2) = true:=bne_iff_ne.mpr c19
     have H':=Aside0.mk H
     clear H
     have p173 : 0 ≤ (x31_1 : Int):=of_decide_eq_true (by first|(with_reducible assumption)|assumption)
     have q173 : x31_1 < (x9_1.length : Int):=of_decide_eq_true (by first|(with_reducible assumption)|assumption)
     obtain ⟨ad173,e173,hx173_0,hx173_1,hx173_2,hx173_3,hx173_4,hx173_5,hx173_6,hx173_7,hx173_8⟩:=at_T33 (Kd.R_reads' HO_9.out).2.2 x31_1 p173 q173
     cases e173
     replace p173:=eq_true p173
     replace q173:=eq_true q173
     go_wp2
     (try simp only [← hl9_1])
     go_roundg k1
     case measure => have:=HK1.out;omega
     case rel => exact ⟨(x9_1),(wrap64 (x31_1 + 1)),(x168006_1),(by first|rfl|(simp;done)|(simp [*];done)),H',⟨by have:=HK1.out;omega⟩,⟨by (try simp only [hl9_1]);(with_reducible repeat (first|apply Kd.R_alloc|apply Kd.R_drewN|apply Kd.R_drew));exact HO_9.out⟩,⟨by (try simp only [hl9_1]);(with_reducible repeat (first|refine blk_drewN ?_ _|refine blk_drew ?_|refine blk_alloc ?_ _));exact BK167.out⟩,⟨hb_⟩⟩
    rw [if_pos c19] at H
    have c19b0 : (((rd_T33 x9_1 x31_1).f0) == 2) = true:=beq_iff_eq.mpr c19
    have c19b1 : (((rd_T33 x9_1 x31_1).f0) != 2) = false:=bne_eq_false_iff_eq.mpr c19
    clear c19
    by_cases c20 : ((rd_T33 x9_1 x31_1).f6) ≥ a1
    rotate_left
    ·rw [if_neg c20] at H
     have c20b0 : decide (a1 ≤ ((rd_T33 x9_1 x31_1).f6)) = false:=decide_eq_false c20
     clear c20
     have H':=Aside0.mk H
     clear H
     have p173 : 0 ≤ (x31_1 : Int):=of_decide_eq_true (by first|(with_reducible assumption)|assumption)
     have q173 : x31_1 < (x9_1.length : Int):=of_decide_eq_true (by first|(with_reducible assumption)|assumption)
     obtain ⟨ad173,e173,hx173_0,hx173_1,hx173_2,hx173_3,hx173_4,hx173_5,hx173_6,hx173_7,hx173_8⟩:=at_T33 (Kd.R_reads' HO_9.out).2.2 x31_1 p173 q173
     cases e173
     replace p173:=eq_true p173
     replace q173:=eq_true q173
     have p174 : 0 ≤ (x31_1 : Int):=of_decide_eq_true (by first|(with_reducible assumption)|assumption)
     have q174 : x31_1 < (x9_1.length : Int):=of_decide_eq_true (by first|(with_reducible assumption)|assumption)
     obtain ⟨ad174,e174,hx174_0,hx174_1,hx174_2,hx174_3,hx174_4,hx174_5,hx174_6,hx174_7,hx174_8⟩:=at_T33 (Kd.R_reads' HO_9.out).2.2 x31_1 p174 q174
     obtain rfl : ad173 = ad174:=(by injection e174)
     replace p174:=eq_true p174
     replace q174:=eq_true q174
     go_wp2
     (try simp only [← hl9_1])
     go_roundg k1
     case measure => have:=HK1.out;omega
     case rel => exact ⟨(x9_1),(wrap64 (x31_1 + 1)),(x168006_1),(by first|rfl|(simp;done)|(simp [*];done)),H',⟨by have:=HK1.out;omega⟩,⟨by (try simp only [hl9_1]);(with_reducible repeat (first|apply Kd.R_alloc|apply Kd.R_drewN|apply Kd.R_drew));exact HO_9.out⟩,⟨by (try simp only [hl9_1]);(with_reducible repeat (first|refine blk_drewN ?_ _|refine blk_drew ?_|refine blk_alloc ?_ _));exact BK167.out⟩,⟨hb_⟩⟩
    rw [if_pos c20] at H
    have c20b0 : decide (a1 ≤ ((rd_T33 x9_1 x31_1).f6)) = true:=decide_eq_true c20
    clear c20
    obtain ⟨y176,hy176⟩ : ∃ y_ : List (S33),y_ = (x9_1.set (x31_1 : Int).toNat (⟨(rd_T33 x9_1 x31_1).f0,(rd_T33 x9_1 x31_1).f1,(rd_T33 x9_1 x31_1).f2,(rd_T33 x9_1 x31_1).f3,(rd_T33 x9_1 x31_1).f4,(rd_T33 x9_1 x31_1).f5,wrap64 (((rd_T33 x9_1 x31_1).f6) + 1),(rd_T33 x9_1 x31_1).f7,(rd_T33 x9_1 x31_1).f8⟩ : S33)):=⟨_,rfl⟩
    replace H : (order_Insert.l0 k1 a1 y176 (t170.length : Int) (wrap64 (x31_1 + 1)) a2_0 a2_1 a2_2 a2_3 a2_4 a2_5 x168006_1 a2_7 a2_8) = some (r1,r2):=by first|(rw [hy176];with_reducible exact H)|(have H2_:=(Option.bind_some _ _).symm.trans H;rw [hy176];with_reducible exact H2_)|(have H2_:=(Option.bind_some _ _).symm.trans H;with_reducible exact H2_)|with_reducible exact H|(rw [hy176];exact H)|exact H
    have Ny176:=Aside0.mk hy176
    clear hy176
    have H':=Aside0.mk H
    clear H
    have p173 : 0 ≤ (x31_1 : Int):=of_decide_eq_true (by first|(with_reducible assumption)|assumption)
    have q173 : x31_1 < (x9_1.length : Int):=of_decide_eq_true (by first|(with_reducible assumption)|assumption)
    obtain ⟨ad173,e173,hx173_0,hx173_1,hx173_2,hx173_3,hx173_4,hx173_5,hx173_6,hx173_7,hx173_8⟩:=at_T33 (Kd.R_reads' HO_9.out).2.2 x31_1 p173 q173
    cases e173
    replace p173:=eq_true p173
    replace q173:=eq_true q173
    have p174 : 0 ≤ (x31_1 : Int):=of_decide_eq_true (by first|(with_reducible assumption)|assumption)
    have q174 : x31_1 < (x9_1.length : Int):=of_decide_eq_true (by first|(with_reducible assumption)|assumption)
    obtain ⟨ad174,e174,hx174_0,hx174_1,hx174_2,hx174_3,hx174_4,hx174_5,hx174_6,hx174_7,hx174_8⟩:=at_T33 (Kd.R_reads' HO_9.out).2.2 x31_1 p174 q174
    obtain rfl : ad173 = ad174:=(by injection e174)
    replace p174:=eq_true p174
    replace q174:=eq_true q174
    have p175 : 0 ≤ (x31_1 : Int):=of_decide_eq_true (by first|(with_reducible assumption)|assumption)
    have q175 : x31_1 < (x9_1.length : Int):=of_decide_eq_true (by first|(with_reducible assumption)|assumption)
    obtain ⟨ad175,e175,hx175_0,hx175_1,hx175_2,hx175_3,hx175_4,hx175_5,hx175_6,hx175_7,hx175_8⟩:=at_T33 (Kd.R_reads' HO_9.out).2.2 x31_1 p175 q175
    obtain rfl : ad173 = ad175:=(by injection e175)
    replace p175:=eq_true p175
    replace q175:=eq_true q175
    have p21 : 0 ≤ (x31_1 : Int):=of_decide_eq_true (by first|(with_reducible assumption)|assumption)
    have q21 : (x31_1 : Int) < ((x9_1.length : Int) : Int):=of_decide_eq_true (by first|(with_reducible assumption)|assumption)
    obtain ⟨go21,co21,eo21,gb21,gl21,cl21,HG21⟩:=Kd.R_form HO_9.out (by omega)
    (first|cases eo21|(injection eo21 with ea_ en_ ec_;(first|subst ea_|(injection ea_ with ea_;subst ea_));subst ec_;clear en_))
    have GB21:=Aside0.mk gb21
    have GG21:=Aside0.mk HG21
    clear gb21 gl21 HG21
    (first|simp only [add_plain] at hx173_0|skip)
    (first|simp only [add_plain] at hx173_1|skip)
    (first|simp only [add_plain] at hx173_2|skip)
    (first|simp only [add_plain] at hx173_3|skip)
    (first|simp only [add_plain] at hx173_4|skip)
    (first|simp only [add_plain] at hx173_5|skip)
    (first|simp only [add_plain] at hx173_6|skip)
    (first|simp only [add_plain] at hx173_7|skip)
    (first|simp only [add_plain] at hx173_8|skip)
    (first|simp only [add_plain] at hx174_0|skip)
    (first|simp only [add_plain] at hx174_1|skip)
    (first|simp only [add_plain] at hx174_2|skip)
    (first|simp only [add_plain] at hx174_3|skip)
    (first|simp only [add_plain] at hx174_4|skip)
    (first|simp only [add_plain] at hx174_5|skip)
    (first|simp only [add_plain] at hx174_6|skip)
    (first|simp only [add_plain] at hx174_7|skip)
    (first|simp only [add_plain] at hx174_8|skip)
    (first|simp only [add_plain] at hx175_0|skip)
    (first|simp only [add_plain] at hx175_1|skip)
    (first|simp only [add_plain] at hx175_2|skip)
    (first|simp only [add_plain] at hx175_3|skip)
    (first|simp only [add_plain] at hx175_4|skip)
    (first|simp only [add_plain] at hx175_5|skip)
    (first|simp only [add_plain] at hx175_6|skip)
    (first|simp only [add_plain] at hx175_7|skip)
    (first|simp only [add_plain] at hx175_8|skip)
    obtain ⟨ce21,hcl21,hM21,hcc21,hfr21⟩:=Kd.R_elem HO_9.out z33 (x31_1 : Int) p21 q21
    obtain rfl:=k33_openM hM21
    have hx21_0 : wr.cell? ⟨go21,(x31_1 : Int).toNat * 9,none⟩ = some (.int .i64 ((rd_T33 x9_1 x31_1).f0)):=hcc21 0 _ rfl
    have hx21_1 : wr.cell? ⟨go21,(x31_1 : Int).toNat * 9 + 1,none⟩ = some (.int .i64 ((rd_T33 x9_1 x31_1).f1)):=hcc21 1 _ rfl
    have hx21_2 : wr.cell? ⟨go21,(x31_1 : Int).toNat * 9 + 2,none⟩ = some (.int .i64 ((rd_T33 x9_1 x31_1).f2)):=hcc21 2 _ rfl
    have hx21_3 : wr.cell? ⟨go21,(x31_1 : Int).toNat * 9 + 3,none⟩ = some (.int .i64 ((rd_T33 x9_1 x31_1).f3)):=hcc21 3 _ rfl
    have hx21_4 : wr.cell? ⟨go21,(x31_1 : Int).toNat * 9 + 4,none⟩ = some (.int .i64 ((rd_T33 x9_1 x31_1).f4)):=hcc21 4 _ rfl
    have hx21_5 : wr.cell? ⟨go21,(x31_1 : Int).toNat * 9 + 5,none⟩ = some (.int .i64 ((rd_T33 x9_1 x31_1).f5)):=hcc21 5 _ rfl
    have hx21_6 : wr.cell? ⟨go21,(x31_1 : Int).toNat * 9 + 6,none⟩ = some (.int .i64 ((rd_T33 x9_1 x31_1).f6)):=hcc21 6 _ rfl
    have hx21_7 : wr.cell? ⟨go21,(x31_1 : Int).toNat * 9 + 7,none⟩ = some (.int .i64 ((rd_T33 x9_1 x31_1).f7)):=hcc21 7 _ rfl
    have hx21_8 : wr.cell? ⟨go21,(x31_1 : Int).toNat * 9 + 8,none⟩ = some (.int .i64 ((rd_T33 x9_1 x31_1).f8)):=hcc21 8 _ rfl
    have hf21_0 : wr.frozen? ⟨go21,(x31_1 : Int).toNat * 9,none⟩ = false:=hfr21 0
    have hf21_1 : wr.frozen? ⟨go21,(x31_1 : Int).toNat * 9 + 1,none⟩ = false:=hfr21 1
    have hf21_2 : wr.frozen? ⟨go21,(x31_1 : Int).toNat * 9 + 2,none⟩ = false:=hfr21 2
    have hf21_3 : wr.frozen? ⟨go21,(x31_1 : Int).toNat * 9 + 3,none⟩ = false:=hfr21 3
    have hf21_4 : wr.frozen? ⟨go21,(x31_1 : Int).toNat * 9 + 4,none⟩ = false:=hfr21 4
    have hf21_5 : wr.frozen? ⟨go21,(x31_1 : Int).toNat * 9 + 5,none⟩ = false:=hfr21 5
    have hf21_6 : wr.frozen? ⟨go21,(x31_1 : Int).toNat * 9 + 6,none⟩ = false:=hfr21 6
    have hf21_7 : wr.frozen? ⟨go21,(x31_1 : Int).toNat * 9 + 7,none⟩ = false:=hfr21 7
    have hf21_8 : wr.frozen? ⟨go21,(x31_1 : Int).toNat * 9 + 8,none⟩ = false:=hfr21 8
    clear hcl21 hcc21 hfr21 hM21
    replace p21:=eq_true p21
    replace q21:=eq_true q21
    have HX22:=Aside0.mk (show Kd.R k33 33 wr w.heap.size (fun k_ => k_ ≠ gb167) (.slice (some ⟨go21,0,none⟩) x9_1.length co15) x9_1 from (Kd.R_up HO_9.out))
    obtain ⟨ce22,hcl22,hM22,hcc22,hfr22⟩:=Kd.R_elem HX22.out z33 (x31_1 : Int) (of_decide_eq_true (by first|(with_reducible assumption)|assumption)) (by have h_ : (x31_1 : Int) < ((x9_1.length : Int) : Int):=of_decide_eq_true (by first|(with_reducible assumption)|assumption);first|exact h_|(have e_:=(Kd.R_reads' HO_9.out).1;omega)|simpa using h_)
    obtain rfl:=k33_openM hM22
    have HP22:=Kd.R_seg HX22.out (x31_1 : Int) (of_decide_eq_true (by first|(with_reducible assumption)|assumption)) (by have h_ : (x31_1 : Int) < ((x9_1.length : Int) : Int):=of_decide_eq_true (by first|(with_reducible assumption)|assumption);first|exact h_|(have e_:=(Kd.R_reads' HO_9.out).1;omega)|simpa using h_) (seg:=[.int .i64 (wrap64 (((rd_T33 x9_1 x31_1).f6) + 1))]) (j:=6) hcl22 hcc22 (show 7 ≤ 9 from by decide) (x':=(⟨(rd_T33 x9_1 x31_1).f0,(rd_T33 x9_1 x31_1).f1,(rd_T33 x9_1 x31_1).f2,(rd_T33 x9_1 x31_1).f3,(rd_T33 x9_1 x31_1).f4,(rd_T33 x9_1 x31_1).f5,wrap64 (((rd_T33 x9_1 x31_1).f6) + 1),(rd_T33 x9_1 x31_1).f7,(rd_T33 x9_1 x31_1).f8⟩ : S33)) (k33_mkM _ _ _ (⟨(rd_T33 x9_1 x31_1).f0,(rd_T33 x9_1 x31_1).f1,(rd_T33 x9_1 x31_1).f2,(rd_T33 x9_1 x31_1).f3,(rd_T33 x9_1 x31_1).f4,(rd_T33 x9_1 x31_1).f5,wrap64 (((rd_T33 x9_1 x31_1).f6) + 1),(rd_T33 x9_1 x31_1).f7,(rd_T33 x9_1 x31_1).f8⟩ : S33) ) (fun _ hk => hk)
    have hx22_6:=hcc22 6 _ rfl
    (try simp only [show (k33).sz = 9 from rfl,Nat.mul_one,Nat.add_zero] at hx22_6)
    have hf22_6:=hfr22 6
    (try simp only [show (k33).sz = 9 from rfl,Nat.mul_one,Nat.add_zero] at hf22_6)
    clear hcl22 hcc22 hfr22 hM22
    go_wp2_with (first|((with_reducible refine gate_store (t:=3) (p:=56) rfl ?_);refine store_event (t:=3) (p:=56) (v:=?vo_w23) (w1:=(wr.setCell ⟨go21,(x31_1 : Int).toNat * 9 + 6,none⟩ (.int .i64 (wrap64 (((rd_T33 x9_1 x31_1).f6) + 1))))) ?hg ?ho ?hn ?hr ?_;(case ho => rfl);(case hg => rfl);(case hn => rfl);(case hr => first|(go_simp;done)|(go_simp;rfl));intro w23 hw;have hg : wr.grownBy w23 (some go21):=(by rw [hw];exact HP22.2);have hp_ : Kd.R k33 33 w23 w.heap.size (fun k_ => k_ ≠ gb167) (.slice (some ⟨go21,0,none⟩) x9_1.length co15) y176:=(by rw [hw,Ny176.out];exact HP22.1);clear HP22;replace BK167:=Aside0.mk (blk_grown (blk_up BK167.out) hg (Kd.R_away HO_9.out (fun _ hk => hk)));replace HO_9:=Aside0.mk (hp_);replace HB:=Aside0.mk ((by rw [hw];exact below_set (HB.out) GB21.out : Below w.heap.size w w23));clear hg hw hp_))
    (try simp only [← hl9_1])
    go_roundg k1
    case measure => have:=HK1.out;omega
    case rel => exact ⟨(y176),(wrap64 (x31_1 + 1)),(x168006_1),(by first|rfl|(simp;done)|(simp [*];done)),H',⟨by have:=HK1.out;omega⟩,⟨by (try simp only [hl9_1]);(with_reducible repeat (first|apply Kd.R_alloc|apply Kd.R_drewN|apply Kd.R_drew));exact HO_9.out⟩,⟨by (try simp only [hl9_1]);(with_reducible repeat (first|refine blk_drewN ?_ _|refine blk_drew ?_|refine blk_alloc ?_ _));exact BK167.out⟩,⟨hb_⟩⟩
 ·replace c7:=Bool.eq_false_iff.mpr c7
  subst c7
  have H1 : (some (([] : List (S33)),2)) = some (r1,r2):=by rw [if_neg (show ¬ (false = true) by decide)] at H;exact H
  clear H
  have H:=H1
  clear H1
  simp only [Option.some.injEq,Prod.mk.injEq] at H
  obtain ⟨rfl,rfl⟩:=H
  go_enter Try.func36,Try.ntmps36
  go_wp2_with (first|((with_reducible refine gate_dst (N:=5) rfl ?_);refine box_ev (N:=5) (cs:=#[.int .i64 a2_0,.int .i64 a2_1,.int .i64 a2_2,.int .i64 a2_3,.int .i64 a2_4,.int .i64 a2_5,.int .i64 a2_6,.int .i64 a2_7,.int .i64 a2_8]) (t:=33) ?_;intro gb167 hg w41 hbox hb;have BK167:=Aside0.mk (hbox);have GW167 : Aside0 (w.heap.size ≤ gb167):=gsz hg;have GE167:=GW167;replace HB:=Aside0.mk (below_step (hb_) hb);clear hb hbox hg)|((with_reducible refine gate_callee (f:=18) rfl ?_);refine goesL_ (some 13) rfl rfl Try.func18 (by kernel_rfl) rfl #[.slice A0 l0.length c0] rfl (by (try simp only [List.map_toArray,List.map_cons,List.map_nil]);first|done|rfl|(simp only [List.length_drop,List.length_take];rfl)) ?_;(with_reducible refine (order_Validate.calls k _ _ l0 t168 _ ?side1 ?side2 A4.out).mono ?_);(case side1 => exact Kd.C_up (Kd.C_below HR0.out HB.out));(case side2 => exact HC0.out);rintro e w42 ⟨rfl,hb⟩;refine ⟨_,rfl,?_⟩;replace BK167:=bkb BK167 hb;replace HB:=Aside0.mk (below_step (hb_) hb))|((with_reducible refine gate_callee (f:=39) rfl ?_);refine goesL_ (some 21) rfl rfl Try.func39 (by kernel_rfl) rfl #[.int .i64 a1,.int .i64 (l0.length : Int)] rfl (by (try simp only [List.map_toArray,List.map_cons,List.map_nil]);first|done|rfl|(simp only [List.length_drop,List.length_take];rfl)) ?_;(with_reducible refine (order_within.calls a1 (l0.length : Int) false _ A6.out).mono ?_);rintro e w' ⟨rfl,⟨nd,rfl⟩⟩;refine ⟨_,rfl,?_⟩))
  go_ret2
  exact ⟨_,by first|rfl|(simp [errW_none,errW_some] <;> rfl)|(simp [*,errW_none,errW_some] <;> rfl),by first|exact Kd.R_nil _ _ _ _ _|exact Kd.N_nil _ _ _ _ _|exact Kd.V_nil _ _ _ _ _|exact Kd.Q_nil _ _ _ _ _|exact Kd.S_nil _ _ _ _ _,hb_⟩

end Go.Proofs.Ythbjchicpebglaa.P
