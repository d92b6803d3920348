/- Functions of this seat as plain Lean functions, with proofs that the Go code comes to just their answers, or what stands between them and a law's statement; no conditions. (Laid by a program of this session, out of the kit's print.) -/
import Derived.Test.YthbjchicpebglaaPx0
import Derived.Test.YthbjchicpebglaaPx1
import Derived.Test.YthbjchicpebglaaPx4
import Derived.Test.YthbjchicpebglaaPx9
import Derived.Test.YthbjchicpebglaaPx11
namespace Go.Proofs.Ythbjchicpebglaa.P
open Go.RowKit Go.Proofs.YthbjchicpebglaaW.PrintWords Go.Proofs.YthbjchicpebglaaW.PrintLast Go.Proofs.YthbjchicpebglaaW.PrintMore
attribute [local go_sem] max2_int min2_int max_two min_two max_three min_three max_four min_four   -- for this text's walks alone
set_option linter.unusedVariables false
set_option linter.unusedSimpArgs false

attribute [local go_sem high] eqA33
/-! ### hinterlandlaw15_OrderFollows: function 14 -/
def hinterlandlaw15_OrderFollows.j0 : Nat → List (S33) → Int → Int → List (S33) → Bool → Int → Int → Int → Int → Option (Bool)
 | 0,_,_,_,_,_,_,_,_,_ => none
 | k + 1,x0,x1,x2,x11,x53,x201000,x201001,x201002,x201003 => if x53 = true then ((hinterlandlaw15_known.f k).bind fun t209 => (some t209)) else ((order_Moved.f k x1 x2 true (x11.length : Int)).bind fun t210 => ((order_Next.f k x11 t210 x201000 x201001 x201002 x201003).bind fun bt211 => (if bt211.2.2 = 0 then (if bt211.2.1 = true then (if bt211.1 = t210 then (if t210 ≥ 0 then (if t210 < (x11.length : Int) then (if 0 ≤ t210 then (if 0 ≤ x1 then (if x1 < (x0.length : Int) then (if (((rd_T33 x11 t210).f0) == ((rd_T33 x0 x1).f0) && (((rd_T33 x11 t210).f1) == ((rd_T33 x0 x1).f1) && (((rd_T33 x11 t210).f2) == ((rd_T33 x0 x1).f2) && (((rd_T33 x11 t210).f3) == ((rd_T33 x0 x1).f3) && (((rd_T33 x11 t210).f4) == ((rd_T33 x0 x1).f4) && (((rd_T33 x11 t210).f5) == ((rd_T33 x0 x1).f5) && (((rd_T33 x11 t210).f6) == ((rd_T33 x0 x1).f6) && (((rd_T33 x11 t210).f7) == ((rd_T33 x0 x1).f7) && (((rd_T33 x11 t210).f8) == ((rd_T33 x0 x1).f8)))))))))) = true then ((hinterlandlaw15_known.f k).bind fun t216 => (some t216)) else (some false)) else (none)) else (none)) else (none)) else (some false)) else (some false)) else (some false)) else (some false)) else (some false))))
def hinterlandlaw15_OrderFollows.f (k : Nat) (l0 : List (S33)) (a1 : Int) (a2 : Int) (a3_0 : Int) (a3_1 : Int) (a3_2 : Int) (a3_3 : Int) (a3_4 : Int) (a3_5 : Int) (a3_6 : Int) (a3_7 : Int) (a3_8 : Int) (a4_0 : Int) (a4_1 : Int) (a4_2 : Int) (a4_3 : Int) : Option (Bool) := if (l0.length : Int) > 300 then ((hinterlandlaw15_known.f k).bind fun t201 => (some t201)) else ((order_Insert.f k l0 a2 a3_0 a3_1 a3_2 a3_3 a3_4 a3_5 a3_6 a3_7 a3_8).bind fun bt202 => ((order_Next.f k l0 a1 a4_0 a4_1 a4_2 a4_3).bind fun bt206 => (if bt202.2 = 0 then (if bt206.2.2 = 0 then (if bt206.2.1 = true then (hinterlandlaw15_OrderFollows.j0 k l0 a1 a2 bt202.1 (bt206.1 != a1) a4_0 a4_1 a4_2 a4_3) else (hinterlandlaw15_OrderFollows.j0 k l0 a1 a2 bt202.1 true a4_0 a4_1 a4_2 a4_3)) else (hinterlandlaw15_OrderFollows.j0 k l0 a1 a2 bt202.1 true a4_0 a4_1 a4_2 a4_3)) else (hinterlandlaw15_OrderFollows.j0 k l0 a1 a2 bt202.1 true a4_0 a4_1 a4_2 a4_3))))
theorem hinterlandlaw15_OrderFollows.mono_l : ∀ k, (∀ y0 y1 y2 y3 y4 y5 y6 y7 y8, LeO (hinterlandlaw15_OrderFollows.j0 k y0 y1 y2 y3 y4 y5 y6 y7 y8) (hinterlandlaw15_OrderFollows.j0 (k + 1) y0 y1 y2 y3 y4 y5 y6 y7 y8))
 | 0 => fun _ _ _ _ _ _ _ _ _ r h => by simp [hinterlandlaw15_OrderFollows.j0] at h
 | k + 1 => by
  have ih0:=hinterlandlaw15_OrderFollows.mono_l k
  ·intro y0 y1 y2 y3 y4 y5 y6 y7 y8
   unfold hinterlandlaw15_OrderFollows.j0
   repeat' first
   | (with_reducible exact ih0 _ _ _ _ _ _ _ _ _)
   | (with_reducible exact hinterlandlaw15_known.mono _)
   | (with_reducible exact order_Insert.mono _ _ _ _ _ _ _ _ _ _ _ _)
   | (with_reducible exact order_Moved.mono _ _ _ _ _)
   | (with_reducible exact order_Next.mono _ _ _ _ _ _ _)
   | (with_reducible exact LeO.refl _)
   | (with_reducible exact LeO.none _)
   | (with_reducible refine LeO.ite ?_ ?_)
   | (with_reducible refine LeO.bind ?_ (fun _ => ?_))
   | exact ih0 _ _ _ _ _ _ _ _ _
   | exact hinterlandlaw15_known.mono _
   | exact order_Insert.mono _ _ _ _ _ _ _ _ _ _ _ _
   | exact order_Moved.mono _ _ _ _ _
   | exact order_Next.mono _ _ _ _ _ _ _
   | exact LeO.none _
   | refine LeO.ite ?_ ?_
   | refine LeO.bind ?_ (fun _ => ?_)
theorem hinterlandlaw15_OrderFollows.mono : ∀ a0 a1 a2 a3 a4 a5 a6 a7 a8 a9 a10 a11 a12 a13 a14 a15 k, LeO (hinterlandlaw15_OrderFollows.f k a0 a1 a2 a3 a4 a5 a6 a7 a8 a9 a10 a11 a12 a13 a14 a15) (hinterlandlaw15_OrderFollows.f (k + 1) a0 a1 a2 a3 a4 a5 a6 a7 a8 a9 a10 a11 a12 a13 a14 a15) := by
 intro a0 a1 a2 a3 a4 a5 a6 a7 a8 a9 a10 a11 a12 a13 a14 a15 k
 have ih0:=hinterlandlaw15_OrderFollows.mono_l k
 unfold hinterlandlaw15_OrderFollows.f
 repeat' first
   | (with_reducible exact ih0 _ _ _ _ _ _ _ _ _)
   | (with_reducible exact hinterlandlaw15_known.mono _)
   | (with_reducible exact order_Insert.mono _ _ _ _ _ _ _ _ _ _ _ _)
   | (with_reducible exact order_Moved.mono _ _ _ _ _)
   | (with_reducible exact order_Next.mono _ _ _ _ _ _ _)
   | (with_reducible exact LeO.refl _)
   | (with_reducible exact LeO.none _)
   | (with_reducible refine LeO.ite ?_ ?_)
   | (with_reducible refine LeO.bind ?_ (fun _ => ?_))
   | exact ih0 _ _ _ _ _ _ _ _ _
   | exact hinterlandlaw15_known.mono _
   | exact order_Insert.mono _ _ _ _ _ _ _ _ _ _ _ _
   | exact order_Moved.mono _ _ _ _ _
   | exact order_Next.mono _ _ _ _ _ _ _
   | exact LeO.none _
   | refine LeO.ite ?_ ?_
   | refine LeO.bind ?_ (fun _ => ?_)
def hinterlandlaw15_OrderFollows.T9 : Bool × List (List Nat × List Nat) := (true, [([], []), ([0], [0]), ([1], [1]), ([2], [2]), ([2, 3], [2, 3]), ([4, 2], [4]), ([5], [5]), ([5], [5]), ([6, 7, 5], [5, 6, 7]), ([5, 8], [5, 8]), ([9, 5], [9]), ([10], [10]), ([11, 10], [10, 11]), ([10, 12], [10, 12]), ([13, 10], [13]), ([14], [14]), ([14], [14]), ([16, 14], [14, 16]), ([15, 17, 14], [14, 15, 17]), ([14, 18], [14, 18]), ([19, 14], [19]), ([20], [20]), ([20], [20]), ([21, 22, 20], [20, 21, 22]), ([23, 20], [20, 23]), ([20], [20]), ([20], [20]), ([25, 26, 20], [20, 25, 26]), ([27, 20], [20, 27]), ([24, 28, 20], [20, 24, 28]), ([20, 29], [20, 29]), ([30, 20], [30]), ([31, 31], [31]), ([31, 32], [31, 32]), ([33, 32, 0, 1, 2, 3, 4, 5, 6, 7, 8, 9, 10, 11, 12, 13, 14, 15, 16, 17, 18, 19, 20, 21, 22, 23, 24, 25, 26, 27, 28, 29, 30, 31, 32, 33], [33])])
def hinterlandlaw15_OrderFollows.B9 : List Nat := [0, 1, 3, 7, 15, 31, 63, 63, 255, 511, 1023, 2047, 4095, 8191, 16383, 32767, 32767, 98303, 262143, 524287, 1048575, 2097151, 2097151, 8388607, 16777215, 2097151, 2097151, 102760447, 236978175, 536870911, 1073741823, 2147483647, 4294967295, 8589934591, 17179869183]
theorem hinterlandlaw15_OrderFollows.tab9 : rtab .any (opsOf Try.f14 9) = hinterlandlaw15_OrderFollows.T9 := by kernel_rfl
theorem hinterlandlaw15_OrderFollows.bits9 : waitsOk hinterlandlaw15_OrderFollows.T9.2 hinterlandlaw15_OrderFollows.B9 = true := by kernel_rfl
set_option maxHeartbeats 8000000 in
set_option maxRecDepth 100000 in
theorem hinterlandlaw15_OrderFollows.calls (k : Nat) (A0 : Option Addr) (c0 : Nat) (l0 : List (S33)) (a1 : Int) (a2 : Int) (a3_0 : Int) (a3_1 : Int) (a3_2 : Int) (a3_3 : Int) (a3_4 : Int) (a3_5 : Int) (a3_6 : Int) (a3_7 : Int) (a3_8 : Int) (a4_0 : Int) (a4_1 : Int) (a4_2 : Int) (a4_3 : Int) (r : Bool) (w : World) (hr0 : Kd.C k33 w A0 l0.length l0) (hc0 : l0.length ≤ c0) (h : hinterlandlaw15_OrderFollows.f k l0 a1 a2 a3_0 a3_1 a3_2 a3_3 a3_4 a3_5 a3_6 a3_7 a3_8 a4_0 a4_1 a4_2 a4_3 = some r) :
  Calls Try.prog 14 #[.slice A0 l0.length c0,.int .i64 a1,.int .i64 a2,.agg #[.int .i64 a3_0,.int .i64 a3_1,.int .i64 a3_2,.int .i64 a3_3,.int .i64 a3_4,.int .i64 a3_5,.int .i64 a3_6,.int .i64 a3_7,.int .i64 a3_8],.agg #[.int .i64 a4_0,.int .i64 a4_1,.int .i64 a4_2,.int .i64 a4_3]] w fun e w' => e = .returned (.bool r) ∧ Below w.heap.size w w':=by
 have hu33:=Try.underlying33
 have hu28:=Try.underlying28
 have HR0:=Aside0.mk hr0
 have HC0:=Aside0.mk hc0
 clear hr0 hc0
 have HB:=Aside0.mk (Below.refl w.heap.size w)
 have H : (if (l0.length : Int) > 300 then ((hinterlandlaw15_known.f k).bind fun t201 => (some t201)) else ((order_Insert.f k l0 a2 a3_0 a3_1 a3_2 a3_3 a3_4 a3_5 a3_6 a3_7 a3_8).bind fun bt202 => ((order_Next.f k l0 a1 a4_0 a4_1 a4_2 a4_3).bind fun bt206 => (if bt202.2 = 0 then (if bt206.2.2 = 0 then (if bt206.2.1 = true then (hinterlandlaw15_OrderFollows.j0 k l0 a1 a2 bt202.1 (bt206.1 != a1) a4_0 a4_1 a4_2 a4_3) else (hinterlandlaw15_OrderFollows.j0 k l0 a1 a2 bt202.1 true a4_0 a4_1 a4_2 a4_3)) else (hinterlandlaw15_OrderFollows.j0 k l0 a1 a2 bt202.1 true a4_0 a4_1 a4_2 a4_3)) else (hinterlandlaw15_OrderFollows.j0 k l0 a1 a2 bt202.1 true a4_0 a4_1 a4_2 a4_3))))) = some r:=h
 clear h
 by_cases c6 : (l0.length : Int) > 300
 ·rw [if_pos c6] at H
  have c6b0 : decide (300 < (l0.length : Int)) = true:=decide_eq_true c6
  have c6b1 : decide (300 < l0.length) = true:=decide_eq_true (by omega)
  clear c6
  replace H:=Option.bind_eq_some_iff.mp H
  obtain ⟨t201,A70,H⟩:=H
  replace H : (some t201) = some r:=H
  have A7:=Aside0.mk A70
  clear A70
  obtain rfl:=Option.some.inj H
  go_enter Try.func14,Try.ntmps14
  go_wp2_with (first|((with_reducible refine gate_dst (N:=8) rfl ?_);(try (refine gate_guard (by rfl) ?_;dsimp only));refine box_ev (N:=8) (cs:=#[.int .i64 a3_0,.int .i64 a3_1,.int .i64 a3_2,.int .i64 a3_3,.int .i64 a3_4,.int .i64 a3_5,.int .i64 a3_6,.int .i64 a3_7,.int .i64 a3_8]) (t:=33) ?_;intro gb199 hg w8 hbox hb;have BK199:=Aside0.mk (hbox);have GW199 : Aside0 (w.heap.size ≤ gb199):=gsz hg;have GE199:=GW199;replace HB:=Aside0.mk (below_step (hb_) hb);clear hb hbox hg)|((with_reducible refine gate_dst (N:=9) rfl ?_);(try (refine gate_guard (by rfl) ?_;dsimp only));refine box_ev (N:=9) (cs:=#[.int .i64 a4_0,.int .i64 a4_1,.int .i64 a4_2,.int .i64 a4_3]) (t:=28) ?_;intro gb200 hg w9 hbox hb;have BK200:=Aside0.mk (hbox);have GW200 : Aside0 (w.heap.size ≤ gb200):=gsz hg;have GE200:=GW200;have NB199_200:=nbl BK199 hg;have NB200_199:=nbr BK199 hg;replace BK199:=bkb BK199 hb;replace HB:=Aside0.mk (below_step (hb_) hb);clear hb hbox hg)|((with_reducible refine gate_callee (f:=16) rfl ?_);refine goesL_ (some 23) rfl rfl Try.func16 (by kernel_rfl) rfl #[] rfl (by (try simp only [List.map_toArray,List.map_cons,List.map_nil]);first|done|rfl|(simp only [List.length_drop,List.length_take];rfl)) ?_;(with_reducible refine (hinterlandlaw15_known.calls k  t201 _ A7.out).mono ?_);rintro e w10 ⟨rfl,hb⟩;refine ⟨_,rfl,?_⟩;replace BK199:=bkb BK199 hb;replace BK200:=bkb BK200 hb;replace HB:=Aside0.mk (below_step (hb_) hb)))
  go_ret
  exact ⟨by first|rfl|(simp [errW_none,errW_some] <;> rfl)|(simp [*,errW_none,errW_some] <;> rfl),hb_⟩
 rw [if_neg c6] at H
 have c6b0 : decide (300 < (l0.length : Int)) = false:=decide_eq_false c6
 have c6b1 : decide (300 < l0.length) = false:=decide_eq_false (by omega)
 clear c6
 replace H:=Option.bind_eq_some_iff.mp H
 obtain ⟨⟨t202,t205⟩,A110,H⟩:=H
 replace H : ((order_Next.f k l0 a1 a4_0 a4_1 a4_2 a4_3).bind fun bt206 => (if t205 = 0 then (if bt206.2.2 = 0 then (if bt206.2.1 = true then (hinterlandlaw15_OrderFollows.j0 k l0 a1 a2 t202 (bt206.1 != a1) a4_0 a4_1 a4_2 a4_3) else (hinterlandlaw15_OrderFollows.j0 k l0 a1 a2 t202 true a4_0 a4_1 a4_2 a4_3)) else (hinterlandlaw15_OrderFollows.j0 k l0 a1 a2 t202 true a4_0 a4_1 a4_2 a4_3)) else (hinterlandlaw15_OrderFollows.j0 k l0 a1 a2 t202 true a4_0 a4_1 a4_2 a4_3))) = some r:=H
 have A11:=Aside0.mk A110
 clear A110
 replace H:=Option.bind_eq_some_iff.mp H
 obtain ⟨⟨t206,t207,t208⟩,A120,H⟩:=H
 replace H : (if t205 = 0 then (if t208 = 0 then (if t207 = true then (hinterlandlaw15_OrderFollows.j0 k l0 a1 a2 t202 (t206 != a1) a4_0 a4_1 a4_2 a4_3) else (hinterlandlaw15_OrderFollows.j0 k l0 a1 a2 t202 true a4_0 a4_1 a4_2 a4_3)) else (hinterlandlaw15_OrderFollows.j0 k l0 a1 a2 t202 true a4_0 a4_1 a4_2 a4_3)) else (hinterlandlaw15_OrderFollows.j0 k l0 a1 a2 t202 true a4_0 a4_1 a4_2 a4_3)) = some r:=H
 have A12:=Aside0.mk A120
 clear A120
 have HC13:=Aside0.mk H
 clear H
 go_enter Try.func14,Try.ntmps14
 go_upto_region 5 with (first|((with_reducible refine gate_dst (N:=8) rfl ?_);(try (refine gate_guard (by rfl) ?_;dsimp only));refine box_ev (N:=8) (cs:=#[.int .i64 a3_0,.int .i64 a3_1,.int .i64 a3_2,.int .i64 a3_3,.int .i64 a3_4,.int .i64 a3_5,.int .i64 a3_6,.int .i64 a3_7,.int .i64 a3_8]) (t:=33) ?_;intro gb199 hg w14 hbox hb;have BK199:=Aside0.mk (hbox);have GW199 : Aside0 (w.heap.size ≤ gb199):=gsz hg;have GE199:=GW199;replace HB:=Aside0.mk (below_step (hb_) hb);clear hb hbox hg)|((with_reducible refine gate_dst (N:=9) rfl ?_);(try (refine gate_guard (by rfl) ?_;dsimp only));refine box_ev (N:=9) (cs:=#[.int .i64 a4_0,.int .i64 a4_1,.int .i64 a4_2,.int .i64 a4_3]) (t:=28) ?_;intro gb200 hg w15 hbox hb;have BK200:=Aside0.mk (hbox);have GW200 : Aside0 (w.heap.size ≤ gb200):=gsz hg;have GE200:=GW200;have NB199_200:=nbl BK199 hg;have NB200_199:=nbr BK199 hg;replace BK199:=bkb BK199 hb;replace HB:=Aside0.mk (below_step (hb_) hb);clear hb hbox hg;have hnb16:=NB199_200.out;have hnc16:=NB200_199.out;obtain ⟨hcz17_0,hcz17_1,hcz17_2,hcz17_3,hcz17_4,hcz17_5,hcz17_6,hcz17_7,hcz17_8,hfz17_0,hfz17_1,hfz17_2,hfz17_3,hfz17_4,hfz17_5,hfz17_6,hfz17_7,hfz17_8⟩:=cells9 BK199.out)|((with_reducible refine gate_callee (f:=36) rfl ?_);refine goesL_ (some 28) rfl rfl Try.func36 (by kernel_rfl) rfl #[.slice A0 l0.length c0,.int .i64 a2,.agg #[.int .i64 a3_0,.int .i64 a3_1,.int .i64 a3_2,.int .i64 a3_3,.int .i64 a3_4,.int .i64 a3_5,.int .i64 a3_6,.int .i64 a3_7,.int .i64 a3_8]] rfl (by (try simp only [List.map_toArray,List.map_cons,List.map_nil]);first|done|rfl|(simp only [List.length_drop,List.length_take];rfl)) ?_;(with_reducible refine (order_Insert.calls k _ _ l0 a2 a3_0 a3_1 a3_2 a3_3 a3_4 a3_5 a3_6 a3_7 a3_8 t202 t205 _ ?side1 ?side2 A11.out).mono ?_);(case side1 => exact Kd.C_up (Kd.C_below HR0.out HB.out));(case side2 => exact HC0.out);rintro e w18 ⟨v203,rfl,ho0,hb⟩;refine ⟨_,rfl,?_⟩;have HO204:=Aside0.mk (Kd.R_lower (Kd.R_newB ho0 (blk_up BK199.out)) (below_size (hb_)));replace BK199:=bkb BK199 hb;replace BK200:=bkb BK200 hb;replace HB:=Aside0.mk (below_step (hb_) hb);obtain ⟨hcz19_0,hcz19_1,hcz19_2,hcz19_3,hfz19_0,hfz19_1,hfz19_2,hfz19_3⟩:=cells4 BK200.out)|((with_reducible refine gate_callee (f:=20) rfl ?_);refine goesL_ (some 35) rfl rfl Try.func20 (by kernel_rfl) rfl #[.slice A0 l0.length c0,.int .i64 a1,.agg #[.int .i64 a4_0,.int .i64 a4_1,.int .i64 a4_2,.int .i64 a4_3]] rfl (by (try simp only [List.map_toArray,List.map_cons,List.map_nil]);first|done|rfl|(simp only [List.length_drop,List.length_take];rfl)) ?_;(with_reducible refine (order_Next.calls k _ _ l0 a1 a4_0 a4_1 a4_2 a4_3 t206 t207 t208 _ ?side1 ?side2 A12.out).mono ?_);(case side1 => exact Kd.C_up (Kd.C_below HR0.out HB.out));(case side2 => exact HC0.out);rintro e w20 ⟨rfl,hb⟩;refine ⟨_,rfl,?_⟩;replace HO204:=rbw HO204 hb;replace BK199:=bkb BK199 hb;replace BK200:=bkb BK200 hb;replace HB:=Aside0.mk (below_step (hb_) hb)))
 (try simp only [Act.put,List.setIfInBounds_toArray,List.set_cons_zero,List.set_cons_succ])
 go_cut [53] (fun v53 wc => ∃ (kq : Nat) (x53_12 : Bool),v53 = .bool x53_12 ∧ Aside0 (hinterlandlaw15_OrderFollows.j0 kq l0 a1 a2 t202 x53_12 a4_0 a4_1 a4_2 a4_3 = some r) ∧ Aside0 (kq ≤ k) ∧ Aside0 (Kd.R k33 33 wc w.heap.size (fun k_ => k_ ≠ gb199) v203 t202) ∧ Aside0 (wc.heap[gb199]? = some (.cells #[.int .i64 a3_0,.int .i64 a3_1,.int .i64 a3_2,.int .i64 a3_3,.int .i64 a3_4,.int .i64 a3_5,.int .i64 a3_6,.int .i64 a3_7,.int .i64 a3_8] 33 (0,0))) ∧ Aside0 (wc.heap[gb200]? = some (.cells #[.int .i64 a4_0,.int .i64 a4_1,.int .i64 a4_2,.int .i64 a4_3] 28 (0,0))) ∧ Aside0 (Below w.heap.size w wc))
 case first =>
  have H:=HC13.out
  clear HC13
  by_cases c21 : t205 = 0
  rotate_left
  ·rw [if_neg c21] at H
   have c21b0 : (t205 == 0) = false:=beq_eq_false_iff_ne.mpr c21
   have c21b1 : (t205 != 0) = true:=bne_iff_ne.mpr c21
   (first|rw [c21b0]|(simp only [i64_w,i32_w];rw [c21b0])|skip)
   have H':=Aside0.mk H
   clear H
   go_wp2
   go_meet
   case rel => exact ⟨_,(true),(by first|rfl|(simp;done)|(simp [*];done)),H',⟨by first|omega|exact Nat.le_refl _⟩,⟨by (with_reducible repeat (first|apply Kd.R_alloc|apply Kd.R_drewN|apply Kd.R_drew));exact Kd.R_mono HO204.out (fun _ hk => hk.2)⟩,⟨blk_up BK199.out⟩,⟨blk_up BK200.out⟩,⟨hb_⟩⟩
  rw [if_pos c21] at H
  have c21b0 : (t205 == 0) = true:=beq_iff_eq.mpr c21
  have c21b1 : (t205 != 0) = false:=bne_eq_false_iff_eq.mpr c21
  clear c21
  (first|rw [c21b0]|(simp only [i64_w,i32_w];rw [c21b0])|skip)
  by_cases c22 : t208 = 0
  ·rw [if_pos c22] at H
   have c22b0 : (t208 == 0) = true:=beq_iff_eq.mpr c22
   have c22b1 : (t208 != 0) = false:=bne_eq_false_iff_eq.mpr c22
   clear c22
   by_cases c23 : t207 = true
   ·subst c23
    have H1 : (hinterlandlaw15_OrderFollows.j0 k l0 a1 a2 t202 (t206 != a1) a4_0 a4_1 a4_2 a4_3) = some r:=by rw [if_pos rfl] at H;exact H
    clear H
    have H:=H1
    clear H1
    have H':=Aside0.mk H
    clear H
    go_wp2
    go_meet
    case rel => exact ⟨_,((t206 != a1)),(by first|rfl|(simp;done)|(simp [*];done)),H',⟨by first|omega|exact Nat.le_refl _⟩,⟨by (with_reducible repeat (first|apply Kd.R_alloc|apply Kd.R_drewN|apply Kd.R_drew));exact Kd.R_mono HO204.out (fun _ hk => hk.2)⟩,⟨blk_up BK199.out⟩,⟨blk_up BK200.out⟩,⟨hb_⟩⟩
   ·replace c23:=Bool.eq_false_iff.mpr c23
    subst c23
    have H1 : (hinterlandlaw15_OrderFollows.j0 k l0 a1 a2 t202 true a4_0 a4_1 a4_2 a4_3) = some r:=by rw [if_neg (show ¬ (false = true) by decide)] at H;exact H
    clear H
    have H:=H1
    clear H1
    have H':=Aside0.mk H
    clear H
    go_wp2
    go_meet
    case rel => exact ⟨_,(true),(by first|rfl|(simp;done)|(simp [*];done)),H',⟨by first|omega|exact Nat.le_refl _⟩,⟨by (with_reducible repeat (first|apply Kd.R_alloc|apply Kd.R_drewN|apply Kd.R_drew));exact Kd.R_mono HO204.out (fun _ hk => hk.2)⟩,⟨blk_up BK199.out⟩,⟨blk_up BK200.out⟩,⟨hb_⟩⟩
  ·rw [if_neg c22] at H
   have c22b0 : (t208 == 0) = false:=beq_eq_false_iff_ne.mpr c22
   have c22b1 : (t208 != 0) = true:=bne_iff_ne.mpr c22
   have H':=Aside0.mk H
   clear H
   go_wp2
   go_meet
   case rel => exact ⟨_,(true),(by first|rfl|(simp;done)|(simp [*];done)),H',⟨by first|omega|exact Nat.le_refl _⟩,⟨by (with_reducible repeat (first|apply Kd.R_alloc|apply Kd.R_drewN|apply Kd.R_drew));exact Kd.R_mono HO204.out (fun _ hk => hk.2)⟩,⟨blk_up BK199.out⟩,⟨blk_up BK200.out⟩,⟨hb_⟩⟩
 case rest =>
  clear HC13
  obtain ⟨kq,x53_12,rfl,HA,HJ12,HO_11,BK199,BK200,HB⟩:=hcut
  cases kq with
  | zero => exact absurd HA.out (by simp [hinterlandlaw15_OrderFollows.j0])
  | succ kj12 =>
   have H:=HA.out
   clear HA
   simp only [hinterlandlaw15_OrderFollows.j0] at H
   by_cases c24 : x53_12 = true
   ·subst c24
    have H1 : ((hinterlandlaw15_known.f kj12).bind fun t209 => (some t209)) = some r:=by rw [if_pos rfl] at H;exact H
    clear H
    have H:=H1
    clear H1
    replace H:=Option.bind_eq_some_iff.mp H
    obtain ⟨t209,A250,H⟩:=H
    replace H : (some t209) = some r:=H
    have A25:=Aside0.mk A250
    clear A250
    obtain rfl:=Option.some.inj H
    go_wp2_with (first|((with_reducible refine gate_callee (f:=16) rfl ?_);refine goesL_ (some 54) rfl rfl Try.func16 (by kernel_rfl) rfl #[] rfl (by (try simp only [List.map_toArray,List.map_cons,List.map_nil]);first|done|rfl|(simp only [List.length_drop,List.length_take];rfl)) ?_;(with_reducible refine (hinterlandlaw15_known.calls kj12  t209 _ A25.out).mono ?_);rintro e w26 ⟨rfl,hb⟩;refine ⟨_,rfl,?_⟩;replace HO_11:=rbw HO_11 hb;replace BK199:=bkb BK199 hb;replace BK200:=bkb BK200 hb;replace HB:=Aside0.mk (below_step (hb_) hb)))
    go_ret
    exact ⟨by first|rfl|(simp [errW_none,errW_some] <;> rfl)|(simp [*,errW_none,errW_some] <;> rfl),hb_⟩
   ·replace c24:=Bool.eq_false_iff.mpr c24
    subst c24
    have H1 : ((order_Moved.f kj12 a1 a2 true (t202.length : Int)).bind fun t210 => ((order_Next.f kj12 t202 t210 a4_0 a4_1 a4_2 a4_3).bind fun bt211 => (if bt211.2.2 = 0 then (if bt211.2.1 = true then (if bt211.1 = t210 then (if t210 ≥ 0 then (if t210 < (t202.length : Int) then (if 0 ≤ t210 then (if 0 ≤ a1 then (if a1 < (l0.length : Int) then (if (((rd_T33 t202 t210).f0) == ((rd_T33 l0 a1).f0) && (((rd_T33 t202 t210).f1) == ((rd_T33 l0 a1).f1) && (((rd_T33 t202 t210).f2) == ((rd_T33 l0 a1).f2) && (((rd_T33 t202 t210).f3) == ((rd_T33 l0 a1).f3) && (((rd_T33 t202 t210).f4) == ((rd_T33 l0 a1).f4) && (((rd_T33 t202 t210).f5) == ((rd_T33 l0 a1).f5) && (((rd_T33 t202 t210).f6) == ((rd_T33 l0 a1).f6) && (((rd_T33 t202 t210).f7) == ((rd_T33 l0 a1).f7) && (((rd_T33 t202 t210).f8) == ((rd_T33 l0 a1).f8)))))))))) = true then ((hinterlandlaw15_known.f kj12).bind fun t216 => (some t216)) else (some false)) else (none)) else (none)) else (none)) else (some false)) else (some false)) else (some false)) else (some false)) else (some false)))) = some r:=by rw [if_neg (show ¬ (false = true) by decide)] at H;exact H
    clear H
    have H:=H1
    clear H1
    replace H:=Option.bind_eq_some_iff.mp H
    obtain ⟨t210,A270,H⟩:=H
    replace H : ((order_Next.f kj12 t202 t210 a4_0 a4_1 a4_2 a4_3).bind fun bt211 => (if bt211.2.2 = 0 then (if bt211.2.1 = true then (if bt211.1 = t210 then (if t210 ≥ 0 then (if t210 < (t202.length : Int) then (if 0 ≤ t210 then (if 0 ≤ a1 then (if a1 < (l0.length : Int) then (if (((rd_T33 t202 t210).f0) == ((rd_T33 l0 a1).f0) && (((rd_T33 t202 t210).f1) == ((rd_T33 l0 a1).f1) && (((rd_T33 t202 t210).f2) == ((rd_T33 l0 a1).f2) && (((rd_T33 t202 t210).f3) == ((rd_T33 l0 a1).f3) && (((rd_T33 t202 t210).f4) == ((rd_T33 l0 a1).f4) && (((rd_T33 t202 t210).f5) == ((rd_T33 l0 a1).f5) && (((rd_T33 t202 t210).f6) == ((rd_T33 l0 a1).f6) && (((rd_T33 t202 t210).f7) == ((rd_T33 l0 a1).f7) && (((rd_T33 t202 t210).f8) == ((rd_T33 l0 a1).f8)))))))))) = true then ((hinterlandlaw15_known.f kj12).bind fun t216 => (some t216)) else (some false)) else (none)) else (none)) else (none)) else (some false)) else (some false)) else (some false)) else (some false)) else (some false))) = some r:=H
    have A27:=Aside0.mk A270
    clear A270
    replace H:=Option.bind_eq_some_iff.mp H
    obtain ⟨⟨t211,t212,t213⟩,A280,H⟩:=H
    replace H : (if t213 = 0 then (if t212 = true then (if t211 = t210 then (if t210 ≥ 0 then (if t210 < (t202.length : Int) then (if 0 ≤ t210 then (if 0 ≤ a1 then (if a1 < (l0.length : Int) then (if (((rd_T33 t202 t210).f0) == ((rd_T33 l0 a1).f0) && (((rd_T33 t202 t210).f1) == ((rd_T33 l0 a1).f1) && (((rd_T33 t202 t210).f2) == ((rd_T33 l0 a1).f2) && (((rd_T33 t202 t210).f3) == ((rd_T33 l0 a1).f3) && (((rd_T33 t202 t210).f4) == ((rd_T33 l0 a1).f4) && (((rd_T33 t202 t210).f5) == ((rd_T33 l0 a1).f5) && (((rd_T33 t202 t210).f6) == ((rd_T33 l0 a1).f6) && (((rd_T33 t202 t210).f7) == ((rd_T33 l0 a1).f7) && (((rd_T33 t202 t210).f8) == ((rd_T33 l0 a1).f8)))))))))) = true then ((hinterlandlaw15_known.f kj12).bind fun t216 => (some t216)) else (some false)) else (none)) else (none)) else (none)) else (some false)) else (some false)) else (some false)) else (some false)) else (some false)) = some r:=H
    have A28:=Aside0.mk A280
    clear A280
    by_cases c29 : t213 = 0
    rotate_left
    ·rw [if_neg c29] at H
     have c29b0 : (t213 == 0) = false:=beq_eq_false_iff_ne.mpr c29
     have c29b1 : (t213 != 0) = true:=bne_iff_ne.mpr c29
     obtain rfl:=Option.some.inj H
     obtain ⟨Ao70,co70,eo70⟩:=Kd.R_slice HO_11.out
     subst eo70
     try go_wp2_with (first|((with_reducible refine gate_callee (f:=24) rfl ?_);refine goesL_ (some 59) rfl rfl Try.func24 (by kernel_rfl) rfl #[.int .i64 a1,.int .i64 a2,.bool true,.int .i64 (t202.length : Int)] rfl (by (try simp only [List.map_toArray,List.map_cons,List.map_nil]);first|done|rfl|(simp only [List.length_drop,List.length_take];rfl)) ?_;(with_reducible refine (order_Moved.calls kj12 a1 a2 true (t202.length : Int) t210 _ A27.out).mono ?_);rintro e w' ⟨rfl,⟨nd,rfl⟩⟩;refine ⟨_,rfl,?_⟩;have hnb71:=NB200_199.out;have hnc71:=NB199_200.out;obtain ⟨hcz72_0,hcz72_1,hcz72_2,hcz72_3,hfz72_0,hfz72_1,hfz72_2,hfz72_3⟩:=cells4 BK200.out)|((with_reducible refine gate_callee (f:=20) rfl ?_);refine goesL_ (some 64) rfl rfl Try.func20 (by kernel_rfl) rfl #[.slice Ao70 t202.length co70,.int .i64 t210,.agg #[.int .i64 a4_0,.int .i64 a4_1,.int .i64 a4_2,.int .i64 a4_3]] rfl (by (try simp only [List.map_toArray,List.map_cons,List.map_nil]);first|done|rfl|(simp only [List.length_drop,List.length_take];rfl)) ?_;(with_reducible refine (order_Next.calls kj12 _ _ t202 t210 a4_0 a4_1 a4_2 a4_3 t211 t212 t213 _ ?side1 ?side2 A28.out).mono ?_);(case side1 => exact Kd.C_up (Kd.R_reads' HO_11.out).2.2);(case side2 => exact (Kd.R_reads' HO_11.out).2.1);rintro e w73 ⟨rfl,hb⟩;refine ⟨_,rfl,?_⟩;replace HO_11:=rbw HO_11 hb;replace BK199:=bkb BK199 hb;replace BK200:=bkb BK200 hb;replace HB:=Aside0.mk (below_step (hb_) hb)))
     replace HO_11:=Aside0.mk (Kd.R_drew HO_11.out)
     replace BK199:=Aside0.mk (blk_drew BK199.out)
     replace BK200:=Aside0.mk (blk_drew BK200.out)
     replace HB:=Aside0.mk (below_drew1 HB.out)
     refine start_ (n:=35) (S:=fun w' => True) (ds:=[]) #[false,false,false,false,false,false,false,false,false,false,false,false,false,false,false,false,false,false,false,false,false,false,false,false,false,false,false,false,false,false,false,false,false,false,false] (by kernel_rfl) rfl rfl trivial (fun hHeld => ?_);refine with_tabW hinterlandlaw15_OrderFollows.tab9 hinterlandlaw15_OrderFollows.bits9 (fun HT_ HW_ => ?_)
     generalize w73.drew = w74 at HO_11 BK199 BK200 HB hHeld ⊢
     refine pI 0 (some 68) ?_
     refine pI 1 (some 69) ?_
     refine pI 2 (some 70) ?_
     refine pU 3 (some 71) ?_
     refine pI 4 (some 72) ?_
     refine pI 5 (some 73) ?_
     refine pU 6 (some 74) ?_
     refine pU 7 (some 75) ?_
     refine pU 8 (some 76) ?_
     refine pI 9 (some 77) ?_
     refine pI 10 (some 78) ?_
     refine pU 11 (some 79) ?_
     refine pU 12 (some 80) ?_
     refine pI 13 (some 81) ?_
     refine pI 14 (some 82) ?_
     refine pU 15 (some 83) ?_
     refine pU 16 (some 84) ?_
     refine pU 17 (some 85) ?_
     refine pU 18 (some 86) ?_
     refine pI 19 (some 87) ?_
     refine pI 20 (some 88) ?_
     refine pU 21 (some 89) ?_
     refine pU 22 (some 90) ?_
     refine pU 23 (some 91) ?_
     refine pU 24 (some 92) ?_
     refine pU 25 (some 93) ?_
     refine pU 26 (some 94) ?_
     refine pU 27 (some 95) ?_
     refine pU 28 (some 96) ?_
     refine pU 29 (some 97) ?_
     refine pI 30 (some 98) ?_
     refine pI 31 (some 99) ?_
     refine pU 32 (some 100) ?_
     refine pI 33 (some 101) ?_
     refine pI 34 (some 10) ?_
     refine done_ (done_of HT_.out (by kernel_rfl)) ?_
     try go_wp2
     go_ret
     exact ⟨by first|rfl|(simp [errW_none,errW_some] <;> rfl)|(simp [*,errW_none,errW_some] <;> rfl),hb_⟩
    rw [if_pos c29] at H
    have c29b0 : (t213 == 0) = true:=beq_iff_eq.mpr c29
    have c29b1 : (t213 != 0) = false:=bne_eq_false_iff_eq.mpr c29
    clear c29
    by_cases c30 : t212 = true
    ·subst c30
     have H1 : (if t211 = t210 then (if t210 ≥ 0 then (if t210 < (t202.length : Int) then (if 0 ≤ t210 then (if 0 ≤ a1 then (if a1 < (l0.length : Int) then (if (((rd_T33 t202 t210).f0) == ((rd_T33 l0 a1).f0) && (((rd_T33 t202 t210).f1) == ((rd_T33 l0 a1).f1) && (((rd_T33 t202 t210).f2) == ((rd_T33 l0 a1).f2) && (((rd_T33 t202 t210).f3) == ((rd_T33 l0 a1).f3) && (((rd_T33 t202 t210).f4) == ((rd_T33 l0 a1).f4) && (((rd_T33 t202 t210).f5) == ((rd_T33 l0 a1).f5) && (((rd_T33 t202 t210).f6) == ((rd_T33 l0 a1).f6) && (((rd_T33 t202 t210).f7) == ((rd_T33 l0 a1).f7) && (((rd_T33 t202 t210).f8) == ((rd_T33 l0 a1).f8)))))))))) = true then ((hinterlandlaw15_known.f kj12).bind fun t216 => (some t216)) else (some false)) else (none)) else (none)) else (none)) else (some false)) else (some false)) else (some false)) = some r:=by rw [if_pos rfl] at H;exact H
     clear H
     have H:=H1
     clear H1
     by_cases c31 : t211 = t210
     rotate_left
     ·rw [if_neg c31] at H
      have c31b0 : (t211 == t210) = false:=beq_eq_false_iff_ne.mpr c31
      have c31b1 : (t211 != t210) = true:=bne_iff_ne.mpr c31
      obtain rfl:=Option.some.inj H
      obtain ⟨Ao60,co60,eo60⟩:=Kd.R_slice HO_11.out
      subst eo60
      try go_wp2_with (first|((with_reducible refine gate_callee (f:=24) rfl ?_);refine goesL_ (some 59) rfl rfl Try.func24 (by kernel_rfl) rfl #[.int .i64 a1,.int .i64 a2,.bool true,.int .i64 (t202.length : Int)] rfl (by (try simp only [List.map_toArray,List.map_cons,List.map_nil]);first|done|rfl|(simp only [List.length_drop,List.length_take];rfl)) ?_;(with_reducible refine (order_Moved.calls kj12 a1 a2 true (t202.length : Int) t210 _ A27.out).mono ?_);rintro e w' ⟨rfl,⟨nd,rfl⟩⟩;refine ⟨_,rfl,?_⟩;have hnb61:=NB200_199.out;have hnc61:=NB199_200.out;obtain ⟨hcz62_0,hcz62_1,hcz62_2,hcz62_3,hfz62_0,hfz62_1,hfz62_2,hfz62_3⟩:=cells4 BK200.out)|((with_reducible refine gate_callee (f:=20) rfl ?_);refine goesL_ (some 64) rfl rfl Try.func20 (by kernel_rfl) rfl #[.slice Ao60 t202.length co60,.int .i64 t210,.agg #[.int .i64 a4_0,.int .i64 a4_1,.int .i64 a4_2,.int .i64 a4_3]] rfl (by (try simp only [List.map_toArray,List.map_cons,List.map_nil]);first|done|rfl|(simp only [List.length_drop,List.length_take];rfl)) ?_;(with_reducible refine (order_Next.calls kj12 _ _ t202 t210 a4_0 a4_1 a4_2 a4_3 t211 true t213 _ ?side1 ?side2 A28.out).mono ?_);(case side1 => exact Kd.C_up (Kd.R_reads' HO_11.out).2.2);(case side2 => exact (Kd.R_reads' HO_11.out).2.1);rintro e w63 ⟨rfl,hb⟩;refine ⟨_,rfl,?_⟩;replace HO_11:=rbw HO_11 hb;replace BK199:=bkb BK199 hb;replace BK200:=bkb BK200 hb;replace HB:=Aside0.mk (below_step (hb_) hb)))
      replace HO_11:=Aside0.mk (Kd.R_drew HO_11.out)
      replace BK199:=Aside0.mk (blk_drew BK199.out)
      replace BK200:=Aside0.mk (blk_drew BK200.out)
      replace HB:=Aside0.mk (below_drew1 HB.out)
      refine start_ (n:=35) (S:=fun w' => True) (ds:=[]) #[false,false,false,false,false,false,false,false,false,false,false,false,false,false,false,false,false,false,false,false,false,false,false,false,false,false,false,false,false,false,false,false,false,false,false] (by kernel_rfl) rfl rfl trivial (fun hHeld => ?_);refine with_tabW hinterlandlaw15_OrderFollows.tab9 hinterlandlaw15_OrderFollows.bits9 (fun HT_ HW_ => ?_)
      generalize w63.drew = w64 at HO_11 BK199 BK200 HB hHeld ⊢
      refine pI 0 (some 68) ?_
      refine pI 1 (some 69) ?_
      refine pI 2 (some 70) ?_
      refine pI 3 (some 71) ?_
      refine pI 4 (some 72) ?_
      refine pI 5 (some 73) ?_
      refine pI 6 (some 74) ?_
      refine pI 7 (some 75) ?_
      refine pI 8 (some 76) ?_
      refine pI 9 (some 77) ?_
      refine pI 10 (some 78) ?_
      refine pU 11 (some 79) ?_
      refine pU 12 (some 80) ?_
      refine pI 13 (some 81) ?_
      refine pI 14 (some 82) ?_
      refine pU 15 (some 83) ?_
      refine pU 16 (some 84) ?_
      refine pU 17 (some 85) ?_
      refine pU 18 (some 86) ?_
      refine pI 19 (some 87) ?_
      refine pI 20 (some 88) ?_
      refine pU 21 (some 89) ?_
      refine pU 22 (some 90) ?_
      refine pU 23 (some 91) ?_
      refine pU 24 (some 92) ?_
      refine pU 25 (some 93) ?_
      refine pU 26 (some 94) ?_
      refine pU 27 (some 95) ?_
      refine pU 28 (some 96) ?_
      refine pU 29 (some 97) ?_
      refine pI 30 (some 98) ?_
      refine pI 31 (some 99) ?_
      refine pU 32 (some 100) ?_
      refine pI 33 (some 101) ?_
      refine pI 34 (some 10) ?_
      refine done_ (done_of HT_.out (by kernel_rfl)) ?_
      try go_wp2
      go_ret
      exact ⟨by first|rfl|(simp [errW_none,errW_some] <;> rfl)|(simp [*,errW_none,errW_some] <;> rfl),hb_⟩
     rw [if_pos c31] at H
     have c31b0 : (t211 == t210) = true:=beq_iff_eq.mpr c31
     have c31b1 : (t211 != t210) = false:=bne_eq_false_iff_eq.mpr c31
     clear c31
     by_cases c32 : t210 ≥ 0
     rotate_left
     ·rw [if_neg c32] at H
      have c32b0 : decide (0 ≤ t210) = false:=decide_eq_false c32
      clear c32
      obtain rfl:=Option.some.inj H
      obtain ⟨Ao55,co55,eo55⟩:=Kd.R_slice HO_11.out
      subst eo55
      try go_wp2_with (first|((with_reducible refine gate_callee (f:=24) rfl ?_);refine goesL_ (some 59) rfl rfl Try.func24 (by kernel_rfl) rfl #[.int .i64 a1,.int .i64 a2,.bool true,.int .i64 (t202.length : Int)] rfl (by (try simp only [List.map_toArray,List.map_cons,List.map_nil]);first|done|rfl|(simp only [List.length_drop,List.length_take];rfl)) ?_;(with_reducible refine (order_Moved.calls kj12 a1 a2 true (t202.length : Int) t210 _ A27.out).mono ?_);rintro e w' ⟨rfl,⟨nd,rfl⟩⟩;refine ⟨_,rfl,?_⟩;have hnb56:=NB200_199.out;have hnc56:=NB199_200.out;obtain ⟨hcz57_0,hcz57_1,hcz57_2,hcz57_3,hfz57_0,hfz57_1,hfz57_2,hfz57_3⟩:=cells4 BK200.out)|((with_reducible refine gate_callee (f:=20) rfl ?_);refine goesL_ (some 64) rfl rfl Try.func20 (by kernel_rfl) rfl #[.slice Ao55 t202.length co55,.int .i64 t210,.agg #[.int .i64 a4_0,.int .i64 a4_1,.int .i64 a4_2,.int .i64 a4_3]] rfl (by (try simp only [List.map_toArray,List.map_cons,List.map_nil]);first|done|rfl|(simp only [List.length_drop,List.length_take];rfl)) ?_;(with_reducible refine (order_Next.calls kj12 _ _ t202 t210 a4_0 a4_1 a4_2 a4_3 t211 true t213 _ ?side1 ?side2 A28.out).mono ?_);(case side1 => exact Kd.C_up (Kd.R_reads' HO_11.out).2.2);(case side2 => exact (Kd.R_reads' HO_11.out).2.1);rintro e w58 ⟨rfl,hb⟩;refine ⟨_,rfl,?_⟩;replace HO_11:=rbw HO_11 hb;replace BK199:=bkb BK199 hb;replace BK200:=bkb BK200 hb;replace HB:=Aside0.mk (below_step (hb_) hb)))
      replace HO_11:=Aside0.mk (Kd.R_drew HO_11.out)
      replace BK199:=Aside0.mk (blk_drew BK199.out)
      replace BK200:=Aside0.mk (blk_drew BK200.out)
      replace HB:=Aside0.mk (below_drew1 HB.out)
      refine start_ (n:=35) (S:=fun w' => True) (ds:=[]) #[false,false,false,false,false,false,false,false,false,false,false,false,false,false,false,false,false,false,false,false,false,false,false,false,false,false,false,false,false,false,false,false,false,false,false] (by kernel_rfl) rfl rfl trivial (fun hHeld => ?_);refine with_tabW hinterlandlaw15_OrderFollows.tab9 hinterlandlaw15_OrderFollows.bits9 (fun HT_ HW_ => ?_)
      generalize w58.drew = w59 at HO_11 BK199 BK200 HB hHeld ⊢
      refine pI 0 (some 68) ?_
      refine pI 1 (some 69) ?_
      refine pI 2 (some 70) ?_
      refine pI 3 (some 71) ?_
      refine pI 4 (some 72) ?_
      refine pI 5 (some 73) ?_
      refine pI 6 (some 74) ?_
      refine pI 7 (some 75) ?_
      refine pI 8 (some 76) ?_
      refine pI 9 (some 77) ?_
      refine pI 10 (some 78) ?_
      refine pI 11 (some 79) ?_
      refine pI 12 (some 80) ?_
      refine pI 13 (some 81) ?_
      refine pI 14 (some 82) ?_
      refine pU 15 (some 83) ?_
      refine pU 16 (some 84) ?_
      refine pU 17 (some 85) ?_
      refine pU 18 (some 86) ?_
      refine pI 19 (some 87) ?_
      refine pI 20 (some 88) ?_
      refine pU 21 (some 89) ?_
      refine pU 22 (some 90) ?_
      refine pU 23 (some 91) ?_
      refine pU 24 (some 92) ?_
      refine pU 25 (some 93) ?_
      refine pU 26 (some 94) ?_
      refine pU 27 (some 95) ?_
      refine pU 28 (some 96) ?_
      refine pU 29 (some 97) ?_
      refine pI 30 (some 98) ?_
      refine pI 31 (some 99) ?_
      refine pU 32 (some 100) ?_
      refine pI 33 (some 101) ?_
      refine pI 34 (some 10) ?_
      refine done_ (done_of HT_.out (by kernel_rfl)) ?_
      try go_wp2
      go_ret
      exact ⟨by first|rfl|(simp [errW_none,errW_some] <;> rfl)|(simp [*,errW_none,errW_some] <;> rfl),hb_⟩
     rw [if_pos c32] at H
     have c32b0 : decide (0 ≤ t210) = true:=decide_eq_true c32
     clear c32
     by_cases c33 : t210 < (t202.length : Int)
     rotate_left
     ·rw [if_neg c33] at H
      have c33b0 : decide (t210 < (t202.length : Int)) = false:=decide_eq_false c33
      clear c33
      obtain rfl:=Option.some.inj H
      obtain ⟨Ao50,co50,eo50⟩:=Kd.R_slice HO_11.out
      subst eo50
      try go_wp2_with (first|((with_reducible refine gate_callee (f:=24) rfl ?_);refine goesL_ (some 59) rfl rfl Try.func24 (by kernel_rfl) rfl #[.int .i64 a1,.int .i64 a2,.bool true,.int .i64 (t202.length : Int)] rfl (by (try simp only [List.map_toArray,List.map_cons,List.map_nil]);first|done|rfl|(simp only [List.length_drop,List.length_take];rfl)) ?_;(with_reducible refine (order_Moved.calls kj12 a1 a2 true (t202.length : Int) t210 _ A27.out).mono ?_);rintro e w' ⟨rfl,⟨nd,rfl⟩⟩;refine ⟨_,rfl,?_⟩;have hnb51:=NB200_199.out;have hnc51:=NB199_200.out;obtain ⟨hcz52_0,hcz52_1,hcz52_2,hcz52_3,hfz52_0,hfz52_1,hfz52_2,hfz52_3⟩:=cells4 BK200.out)|((with_reducible refine gate_callee (f:=20) rfl ?_);refine goesL_ (some 64) rfl rfl Try.func20 (by kernel_rfl) rfl #[.slice Ao50 t202.length co50,.int .i64 t210,.agg #[.int .i64 a4_0,.int .i64 a4_1,.int .i64 a4_2,.int .i64 a4_3]] rfl (by (try simp only [List.map_toArray,List.map_cons,List.map_nil]);first|done|rfl|(simp only [List.length_drop,List.length_take];rfl)) ?_;(with_reducible refine (order_Next.calls kj12 _ _ t202 t210 a4_0 a4_1 a4_2 a4_3 t211 true t213 _ ?side1 ?side2 A28.out).mono ?_);(case side1 => exact Kd.C_up (Kd.R_reads' HO_11.out).2.2);(case side2 => exact (Kd.R_reads' HO_11.out).2.1);rintro e w53 ⟨rfl,hb⟩;refine ⟨_,rfl,?_⟩;replace HO_11:=rbw HO_11 hb;replace BK199:=bkb BK199 hb;replace BK200:=bkb BK200 hb;replace HB:=Aside0.mk (below_step (hb_) hb)))
      replace HO_11:=Aside0.mk (Kd.R_drew HO_11.out)
      replace BK199:=Aside0.mk (blk_drew BK199.out)
      replace BK200:=Aside0.mk (blk_drew BK200.out)
      replace HB:=Aside0.mk (below_drew1 HB.out)
      refine start_ (n:=35) (S:=fun w' => True) (ds:=[]) #[false,false,false,false,false,false,false,false,false,false,false,false,false,false,false,false,false,false,false,false,false,false,false,false,false,false,false,false,false,false,false,false,false,false,false] (by kernel_rfl) rfl rfl trivial (fun hHeld => ?_);refine with_tabW hinterlandlaw15_OrderFollows.tab9 hinterlandlaw15_OrderFollows.bits9 (fun HT_ HW_ => ?_)
      generalize w53.drew = w54 at HO_11 BK199 BK200 HB hHeld ⊢
      refine pI 0 (some 68) ?_
      refine pI 1 (some 69) ?_
      refine pI 2 (some 70) ?_
      refine pI 3 (some 71) ?_
      refine pI 4 (some 72) ?_
      refine pI 5 (some 73) ?_
      refine pI 6 (some 74) ?_
      refine pI 7 (some 75) ?_
      refine pI 8 (some 76) ?_
      refine pI 9 (some 77) ?_
      refine pI 10 (some 78) ?_
      refine pI 11 (some 79) ?_
      refine pI 12 (some 80) ?_
      refine pI 13 (some 81) ?_
      refine pI 14 (some 82) ?_
      refine pI 15 (some 83) ?_
      refine pI 16 (some 84) ?_
      refine pI 17 (some 85) ?_
      refine pI 18 (some 86) ?_
      refine pI 19 (some 87) ?_
      refine pI 20 (some 88) ?_
      refine pU 21 (some 89) ?_
      refine pU 22 (some 90) ?_
      refine pU 23 (some 91) ?_
      refine pU 24 (some 92) ?_
      refine pU 25 (some 93) ?_
      refine pU 26 (some 94) ?_
      refine pU 27 (some 95) ?_
      refine pU 28 (some 96) ?_
      refine pU 29 (some 97) ?_
      refine pI 30 (some 98) ?_
      refine pI 31 (some 99) ?_
      refine pU 32 (some 100) ?_
      refine pI 33 (some 101) ?_
      refine pI 34 (some 10) ?_
      refine done_ (done_of HT_.out (by kernel_rfl)) ?_
      try go_wp2
      go_ret
      exact ⟨by first|rfl|(simp [errW_none,errW_some] <;> rfl)|(simp [*,errW_none,errW_some] <;> rfl),hb_⟩
     rw [if_pos c33] at H
     have c33b0 : decide (t210 < (t202.length : Int)) = true:=decide_eq_true c33
     clear c33
     replace H:=ifp_ H;obtain ⟨c34,H⟩:=H
     have c34b0 : decide (0 ≤ t210) = true:=decide_eq_true c34
     clear c34
     replace H:=ifp_ H;obtain ⟨c35,H⟩:=H
     have c35b0 : decide (0 ≤ a1) = true:=decide_eq_true c35
     clear c35
     replace H:=ifp_ H;obtain ⟨c36,H⟩:=H
     have c36b0 : decide (a1 < (l0.length : Int)) = true:=decide_eq_true c36
     clear c36
     by_cases c37 : (((rd_T33 t202 t210).f0) == ((rd_T33 l0 a1).f0) && (((rd_T33 t202 t210).f1) == ((rd_T33 l0 a1).f1) && (((rd_T33 t202 t210).f2) == ((rd_T33 l0 a1).f2) && (((rd_T33 t202 t210).f3) == ((rd_T33 l0 a1).f3) && (((rd_T33 t202 t210).f4) == ((rd_T33 l0 a1).f4) && (((rd_T33 t202 t210).f5) == ((rd_T33 l0 a1).f5) && (((rd_T33 t202 t210).f6) == ((rd_T33 l0 a1).f6) && (((rd_T33 t202 t210).f7) == ((rd_T33 l0 a1).f7) && (((rd_T33 t202 t210).f8) == ((rd_T33 l0 a1).f8)))))))))) = true
     rotate_left
     ·rw [if_neg c37] at H
      have c37b0 : (((rd_T33 t202 t210).f0) == ((rd_T33 l0 a1).f0) && (((rd_T33 t202 t210).f1) == ((rd_T33 l0 a1).f1) && (((rd_T33 t202 t210).f2) == ((rd_T33 l0 a1).f2) && (((rd_T33 t202 t210).f3) == ((rd_T33 l0 a1).f3) && (((rd_T33 t202 t210).f4) == ((rd_T33 l0 a1).f4) && (((rd_T33 t202 t210).f5) == ((rd_T33 l0 a1).f5) && (((rd_T33 t202 t210).f6) == ((rd_T33 l0 a1).f6) && (((rd_T33 t202 t210).f7) == ((rd_T33 l0 a1).f7) && (((rd_T33 t202 t210).f8) == ((rd_T33 l0 a1).f8)))))))))) = false:=by simpa using c37
      (try (have c37b1 : decide (((rd_T33 t202 t210).f0) = ((rd_T33 l0 a1).f0) && (((rd_T33 t202 t210).f1) == ((rd_T33 l0 a1).f1) && (((rd_T33 t202 t210).f2) == ((rd_T33 l0 a1).f2) && (((rd_T33 t202 t210).f3) == ((rd_T33 l0 a1).f3) && (((rd_T33 t202 t210).f4) == ((rd_T33 l0 a1).f4) && (((rd_T33 t202 t210).f5) == ((rd_T33 l0 a1).f5) && (((rd_T33 t202 t210).f6) == ((rd_T33 l0 a1).f6) && (((rd_T33 t202 t210).f7) == ((rd_T33 l0 a1).f7) && (((rd_T33 t202 t210).f8) == ((rd_T33 l0 a1).f8)))))))))) = false:=by simpa using c37))
      (try (have c37b2 : (((rd_T33 t202 t210).f0) == ((rd_T33 l0 a1).f0) && (((rd_T33 t202 t210).f1) == ((rd_T33 l0 a1).f1) && (((rd_T33 t202 t210).f2) == ((rd_T33 l0 a1).f2) && (((rd_T33 t202 t210).f3) == ((rd_T33 l0 a1).f3) && (((rd_T33 t202 t210).f4) == ((rd_T33 l0 a1).f4) && (((rd_T33 t202 t210).f5) == ((rd_T33 l0 a1).f5) && (((rd_T33 t202 t210).f6) == ((rd_T33 l0 a1).f6) && (((rd_T33 t202 t210).f7) == ((rd_T33 l0 a1).f7) && (((rd_T33 t202 t210).f8) == ((rd_T33 l0 a1).f8)))))))))) = false:=by simpa using c37))
      (try (have c37b3 : ¬ (((rd_T33 t202 t210).f0) = ((rd_T33 l0 a1).f0) && (((rd_T33 t202 t210).f1) == ((rd_T33 l0 a1).f1) && (((rd_T33 t202 t210).f2) == ((rd_T33 l0 a1).f2) && (((rd_T33 t202 t210).f3) == ((rd_T33 l0 a1).f3) && (((rd_T33 t202 t210).f4) == ((rd_T33 l0 a1).f4) && (((rd_T33 t202 t210).f5) == ((rd_T33 l0 a1).f5) && (((rd_T33 t202 t210).f6) == ((rd_T33 l0 a1).f6) && (((rd_T33 t202 t210).f7) == ((rd_T33 l0 a1).f7) && (((rd_T33 t202 t210).f8) == ((rd_T33 l0 a1).f8)))))))))):=by simpa using c37))
      clear c37
      obtain rfl:=Option.some.inj H
      obtain ⟨Ao45,co45,eo45⟩:=Kd.R_slice HO_11.out
      subst eo45
      try go_wp2_with (first|((with_reducible refine gate_callee (f:=24) rfl ?_);refine goesL_ (some 59) rfl rfl Try.func24 (by kernel_rfl) rfl #[.int .i64 a1,.int .i64 a2,.bool true,.int .i64 (t202.length : Int)] rfl (by (try simp only [List.map_toArray,List.map_cons,List.map_nil]);first|done|rfl|(simp only [List.length_drop,List.length_take];rfl)) ?_;(with_reducible refine (order_Moved.calls kj12 a1 a2 true (t202.length : Int) t210 _ A27.out).mono ?_);rintro e w' ⟨rfl,⟨nd,rfl⟩⟩;refine ⟨_,rfl,?_⟩;have hnb46:=NB200_199.out;have hnc46:=NB199_200.out;obtain ⟨hcz47_0,hcz47_1,hcz47_2,hcz47_3,hfz47_0,hfz47_1,hfz47_2,hfz47_3⟩:=cells4 BK200.out)|((with_reducible refine gate_callee (f:=20) rfl ?_);refine goesL_ (some 64) rfl rfl Try.func20 (by kernel_rfl) rfl #[.slice Ao45 t202.length co45,.int .i64 t210,.agg #[.int .i64 a4_0,.int .i64 a4_1,.int .i64 a4_2,.int .i64 a4_3]] rfl (by (try simp only [List.map_toArray,List.map_cons,List.map_nil]);first|done|rfl|(simp only [List.length_drop,List.length_take];rfl)) ?_;(with_reducible refine (order_Next.calls kj12 _ _ t202 t210 a4_0 a4_1 a4_2 a4_3 t211 true t213 _ ?side1 ?side2 A28.out).mono ?_);(case side1 => exact Kd.C_up (Kd.R_reads' HO_11.out).2.2);(case side2 => exact (Kd.R_reads' HO_11.out).2.1);rintro e w48 ⟨rfl,hb⟩;refine ⟨_,rfl,?_⟩;replace HO_11:=rbw HO_11 hb;replace BK199:=bkb BK199 hb;replace BK200:=bkb BK200 hb;replace HB:=Aside0.mk (below_step (hb_) hb)))
      replace HO_11:=Aside0.mk (Kd.R_drew HO_11.out)
      replace BK199:=Aside0.mk (blk_drew BK199.out)
      replace BK200:=Aside0.mk (blk_drew BK200.out)
      replace HB:=Aside0.mk (below_drew1 HB.out)
      have p214 : 0 ≤ (t210 : Int):=of_decide_eq_true (by first|(with_reducible assumption)|assumption)
      have q214 : t210 < (t202.length : Int):=of_decide_eq_true (by first|(with_reducible assumption)|assumption)
      obtain ⟨ad214,e214,hx214_0,hx214_1,hx214_2,hx214_3,hx214_4,hx214_5,hx214_6,hx214_7,hx214_8⟩:=at_T33 (Kd.R_reads' HO_11.out).2.2 t210 p214 q214
      cases e214
      replace p214:=eq_true p214
      replace q214:=eq_true q214
      have p215 : 0 ≤ (a1 : Int):=of_decide_eq_true (by first|(with_reducible assumption)|assumption)
      have q215 : a1 < (l0.length : Int):=of_decide_eq_true (by first|(with_reducible assumption)|assumption)
      obtain ⟨ad215,e215,hx215_0,hx215_1,hx215_2,hx215_3,hx215_4,hx215_5,hx215_6,hx215_7,hx215_8⟩:=at_T33 HR0.out a1 p215 q215
      have hw215_8:=hx215_8
      have hw215_7:=hx215_7
      have hw215_6:=hx215_6
      have hw215_5:=hx215_5
      have hw215_4:=hx215_4
      have hw215_3:=hx215_3
      have hw215_2:=hx215_2
      have hw215_1:=hx215_1
      have hw215_0:=hx215_0
      cases e215
      replace hx215_0:=(HB.out.cell (World.block_lt_of_cell? w _ hx215_0)).trans hx215_0
      replace hx215_1:=(HB.out.cell (World.block_lt_of_cell? w _ hx215_1)).trans hx215_1
      replace hx215_2:=(HB.out.cell (World.block_lt_of_cell? w _ hx215_2)).trans hx215_2
      replace hx215_3:=(HB.out.cell (World.block_lt_of_cell? w _ hx215_3)).trans hx215_3
      replace hx215_4:=(HB.out.cell (World.block_lt_of_cell? w _ hx215_4)).trans hx215_4
      replace hx215_5:=(HB.out.cell (World.block_lt_of_cell? w _ hx215_5)).trans hx215_5
      replace hx215_6:=(HB.out.cell (World.block_lt_of_cell? w _ hx215_6)).trans hx215_6
      replace hx215_7:=(HB.out.cell (World.block_lt_of_cell? w _ hx215_7)).trans hx215_7
      replace hx215_8:=(HB.out.cell (World.block_lt_of_cell? w _ hx215_8)).trans hx215_8
      replace p215:=eq_true p215
      replace q215:=eq_true q215
      refine start_ (n:=35) (S:=fun w' => w'.cell? (ad214.add ((t210).toNat * 9)) = some (.int .i64 ((rd_T33 t202 t210).f0)) ∧ w'.cell? ⟨(ad214.add ((t210).toNat * 9)).block,(ad214.add ((t210).toNat * 9)).off + 1,none⟩ = some (.int .i64 ((rd_T33 t202 t210).f1)) ∧ w'.cell? ⟨(ad214.add ((t210).toNat * 9)).block,(ad214.add ((t210).toNat * 9)).off + 2,none⟩ = some (.int .i64 ((rd_T33 t202 t210).f2)) ∧ w'.cell? ⟨(ad214.add ((t210).toNat * 9)).block,(ad214.add ((t210).toNat * 9)).off + 3,none⟩ = some (.int .i64 ((rd_T33 t202 t210).f3)) ∧ w'.cell? ⟨(ad214.add ((t210).toNat * 9)).block,(ad214.add ((t210).toNat * 9)).off + 4,none⟩ = some (.int .i64 ((rd_T33 t202 t210).f4)) ∧ w'.cell? ⟨(ad214.add ((t210).toNat * 9)).block,(ad214.add ((t210).toNat * 9)).off + 5,none⟩ = some (.int .i64 ((rd_T33 t202 t210).f5)) ∧ w'.cell? ⟨(ad214.add ((t210).toNat * 9)).block,(ad214.add ((t210).toNat * 9)).off + 6,none⟩ = some (.int .i64 ((rd_T33 t202 t210).f6)) ∧ w'.cell? ⟨(ad214.add ((t210).toNat * 9)).block,(ad214.add ((t210).toNat * 9)).off + 7,none⟩ = some (.int .i64 ((rd_T33 t202 t210).f7)) ∧ w'.cell? ⟨(ad214.add ((t210).toNat * 9)).block,(ad214.add ((t210).toNat * 9)).off + 8,none⟩ = some (.int .i64 ((rd_T33 t202 t210).f8)) ∧ w'.cell? (ad215.add ((a1).toNat * 9)) = some (.int .i64 ((rd_T33 l0 a1).f0)) ∧ w'.cell? ⟨(ad215.add ((a1).toNat * 9)).block,(ad215.add ((a1).toNat * 9)).off + 1,none⟩ = some (.int .i64 ((rd_T33 l0 a1).f1)) ∧ w'.cell? ⟨(ad215.add ((a1).toNat * 9)).block,(ad215.add ((a1).toNat * 9)).off + 2,none⟩ = some (.int .i64 ((rd_T33 l0 a1).f2)) ∧ w'.cell? ⟨(ad215.add ((a1).toNat * 9)).block,(ad215.add ((a1).toNat * 9)).off + 3,none⟩ = some (.int .i64 ((rd_T33 l0 a1).f3)) ∧ w'.cell? ⟨(ad215.add ((a1).toNat * 9)).block,(ad215.add ((a1).toNat * 9)).off + 4,none⟩ = some (.int .i64 ((rd_T33 l0 a1).f4)) ∧ w'.cell? ⟨(ad215.add ((a1).toNat * 9)).block,(ad215.add ((a1).toNat * 9)).off + 5,none⟩ = some (.int .i64 ((rd_T33 l0 a1).f5)) ∧ w'.cell? ⟨(ad215.add ((a1).toNat * 9)).block,(ad215.add ((a1).toNat * 9)).off + 6,none⟩ = some (.int .i64 ((rd_T33 l0 a1).f6)) ∧ w'.cell? ⟨(ad215.add ((a1).toNat * 9)).block,(ad215.add ((a1).toNat * 9)).off + 7,none⟩ = some (.int .i64 ((rd_T33 l0 a1).f7)) ∧ w'.cell? ⟨(ad215.add ((a1).toNat * 9)).block,(ad215.add ((a1).toNat * 9)).off + 8,none⟩ = some (.int .i64 ((rd_T33 l0 a1).f8))) (ds:=[]) #[false,false,false,false,false,false,false,false,false,false,false,false,false,false,false,false,false,false,false,false,false,false,false,false,false,false,false,false,false,false,false,false,false,false,false] (by kernel_rfl) rfl rfl ⟨hx214_0,hx214_1,hx214_2,hx214_3,hx214_4,hx214_5,hx214_6,hx214_7,hx214_8,((HB.out.cell (World.block_lt_of_cell? w _ hw215_0)).trans hw215_0),((HB.out.cell (World.block_lt_of_cell? w _ hw215_1)).trans hw215_1),((HB.out.cell (World.block_lt_of_cell? w _ hw215_2)).trans hw215_2),((HB.out.cell (World.block_lt_of_cell? w _ hw215_3)).trans hw215_3),((HB.out.cell (World.block_lt_of_cell? w _ hw215_4)).trans hw215_4),((HB.out.cell (World.block_lt_of_cell? w _ hw215_5)).trans hw215_5),((HB.out.cell (World.block_lt_of_cell? w _ hw215_6)).trans hw215_6),((HB.out.cell (World.block_lt_of_cell? w _ hw215_7)).trans hw215_7),((HB.out.cell (World.block_lt_of_cell? w _ hw215_8)).trans hw215_8)⟩ (fun hHeld => ?_);refine with_tabW hinterlandlaw15_OrderFollows.tab9 hinterlandlaw15_OrderFollows.bits9 (fun HT_ HW_ => ?_)
      generalize w48.drew = w49 at HO_11 BK199 BK200 HB hx214_0 hx214_1 hx214_2 hx214_3 hx214_4 hx214_5 hx214_6 hx214_7 hx214_8 hx215_0 hx215_1 hx215_2 hx215_3 hx215_4 hx215_5 hx215_6 hx215_7 hx215_8 hHeld ⊢
      refine pI 0 (some 68) ?_
      refine pI 1 (some 69) ?_
      refine pI 2 (some 70) ?_
      refine pI 3 (some 71) ?_
      refine pI 4 (some 72) ?_
      refine pI 5 (some 73) ?_
      refine pI 6 (some 74) ?_
      refine pI 7 (some 75) ?_
      refine pI 8 (some 76) ?_
      refine pI 9 (some 77) ?_
      refine pI 10 (some 78) ?_
      refine pI 11 (some 79) ?_
      refine pI 12 (some 80) ?_
      refine pI 13 (some 81) ?_
      refine pI 14 (some 82) ?_
      refine pI 15 (some 83) ?_
      refine pI 16 (some 84) ?_
      refine pI 17 (some 85) ?_
      refine pI 18 (some 86) ?_
      refine pI 19 (some 87) ?_
      refine pI 20 (some 88) ?_
      refine pI 21 (some 89) ?_
      refine pI 22 (some 90) ?_
      refine pI 23 (some 91) ?_
      refine pI 25 (some 93) ?_
      refine pI 26 (some 94) ?_
      refine pI 27 (some 95) ?_
      refine take_ (i:=24) (N:=some 92) (v:=?_) (a':=?_) #[true,true,true,true,true,true,true,true,true,true,true,true,true,true,true,true,true,true,true,true,true,true,true,true,true,true,true,true,false,false,false,false,false,false,false] rfl rfl (take_ofW HT_.out HW_.out (by kernel_rfl)) (fun _ _ _ h => h) (Or.inl ⟨by rfl,?_⟩) hHeld ?_ ?_
      rotate_left
      ·rintro w' ⟨s0,s1,s2,s3,s4,s5,s6,s7,s8,s9,s10,s11,s12,s13,s14,s15,s16,s17⟩
       go_simp
       with_reducible rfl
      rotate_left
      ·simp only [Act.put,List.setIfInBounds_toArray,List.set_cons_zero,List.set_cons_succ,i64_w,i32_w]
       rfl
      refine take_ (i:=28) (N:=some 96) (v:=?_) (a':=?_) #[true,true,true,true,true,true,true,true,true,true,true,true,true,true,true,true,true,true,true,true,true,true,true,true,true,true,true,true,true,false,false,false,false,false,false] rfl rfl (take_ofW HT_.out HW_.out (by kernel_rfl)) (fun _ _ _ h => h) (Or.inl ⟨by rfl,?_⟩) hHeld ?_ ?_
      rotate_left
      ·rintro w' ⟨s0,s1,s2,s3,s4,s5,s6,s7,s8,s9,s10,s11,s12,s13,s14,s15,s16,s17⟩
       go_simp
       with_reducible rfl
      rotate_left
      ·simp only [Act.put,List.setIfInBounds_toArray,List.set_cons_zero,List.set_cons_succ,i64_w,i32_w]
       rfl
      refine pI 29 (some 97) ?_
      refine pI 30 (some 98) ?_
      refine pI 31 (some 99) ?_
      refine pU 32 (some 100) ?_
      refine pI 33 (some 101) ?_
      refine pI 34 (some 10) ?_
      refine done_ (done_of HT_.out (by kernel_rfl)) ?_
      try go_wp2
      go_ret
      exact ⟨by first|rfl|(simp [errW_none,errW_some] <;> rfl)|(simp [*,errW_none,errW_some] <;> rfl),hb_⟩
     rw [if_pos c37] at H
     have c37b0 : (((rd_T33 t202 t210).f0) == ((rd_T33 l0 a1).f0) && (((rd_T33 t202 t210).f1) == ((rd_T33 l0 a1).f1) && (((rd_T33 t202 t210).f2) == ((rd_T33 l0 a1).f2) && (((rd_T33 t202 t210).f3) == ((rd_T33 l0 a1).f3) && (((rd_T33 t202 t210).f4) == ((rd_T33 l0 a1).f4) && (((rd_T33 t202 t210).f5) == ((rd_T33 l0 a1).f5) && (((rd_T33 t202 t210).f6) == ((rd_T33 l0 a1).f6) && (((rd_T33 t202 t210).f7) == ((rd_T33 l0 a1).f7) && (((rd_T33 t202 t210).f8) == ((rd_T33 l0 a1).f8)))))))))) = true:=c37
     (try (have c37b1 : decide (((rd_T33 t202 t210).f0) = ((rd_T33 l0 a1).f0) && (((rd_T33 t202 t210).f1) == ((rd_T33 l0 a1).f1) && (((rd_T33 t202 t210).f2) == ((rd_T33 l0 a1).f2) && (((rd_T33 t202 t210).f3) == ((rd_T33 l0 a1).f3) && (((rd_T33 t202 t210).f4) == ((rd_T33 l0 a1).f4) && (((rd_T33 t202 t210).f5) == ((rd_T33 l0 a1).f5) && (((rd_T33 t202 t210).f6) == ((rd_T33 l0 a1).f6) && (((rd_T33 t202 t210).f7) == ((rd_T33 l0 a1).f7) && (((rd_T33 t202 t210).f8) == ((rd_T33 l0 a1).f8)))))))))) = true:=by simpa using c37))
     (try (have c37b2 : (((rd_T33 t202 t210).f0) == ((rd_T33 l0 a1).f0) && (((rd_T33 t202 t210).f1) == ((rd_T33 l0 a1).f1) && (((rd_T33 t202 t210).f2) == ((rd_T33 l0 a1).f2) && (((rd_T33 t202 t210).f3) == ((rd_T33 l0 a1).f3) && (((rd_T33 t202 t210).f4) == ((rd_T33 l0 a1).f4) && (((rd_T33 t202 t210).f5) == ((rd_T33 l0 a1).f5) && (((rd_T33 t202 t210).f6) == ((rd_T33 l0 a1).f6) && (((rd_T33 t202 t210).f7) == ((rd_T33 l0 a1).f7) && (((rd_T33 t202 t210).f8) == ((rd_T33 l0 a1).f8)))))))))) = true:=by simpa using c37))
     clear c37
     replace H:=Option.bind_eq_some_iff.mp H
     obtain ⟨t216,A380,H⟩:=H
     replace H : (some t216) = some r:=H
     have A38:=Aside0.mk A380
     clear A380
     obtain rfl:=Option.some.inj H
     obtain ⟨Ao39,co39,eo39⟩:=Kd.R_slice HO_11.out
     subst eo39
     try go_wp2_with (first|((with_reducible refine gate_callee (f:=24) rfl ?_);refine goesL_ (some 59) rfl rfl Try.func24 (by kernel_rfl) rfl #[.int .i64 a1,.int .i64 a2,.bool true,.int .i64 (t202.length : Int)] rfl (by (try simp only [List.map_toArray,List.map_cons,List.map_nil]);first|done|rfl|(simp only [List.length_drop,List.length_take];rfl)) ?_;(with_reducible refine (order_Moved.calls kj12 a1 a2 true (t202.length : Int) t210 _ A27.out).mono ?_);rintro e w' ⟨rfl,⟨nd,rfl⟩⟩;refine ⟨_,rfl,?_⟩;have hnb40:=NB200_199.out;have hnc40:=NB199_200.out;obtain ⟨hcz41_0,hcz41_1,hcz41_2,hcz41_3,hfz41_0,hfz41_1,hfz41_2,hfz41_3⟩:=cells4 BK200.out)|((with_reducible refine gate_callee (f:=20) rfl ?_);refine goesL_ (some 64) rfl rfl Try.func20 (by kernel_rfl) rfl #[.slice Ao39 t202.length co39,.int .i64 t210,.agg #[.int .i64 a4_0,.int .i64 a4_1,.int .i64 a4_2,.int .i64 a4_3]] rfl (by (try simp only [List.map_toArray,List.map_cons,List.map_nil]);first|done|rfl|(simp only [List.length_drop,List.length_take];rfl)) ?_;(with_reducible refine (order_Next.calls kj12 _ _ t202 t210 a4_0 a4_1 a4_2 a4_3 t211 true t213 _ ?side1 ?side2 A28.out).mono ?_);(case side1 => exact Kd.C_up (Kd.R_reads' HO_11.out).2.2);(case side2 => exact (Kd.R_reads' HO_11.out).2.1);rintro e w42 ⟨rfl,hb⟩;refine ⟨_,rfl,?_⟩;replace HO_11:=rbw HO_11 hb;replace BK199:=bkb BK199 hb;replace BK200:=bkb BK200 hb;replace HB:=Aside0.mk (below_step (hb_) hb)))
     replace HO_11:=Aside0.mk (Kd.R_drew HO_11.out)
     replace BK199:=Aside0.mk (blk_drew BK199.out)
     replace BK200:=Aside0.mk (blk_drew BK200.out)
     replace HB:=Aside0.mk (below_drew1 HB.out)
     have p214 : 0 ≤ (t210 : Int):=of_decide_eq_true (by first|(with_reducible assumption)|assumption)
     have q214 : t210 < (t202.length : Int):=of_decide_eq_true (by first|(with_reducible assumption)|assumption)
     obtain ⟨ad214,e214,hx214_0,hx214_1,hx214_2,hx214_3,hx214_4,hx214_5,hx214_6,hx214_7,hx214_8⟩:=at_T33 (Kd.R_reads' HO_11.out).2.2 t210 p214 q214
     cases e214
     replace p214:=eq_true p214
     replace q214:=eq_true q214
     have p215 : 0 ≤ (a1 : Int):=of_decide_eq_true (by first|(with_reducible assumption)|assumption)
     have q215 : a1 < (l0.length : Int):=of_decide_eq_true (by first|(with_reducible assumption)|assumption)
     obtain ⟨ad215,e215,hx215_0,hx215_1,hx215_2,hx215_3,hx215_4,hx215_5,hx215_6,hx215_7,hx215_8⟩:=at_T33 HR0.out a1 p215 q215
     have hw215_8:=hx215_8
     have hw215_7:=hx215_7
     have hw215_6:=hx215_6
     have hw215_5:=hx215_5
     have hw215_4:=hx215_4
     have hw215_3:=hx215_3
     have hw215_2:=hx215_2
     have hw215_1:=hx215_1
     have hw215_0:=hx215_0
     cases e215
     replace hx215_0:=(HB.out.cell (World.block_lt_of_cell? w _ hx215_0)).trans hx215_0
     replace hx215_1:=(HB.out.cell (World.block_lt_of_cell? w _ hx215_1)).trans hx215_1
     replace hx215_2:=(HB.out.cell (World.block_lt_of_cell? w _ hx215_2)).trans hx215_2
     replace hx215_3:=(HB.out.cell (World.block_lt_of_cell? w _ hx215_3)).trans hx215_3
     replace hx215_4:=(HB.out.cell (World.block_lt_of_cell? w _ hx215_4)).trans hx215_4
     replace hx215_5:=(HB.out.cell (World.block_lt_of_cell? w _ hx215_5)).trans hx215_5
     replace hx215_6:=(HB.out.cell (World.block_lt_of_cell? w _ hx215_6)).trans hx215_6
     replace hx215_7:=(HB.out.cell (World.block_lt_of_cell? w _ hx215_7)).trans hx215_7
     replace hx215_8:=(HB.out.cell (World.block_lt_of_cell? w _ hx215_8)).trans hx215_8
     replace p215:=eq_true p215
     replace q215:=eq_true q215
     refine start_ (n:=35) (S:=fun w' => w'.cell? (ad214.add ((t210).toNat * 9)) = some (.int .i64 ((rd_T33 t202 t210).f0)) ∧ w'.cell? ⟨(ad214.add ((t210).toNat * 9)).block,(ad214.add ((t210).toNat * 9)).off + 1,none⟩ = some (.int .i64 ((rd_T33 t202 t210).f1)) ∧ w'.cell? ⟨(ad214.add ((t210).toNat * 9)).block,(ad214.add ((t210).toNat * 9)).off + 2,none⟩ = some (.int .i64 ((rd_T33 t202 t210).f2)) ∧ w'.cell? ⟨(ad214.add ((t210).toNat * 9)).block,(ad214.add ((t210).toNat * 9)).off + 3,none⟩ = some (.int .i64 ((rd_T33 t202 t210).f3)) ∧ w'.cell? ⟨(ad214.add ((t210).toNat * 9)).block,(ad214.add ((t210).toNat * 9)).off + 4,none⟩ = some (.int .i64 ((rd_T33 t202 t210).f4)) ∧ w'.cell? ⟨(ad214.add ((t210).toNat * 9)).block,(ad214.add ((t210).toNat * 9)).off + 5,none⟩ = some (.int .i64 ((rd_T33 t202 t210).f5)) ∧ w'.cell? ⟨(ad214.add ((t210).toNat * 9)).block,(ad214.add ((t210).toNat * 9)).off + 6,none⟩ = some (.int .i64 ((rd_T33 t202 t210).f6)) ∧ w'.cell? ⟨(ad214.add ((t210).toNat * 9)).block,(ad214.add ((t210).toNat * 9)).off + 7,none⟩ = some (.int .i64 ((rd_T33 t202 t210).f7)) ∧ w'.cell? ⟨(ad214.add ((t210).toNat * 9)).block,(ad214.add ((t210).toNat * 9)).off + 8,none⟩ = some (.int .i64 ((rd_T33 t202 t210).f8)) ∧ w'.cell? (ad215.add ((a1).toNat * 9)) = some (.int .i64 ((rd_T33 l0 a1).f0)) ∧ w'.cell? ⟨(ad215.add ((a1).toNat * 9)).block,(ad215.add ((a1).toNat * 9)).off + 1,none⟩ = some (.int .i64 ((rd_T33 l0 a1).f1)) ∧ w'.cell? ⟨(ad215.add ((a1).toNat * 9)).block,(ad215.add ((a1).toNat * 9)).off + 2,none⟩ = some (.int .i64 ((rd_T33 l0 a1).f2)) ∧ w'.cell? ⟨(ad215.add ((a1).toNat * 9)).block,(ad215.add ((a1).toNat * 9)).off + 3,none⟩ = some (.int .i64 ((rd_T33 l0 a1).f3)) ∧ w'.cell? ⟨(ad215.add ((a1).toNat * 9)).block,(ad215.add ((a1).toNat * 9)).off + 4,none⟩ = some (.int .i64 ((rd_T33 l0 a1).f4)) ∧ w'.cell? ⟨(ad215.add ((a1).toNat * 9)).block,(ad215.add ((a1).toNat * 9)).off + 5,none⟩ = some (.int .i64 ((rd_T33 l0 a1).f5)) ∧ w'.cell? ⟨(ad215.add ((a1).toNat * 9)).block,(ad215.add ((a1).toNat * 9)).off + 6,none⟩ = some (.int .i64 ((rd_T33 l0 a1).f6)) ∧ w'.cell? ⟨(ad215.add ((a1).toNat * 9)).block,(ad215.add ((a1).toNat * 9)).off + 7,none⟩ = some (.int .i64 ((rd_T33 l0 a1).f7)) ∧ w'.cell? ⟨(ad215.add ((a1).toNat * 9)).block,(ad215.add ((a1).toNat * 9)).off + 8,none⟩ = some (.int .i64 ((rd_T33 l0 a1).f8))) (ds:=[]) #[false,false,false,false,false,false,false,false,false,false,false,false,false,false,false,false,false,false,false,false,false,false,false,false,false,false,false,false,false,false,false,false,false,false,false] (by kernel_rfl) rfl rfl ⟨hx214_0,hx214_1,hx214_2,hx214_3,hx214_4,hx214_5,hx214_6,hx214_7,hx214_8,((HB.out.cell (World.block_lt_of_cell? w _ hw215_0)).trans hw215_0),((HB.out.cell (World.block_lt_of_cell? w _ hw215_1)).trans hw215_1),((HB.out.cell (World.block_lt_of_cell? w _ hw215_2)).trans hw215_2),((HB.out.cell (World.block_lt_of_cell? w _ hw215_3)).trans hw215_3),((HB.out.cell (World.block_lt_of_cell? w _ hw215_4)).trans hw215_4),((HB.out.cell (World.block_lt_of_cell? w _ hw215_5)).trans hw215_5),((HB.out.cell (World.block_lt_of_cell? w _ hw215_6)).trans hw215_6),((HB.out.cell (World.block_lt_of_cell? w _ hw215_7)).trans hw215_7),((HB.out.cell (World.block_lt_of_cell? w _ hw215_8)).trans hw215_8)⟩ (fun hHeld => ?_);refine with_tabW hinterlandlaw15_OrderFollows.tab9 hinterlandlaw15_OrderFollows.bits9 (fun HT_ HW_ => ?_)
     generalize w42.drew = w43 at HO_11 BK199 BK200 HB hx214_0 hx214_1 hx214_2 hx214_3 hx214_4 hx214_5 hx214_6 hx214_7 hx214_8 hx215_0 hx215_1 hx215_2 hx215_3 hx215_4 hx215_5 hx215_6 hx215_7 hx215_8 hHeld ⊢
     refine pI 0 (some 68) ?_
     refine pI 1 (some 69) ?_
     refine pI 2 (some 70) ?_
     refine pI 3 (some 71) ?_
     refine pI 4 (some 72) ?_
     refine pI 5 (some 73) ?_
     refine pI 6 (some 74) ?_
     refine pI 7 (some 75) ?_
     refine pI 8 (some 76) ?_
     refine pI 9 (some 77) ?_
     refine pI 10 (some 78) ?_
     refine pI 11 (some 79) ?_
     refine pI 12 (some 80) ?_
     refine pI 13 (some 81) ?_
     refine pI 14 (some 82) ?_
     refine pI 15 (some 83) ?_
     refine pI 16 (some 84) ?_
     refine pI 17 (some 85) ?_
     refine pI 18 (some 86) ?_
     refine pI 19 (some 87) ?_
     refine pI 20 (some 88) ?_
     refine pI 21 (some 89) ?_
     refine pI 22 (some 90) ?_
     refine pI 23 (some 91) ?_
     refine pI 25 (some 93) ?_
     refine pI 26 (some 94) ?_
     refine pI 27 (some 95) ?_
     refine take_ (i:=24) (N:=some 92) (v:=?_) (a':=?_) #[true,true,true,true,true,true,true,true,true,true,true,true,true,true,true,true,true,true,true,true,true,true,true,true,true,true,true,true,false,false,false,false,false,false,false] rfl rfl (take_ofW HT_.out HW_.out (by kernel_rfl)) (fun _ _ _ h => h) (Or.inl ⟨by rfl,?_⟩) hHeld ?_ ?_
     rotate_left
     ·rintro w' ⟨s0,s1,s2,s3,s4,s5,s6,s7,s8,s9,s10,s11,s12,s13,s14,s15,s16,s17⟩
      go_simp
      with_reducible rfl
     rotate_left
     ·simp only [Act.put,List.setIfInBounds_toArray,List.set_cons_zero,List.set_cons_succ,i64_w,i32_w]
      rfl
     refine take_ (i:=28) (N:=some 96) (v:=?_) (a':=?_) #[true,true,true,true,true,true,true,true,true,true,true,true,true,true,true,true,true,true,true,true,true,true,true,true,true,true,true,true,true,false,false,false,false,false,false] rfl rfl (take_ofW HT_.out HW_.out (by kernel_rfl)) (fun _ _ _ h => h) (Or.inl ⟨by rfl,?_⟩) hHeld ?_ ?_
     rotate_left
     ·rintro w' ⟨s0,s1,s2,s3,s4,s5,s6,s7,s8,s9,s10,s11,s12,s13,s14,s15,s16,s17⟩
      go_simp
      with_reducible rfl
     rotate_left
     ·simp only [Act.put,List.setIfInBounds_toArray,List.set_cons_zero,List.set_cons_succ,i64_w,i32_w]
      rfl
     refine pI 29 (some 97) ?_
     refine pI 30 (some 98) ?_
     refine pI 31 (some 99) ?_
     refine oI 32 (some 100) (fun K hK => ?_)
     refine goes_ Try.func16 (by kernel_rfl) rfl #[] (by rfl) rfl rfl (by (try simp only [List.map_toArray,List.map_cons,List.map_nil]);first|done|rfl|(simp only [List.length_drop,List.length_take];rfl)) ?_
     with_reducible refine (hinterlandlaw15_known.calls kj12  t216 _ A38.out).mono ?_
     rintro e w44 ⟨rfl,hb⟩
     have HS0_:=(hb.cell (World.block_lt_of_cell? _ _ (hHeld.1))).trans (hHeld.1)
     have HS1_:=(hb.cell (World.block_lt_of_cell? _ _ (hHeld.2.1))).trans (hHeld.2.1)
     have HS2_:=(hb.cell (World.block_lt_of_cell? _ _ (hHeld.2.2.1))).trans (hHeld.2.2.1)
     have HS3_:=(hb.cell (World.block_lt_of_cell? _ _ (hHeld.2.2.2.1))).trans (hHeld.2.2.2.1)
     have HS4_:=(hb.cell (World.block_lt_of_cell? _ _ (hHeld.2.2.2.2.1))).trans (hHeld.2.2.2.2.1)
     have HS5_:=(hb.cell (World.block_lt_of_cell? _ _ (hHeld.2.2.2.2.2.1))).trans (hHeld.2.2.2.2.2.1)
     have HS6_:=(hb.cell (World.block_lt_of_cell? _ _ (hHeld.2.2.2.2.2.2.1))).trans (hHeld.2.2.2.2.2.2.1)
     have HS7_:=(hb.cell (World.block_lt_of_cell? _ _ (hHeld.2.2.2.2.2.2.2.1))).trans (hHeld.2.2.2.2.2.2.2.1)
     have HS8_:=(hb.cell (World.block_lt_of_cell? _ _ (hHeld.2.2.2.2.2.2.2.2.1))).trans (hHeld.2.2.2.2.2.2.2.2.1)
     refine ⟨_,rfl,?_⟩
     have n0_:=rbw HO_11 hb
     have n1_:=bkb BK199 hb
     have n2_:=bkb BK200 hb
     have n3_:=Aside0.mk (below_step (hb_) hb)
     clear HO_11
     clear BK199
     clear BK200
     clear HB
     have HO_11:=n0_
     have BK199:=n1_
     have BK200:=n2_
     have HB:=n3_
     clear n0_ n1_ n2_ n3_
     (try clear hb)
     (try clear hb2)
     (try clear hk)
     (try clear hi)
     refine hK.out _ _ ⟨HS0_,HS1_,HS2_,HS3_,HS4_,HS5_,HS6_,HS7_,HS8_,((HB.out.cell (World.block_lt_of_cell? w _ hw215_0)).trans hw215_0),((HB.out.cell (World.block_lt_of_cell? w _ hw215_1)).trans hw215_1),((HB.out.cell (World.block_lt_of_cell? w _ hw215_2)).trans hw215_2),((HB.out.cell (World.block_lt_of_cell? w _ hw215_3)).trans hw215_3),((HB.out.cell (World.block_lt_of_cell? w _ hw215_4)).trans hw215_4),((HB.out.cell (World.block_lt_of_cell? w _ hw215_5)).trans hw215_5),((HB.out.cell (World.block_lt_of_cell? w _ hw215_6)).trans hw215_6),((HB.out.cell (World.block_lt_of_cell? w _ hw215_7)).trans hw215_7),((HB.out.cell (World.block_lt_of_cell? w _ hw215_8)).trans hw215_8)⟩ (fun hHeld => ?_)
     clear hK K
     refine norm_ (a':=?_) ?_ ?_
     rotate_left
     ·show Act.put _ (some 100) _ = _
      simp only [Act.put,List.setIfInBounds_toArray,List.set_cons_zero,List.set_cons_succ,i64_w,i32_w]
      rfl
     refine pI 33 (some 101) ?_
     refine pI 34 (some 10) ?_
     refine done_ (done_of HT_.out (by kernel_rfl)) ?_
     try go_wp2
     go_ret
     exact ⟨by first|rfl|(simp [errW_none,errW_some] <;> rfl)|(simp [*,errW_none,errW_some] <;> rfl),hb_⟩
    ·replace c30:=Bool.eq_false_iff.mpr c30
     subst c30
     have H1 : (some false) = some r:=by rw [if_neg (show ¬ (false = true) by decide)] at H;exact H
     clear H
     have H:=H1
     clear H1
     obtain rfl:=Option.some.inj H
     obtain ⟨Ao65,co65,eo65⟩:=Kd.R_slice HO_11.out
     subst eo65
     try go_wp2_with (first|((with_reducible refine gate_callee (f:=24) rfl ?_);refine goesL_ (some 59) rfl rfl Try.func24 (by kernel_rfl) rfl #[.int .i64 a1,.int .i64 a2,.bool true,.int .i64 (t202.length : Int)] rfl (by (try simp only [List.map_toArray,List.map_cons,List.map_nil]);first|done|rfl|(simp only [List.length_drop,List.length_take];rfl)) ?_;(with_reducible refine (order_Moved.calls kj12 a1 a2 true (t202.length : Int) t210 _ A27.out).mono ?_);rintro e w' ⟨rfl,⟨nd,rfl⟩⟩;refine ⟨_,rfl,?_⟩;have hnb66:=NB200_199.out;have hnc66:=NB199_200.out;obtain ⟨hcz67_0,hcz67_1,hcz67_2,hcz67_3,hfz67_0,hfz67_1,hfz67_2,hfz67_3⟩:=cells4 BK200.out)|((with_reducible refine gate_callee (f:=20) rfl ?_);refine goesL_ (some 64) rfl rfl Try.func20 (by kernel_rfl) rfl #[.slice Ao65 t202.length co65,.int .i64 t210,.agg #[.int .i64 a4_0,.int .i64 a4_1,.int .i64 a4_2,.int .i64 a4_3]] rfl (by (try simp only [List.map_toArray,List.map_cons,List.map_nil]);first|done|rfl|(simp only [List.length_drop,List.length_take];rfl)) ?_;(with_reducible refine (order_Next.calls kj12 _ _ t202 t210 a4_0 a4_1 a4_2 a4_3 t211 false t213 _ ?side1 ?side2 A28.out).mono ?_);(case side1 => exact Kd.C_up (Kd.R_reads' HO_11.out).2.2);(case side2 => exact (Kd.R_reads' HO_11.out).2.1);rintro e w68 ⟨rfl,hb⟩;refine ⟨_,rfl,?_⟩;replace HO_11:=rbw HO_11 hb;replace BK199:=bkb BK199 hb;replace BK200:=bkb BK200 hb;replace HB:=Aside0.mk (below_step (hb_) hb)))
     replace HO_11:=Aside0.mk (Kd.R_drew HO_11.out)
     replace BK199:=Aside0.mk (blk_drew BK199.out)
     replace BK200:=Aside0.mk (blk_drew BK200.out)
     replace HB:=Aside0.mk (below_drew1 HB.out)
     refine start_ (n:=35) (S:=fun w' => True) (ds:=[]) #[false,false,false,false,false,false,false,false,false,false,false,false,false,false,false,false,false,false,false,false,false,false,false,false,false,false,false,false,false,false,false,false,false,false,false] (by kernel_rfl) rfl rfl trivial (fun hHeld => ?_);refine with_tabW hinterlandlaw15_OrderFollows.tab9 hinterlandlaw15_OrderFollows.bits9 (fun HT_ HW_ => ?_)
     generalize w68.drew = w69 at HO_11 BK199 BK200 HB hHeld ⊢
     refine pI 0 (some 68) ?_
     refine pI 1 (some 69) ?_
     refine pI 2 (some 70) ?_
     refine pI 3 (some 71) ?_
     refine pI 4 (some 72) ?_
     refine pI 5 (some 73) ?_
     refine pU 6 (some 74) ?_
     refine pU 7 (some 75) ?_
     refine pU 8 (some 76) ?_
     refine pI 9 (some 77) ?_
     refine pI 10 (some 78) ?_
     refine pU 11 (some 79) ?_
     refine pU 12 (some 80) ?_
     refine pI 13 (some 81) ?_
     refine pI 14 (some 82) ?_
     refine pU 15 (some 83) ?_
     refine pU 16 (some 84) ?_
     refine pU 17 (some 85) ?_
     refine pU 18 (some 86) ?_
     refine pI 19 (some 87) ?_
     refine pI 20 (some 88) ?_
     refine pU 21 (some 89) ?_
     refine pU 22 (some 90) ?_
     refine pU 23 (some 91) ?_
     refine pU 24 (some 92) ?_
     refine pU 25 (some 93) ?_
     refine pU 26 (some 94) ?_
     refine pU 27 (some 95) ?_
     refine pU 28 (some 96) ?_
     refine pU 29 (some 97) ?_
     refine pI 30 (some 98) ?_
     refine pI 31 (some 99) ?_
     refine pU 32 (some 100) ?_
     refine pI 33 (some 101) ?_
     refine pI 34 (some 10) ?_
     refine done_ (done_of HT_.out (by kernel_rfl)) ?_
     try go_wp2
     go_ret
     exact ⟨by first|rfl|(simp [errW_none,errW_some] <;> rfl)|(simp [*,errW_none,errW_some] <;> rfl),hb_⟩

end Go.Proofs.Ythbjchicpebglaa.P
