/- Functions of this seat as plain Lean functions, with proofs that the Go code comes to just their answers, or what stands between them and a law's statement; no conditions. (Laid by a program of this session, out of the kit's print.) -/
import Derived.Test.YthbjchicpebglaaPx0
import Derived.Test.YthbjchicpebglaaPx6
import Derived.Test.YthbjchicpebglaaPx12
import Derived.Test.YthbjchicpebglaaPx14
namespace Go.Proofs.Ythbjchicpebglaa.P
open Go.RowKit Go.Proofs.YthbjchicpebglaaW.PrintWords Go.Proofs.YthbjchicpebglaaW.PrintLast Go.Proofs.YthbjchicpebglaaW.PrintMore
attribute [local go_sem] max2_int min2_int max_two min_two max_three min_three max_four min_four   -- for this text's walks alone
set_option linter.unusedVariables false
set_option linter.unusedSimpArgs false

/-! ### hinterlandlaw15_OrderDrops: function 11 -/
mutual
def hinterlandlaw15_OrderDrops.j0 : Nat → Int → List (S33) → Bool → Option (Bool)
 | 0,_,_,_ => none
 | k + 1,x1,x7,x34 => if x34 = true then (some false) else (hinterlandlaw15_OrderDrops.l0 k x1 x7 0)
def hinterlandlaw15_OrderDrops.l0 : Nat → Int → List (S33) → Int → Option (Bool)
 | 0,_,_,_ => none
 | k + 1,x1,x7,x9 => if x9 < (x7.length : Int) then (if 0 ≤ x9 then (if ((rd_T33 x7 x9).f0) = 0 then (if ((rd_T33 x7 x9).f1) = x1 then (some false) else (hinterlandlaw15_OrderDrops.l0 k x1 x7 (wrap64 (x9 + 1)))) else (hinterlandlaw15_OrderDrops.l0 k x1 x7 (wrap64 (x9 + 1)))) else (none)) else ((hinterlandlaw15_known.f k).bind fun t234 => (some t234))
end
def hinterlandlaw15_OrderDrops.f (k : Nat) (l0 : List (S33)) (a1 : Int) : Option (Bool) := if (l0.length : Int) > 300 then ((hinterlandlaw15_known.f k).bind fun t222 => (some t222)) else ((hinterlandref15_Drop.f k l0 a1).bind fun bt223 => ((order_Drop.f k l0 a1).bind fun bt227 => (if bt227.2 = bt223.2 then ((api_Order_30.f k bt227.1 bt223.1).bind fun t231 => (hinterlandlaw15_OrderDrops.j0 k a1 bt227.1 (!t231))) else (hinterlandlaw15_OrderDrops.j0 k a1 bt227.1 true))))
theorem hinterlandlaw15_OrderDrops.mono_l : ∀ k, (∀ y0 y1 y2, LeO (hinterlandlaw15_OrderDrops.j0 k y0 y1 y2) (hinterlandlaw15_OrderDrops.j0 (k + 1) y0 y1 y2)) ∧ (∀ y0 y1 y2, LeO (hinterlandlaw15_OrderDrops.l0 k y0 y1 y2) (hinterlandlaw15_OrderDrops.l0 (k + 1) y0 y1 y2))
 | 0 => ⟨fun _ _ _ r h => by simp [hinterlandlaw15_OrderDrops.j0] at h,fun _ _ _ r h => by simp [hinterlandlaw15_OrderDrops.l0] at h⟩
 | k + 1 => by
  obtain ⟨ih0,ih1⟩:=hinterlandlaw15_OrderDrops.mono_l k
  refine ⟨?_,?_⟩
  ·intro y0 y1 y2
   unfold hinterlandlaw15_OrderDrops.j0
   repeat' first
   | (with_reducible exact ih0 _ _ _)
   | (with_reducible exact ih1 _ _ _)
   | (with_reducible exact api_Order_30.mono _ _ _)
   | (with_reducible exact hinterlandlaw15_known.mono _)
   | (with_reducible exact hinterlandref15_Drop.mono _ _ _)
   | (with_reducible exact order_Drop.mono _ _ _)
   | (with_reducible exact LeO.refl _)
   | (with_reducible exact LeO.none _)
   | (with_reducible refine LeO.ite ?_ ?_)
   | (with_reducible refine LeO.bind ?_ (fun _ => ?_))
   | exact ih0 _ _ _
   | exact ih1 _ _ _
   | exact api_Order_30.mono _ _ _
   | exact hinterlandlaw15_known.mono _
   | exact hinterlandref15_Drop.mono _ _ _
   | exact order_Drop.mono _ _ _
   | exact LeO.none _
   | refine LeO.ite ?_ ?_
   | refine LeO.bind ?_ (fun _ => ?_)
  ·intro y0 y1 y2
   unfold hinterlandlaw15_OrderDrops.l0
   repeat' first
   | (with_reducible exact ih0 _ _ _)
   | (with_reducible exact ih1 _ _ _)
   | (with_reducible exact api_Order_30.mono _ _ _)
   | (with_reducible exact hinterlandlaw15_known.mono _)
   | (with_reducible exact hinterlandref15_Drop.mono _ _ _)
   | (with_reducible exact order_Drop.mono _ _ _)
   | (with_reducible exact LeO.refl _)
   | (with_reducible exact LeO.none _)
   | (with_reducible refine LeO.ite ?_ ?_)
   | (with_reducible refine LeO.bind ?_ (fun _ => ?_))
   | exact ih0 _ _ _
   | exact ih1 _ _ _
   | exact api_Order_30.mono _ _ _
   | exact hinterlandlaw15_known.mono _
   | exact hinterlandref15_Drop.mono _ _ _
   | exact order_Drop.mono _ _ _
   | exact LeO.none _
   | refine LeO.ite ?_ ?_
   | refine LeO.bind ?_ (fun _ => ?_)
theorem hinterlandlaw15_OrderDrops.mono : ∀ a0 a1 k, LeO (hinterlandlaw15_OrderDrops.f k a0 a1) (hinterlandlaw15_OrderDrops.f (k + 1) a0 a1) := by
 intro a0 a1 k
 obtain ⟨ih0,ih1⟩:=hinterlandlaw15_OrderDrops.mono_l k
 unfold hinterlandlaw15_OrderDrops.f
 repeat' first
   | (with_reducible exact ih0 _ _ _)
   | (with_reducible exact ih1 _ _ _)
   | (with_reducible exact api_Order_30.mono _ _ _)
   | (with_reducible exact hinterlandlaw15_known.mono _)
   | (with_reducible exact hinterlandref15_Drop.mono _ _ _)
   | (with_reducible exact order_Drop.mono _ _ _)
   | (with_reducible exact LeO.refl _)
   | (with_reducible exact LeO.none _)
   | (with_reducible refine LeO.ite ?_ ?_)
   | (with_reducible refine LeO.bind ?_ (fun _ => ?_))
   | exact ih0 _ _ _
   | exact ih1 _ _ _
   | exact api_Order_30.mono _ _ _
   | exact hinterlandlaw15_known.mono _
   | exact hinterlandref15_Drop.mono _ _ _
   | exact order_Drop.mono _ _ _
   | exact LeO.none _
   | refine LeO.ite ?_ ?_
   | refine LeO.bind ?_ (fun _ => ?_)
set_option maxHeartbeats 8000000 in
set_option maxRecDepth 100000 in
theorem hinterlandlaw15_OrderDrops.calls (k : Nat) (A0 : Option Addr) (c0 : Nat) (l0 : List (S33)) (a1 : Int) (r : Bool) (w : World) (hr0 : Kd.C k33 w A0 l0.length l0) (hc0 : l0.length ≤ c0) (h : hinterlandlaw15_OrderDrops.f k l0 a1 = some r) :
  Calls Try.prog 11 #[.slice A0 l0.length c0,.int .i64 a1] w fun e w' => e = .returned (.bool r) ∧ Below w.heap.size w w':=by
 have HR0:=Aside0.mk hr0
 have HC0:=Aside0.mk hc0
 clear hr0 hc0
 have HB:=Aside0.mk (Below.refl w.heap.size w)
 have H : (if (l0.length : Int) > 300 then ((hinterlandlaw15_known.f k).bind fun t222 => (some t222)) else ((hinterlandref15_Drop.f k l0 a1).bind fun bt223 => ((order_Drop.f k l0 a1).bind fun bt227 => (if bt227.2 = bt223.2 then ((api_Order_30.f k bt227.1 bt223.1).bind fun t231 => (hinterlandlaw15_OrderDrops.j0 k a1 bt227.1 (!t231))) else (hinterlandlaw15_OrderDrops.j0 k a1 bt227.1 true))))) = some r:=h
 clear h
 by_cases c3 : (l0.length : Int) > 300
 ·rw [if_pos c3] at H
  have c3b0 : decide (300 < (l0.length : Int)) = true:=decide_eq_true c3
  have c3b1 : decide (300 < l0.length) = true:=decide_eq_true (by omega)
  clear c3
  replace H:=Option.bind_eq_some_iff.mp H
  obtain ⟨t222,A40,H⟩:=H
  replace H : (some t222) = some r:=H
  have A4:=Aside0.mk A40
  clear A40
  obtain rfl:=Option.some.inj H
  go_enter Try.func11,Try.ntmps11
  go_wp2_with (first|((with_reducible refine gate_callee (f:=16) rfl ?_);refine goesL_ (some 13) rfl rfl Try.func16 (by kernel_rfl) rfl #[] rfl (by (try simp only [List.map_toArray,List.map_cons,List.map_nil]);first|done|rfl|(simp only [List.length_drop,List.length_take];rfl)) ?_;(with_reducible refine (hinterlandlaw15_known.calls k  t222 _ A4.out).mono ?_);rintro e w5 ⟨rfl,hb⟩;refine ⟨_,rfl,?_⟩;have n0_:=Aside0.mk (below_step (by repeat (first|(with_reducible first|exact HB.out|apply below_alloc|apply pw_below_drewN|apply below_drew1)|exact HB.out)) hb);clear HB;have HB:=n0_;clear n0_;(try clear hb);(try clear hb2);(try clear hk);(try clear hi)))
  go_ret
  exact ⟨by first|rfl|(simp [errW_none,errW_some] <;> rfl)|(simp [*,errW_none,errW_some] <;> rfl),by repeat (first|(with_reducible first|exact HB.out|apply below_alloc|apply pw_below_drewN|apply below_drew1)|exact HB.out)⟩
 ·rw [if_neg c3] at H
  have c3b0 : decide (300 < (l0.length : Int)) = false:=decide_eq_false c3
  have c3b1 : decide (300 < l0.length) = false:=decide_eq_false (by omega)
  clear c3
  replace H:=Option.bind_eq_some_iff.mp H
  obtain ⟨⟨t223,t224⟩,A60,H⟩:=H
  replace H : ((order_Drop.f k l0 a1).bind fun bt227 => (if bt227.2 = t224 then ((api_Order_30.f k bt227.1 t223).bind fun t231 => (hinterlandlaw15_OrderDrops.j0 k a1 bt227.1 (!t231))) else (hinterlandlaw15_OrderDrops.j0 k a1 bt227.1 true))) = some r:=H
  have A6:=Aside0.mk A60
  clear A60
  replace H:=Option.bind_eq_some_iff.mp H
  obtain ⟨⟨t227,t228⟩,A70,H⟩:=H
  replace H : (if t228 = t224 then ((api_Order_30.f k t227 t223).bind fun t231 => (hinterlandlaw15_OrderDrops.j0 k a1 t227 (!t231))) else (hinterlandlaw15_OrderDrops.j0 k a1 t227 true)) = some r:=H
  have A7:=Aside0.mk A70
  clear A70
  have HC8:=Aside0.mk H
  clear H
  go_enter Try.func11,Try.ntmps11
  go_upto_region 5 with (first|((with_reducible refine gate_callee (f:=33) rfl ?_);refine goesL_ (some 17) rfl rfl Try.func33 (by kernel_rfl) rfl #[.slice A0 l0.length c0,.int .i64 a1] rfl (by (try simp only [List.map_toArray,List.map_cons,List.map_nil]);first|done|rfl|(simp only [List.length_drop,List.length_take];rfl)) ?_;(with_reducible refine (hinterlandref15_Drop.calls k _ _ l0 a1 t223 t224 _ ?side1 ?side2 A6.out).mono ?_);(case side1 => repeat (first|exact HR0.out|(with_reducible refine Kd.C_alloc ?_ _)|(with_reducible refine Kd.C_drewN ?_ _)|(with_reducible refine Kd.C_drew ?_)));(case side2 => exact HC0.out);rintro e w9 ⟨v225,rfl,ho0,hb⟩;refine ⟨_,rfl,?_⟩;have n0_:=Aside0.mk (Kd.R_lower ho0 (below_size (by repeat (first|(with_reducible first|exact HB.out|apply below_alloc|apply pw_below_drewN|apply below_drew1)|exact HB.out))));have n1_:=Aside0.mk (below_step (by repeat (first|(with_reducible first|exact HB.out|apply below_alloc|apply pw_below_drewN|apply below_drew1)|exact HB.out)) hb);clear HB;have HO226:=n0_;have HB:=n1_;clear n0_ n1_;(try clear hb);(try clear hb2);(try clear hk);(try clear hi);(try clear ho0))|((with_reducible refine gate_callee (f:=34) rfl ?_);refine goesL_ (some 23) rfl rfl Try.func34 (by kernel_rfl) rfl #[.slice A0 l0.length c0,.int .i64 a1] rfl (by (try simp only [List.map_toArray,List.map_cons,List.map_nil]);first|done|rfl|(simp only [List.length_drop,List.length_take];rfl)) ?_;(with_reducible refine (order_Drop.calls k _ _ l0 a1 t227 t228 _ ?side1 ?side2 A7.out).mono ?_);(case side1 => repeat (first|exact (Kd.C_below HR0.out HB.out)|(with_reducible refine Kd.C_alloc ?_ _)|(with_reducible refine Kd.C_drewN ?_ _)|(with_reducible refine Kd.C_drew ?_)));(case side2 => exact HC0.out);rintro e w10 ⟨v229,rfl,ho0,hb⟩;refine ⟨_,rfl,?_⟩;have n0_:=Aside0.mk (Kd.R_elder' (by (with_reducible repeat (first|apply Kd.R_alloc|apply Kd.R_drewN|apply Kd.R_drew));exact HO226.out) (Kd.R_base ho0) hb);have n1_:=Aside0.mk (Kd.R_lower (Kd.R_new' ho0 (Kd.R_lt (by (with_reducible repeat (first|apply Kd.R_alloc|apply Kd.R_drewN|apply Kd.R_drew));exact HO226.out))) (below_size (by repeat (first|(with_reducible first|exact HB.out|apply below_alloc|apply pw_below_drewN|apply below_drew1)|exact HB.out))));have n2_:=Aside0.mk (below_step (by repeat (first|(with_reducible first|exact HB.out|apply below_alloc|apply pw_below_drewN|apply below_drew1)|exact HB.out)) hb);clear HO226;clear HB;have HO226:=n0_;have HO230:=n1_;have HB:=n2_;clear n0_ n1_ n2_;(try clear hb);(try clear hb2);(try clear hk);(try clear hi);(try clear ho0)))
  (try simp only [Act.put,List.setIfInBounds_toArray,List.set_cons_zero,List.set_cons_succ])
  go_cut [34] (fun v34 wc => ∃ (kq : Nat) (x34_7 : Bool),v34 = .bool x34_7 ∧ Aside0 (hinterlandlaw15_OrderDrops.j0 kq a1 t227 x34_7 = some r) ∧ Aside0 (kq ≤ k) ∧ Aside0 (Kd.R k33 33 wc w.heap.size (fun _ => True) v229 t227) ∧ Aside0 (Below w.heap.size w wc))
  case first =>
   have H:=HC8.out
   clear HC8
   by_cases c11 : t228 = t224
   ·rw [if_pos c11] at H
    have c11b0 : (t228 == t224) = true:=beq_iff_eq.mpr c11
    have c11b1 : (t228 != t224) = false:=bne_eq_false_iff_eq.mpr c11
    clear c11
    (first|rw [c11b0]|(simp only [i64_w,i32_w];rw [c11b0])|skip)
    replace H:=Option.bind_eq_some_iff.mp H
    obtain ⟨t231,A120,H⟩:=H
    replace H : (hinterlandlaw15_OrderDrops.j0 k a1 t227 (!t231)) = some r:=H
    have A12:=Aside0.mk A120
    clear A120
    have H':=Aside0.mk H
    clear H
    obtain ⟨Ao13,co13,eo13⟩:=Kd.R_slice HO230.out
    subst eo13
    obtain ⟨Ao14,co14,eo14⟩:=Kd.R_slice HO226.out
    subst eo14
    go_wp2_with (first|(go_at_call 30;(with_reducible refine (api_Order_30.calls k _ _ t227 _ _ t223 t231 _ ?side1 ?side2 ?side3 ?side4 A12.out).mono ?_);(case side1 => repeat (first|exact (Kd.R_reads' HO230.out).2.2|(with_reducible refine Kd.C_alloc ?_ _)|(with_reducible refine Kd.C_drewN ?_ _)|(with_reducible refine Kd.C_drew ?_)));(case side2 => exact (Kd.R_reads' HO230.out).2.1);(case side3 => repeat (first|exact (Kd.R_reads' HO226.out).2.2|(with_reducible refine Kd.C_alloc ?_ _)|(with_reducible refine Kd.C_drewN ?_ _)|(with_reducible refine Kd.C_drew ?_)));(case side4 => exact (Kd.R_reads' HO226.out).2.1);rintro e w' ⟨rfl,⟨nd,rfl⟩⟩))
    go_meet
    case rel => exact ⟨_,(!t231),(by first|rfl|(simp;done)|(simp [*];done)),H',⟨by first|omega|exact Nat.le_refl _⟩,⟨by (with_reducible repeat (first|apply Kd.R_alloc|apply Kd.R_drewN|apply Kd.R_drew));exact Kd.R_mono HO230.out (fun _ hk => trivial)⟩,⟨by repeat (first|(with_reducible first|exact HB.out|apply below_alloc|apply pw_below_drewN|apply below_drew1)|exact HB.out)⟩⟩
   ·rw [if_neg c11] at H
    have c11b0 : (t228 == t224) = false:=beq_eq_false_iff_ne.mpr c11
    have c11b1 : (t228 != t224) = true:=bne_iff_ne.mpr c11
    (first|rw [c11b0]|(simp only [i64_w,i32_w];rw [c11b0])|skip)
    have H':=Aside0.mk H
    clear H
    go_wp2
    go_meet
    case rel => exact ⟨_,(true),(by first|rfl|(simp;done)|(simp [*];done)),H',⟨by first|omega|exact Nat.le_refl _⟩,⟨by (with_reducible repeat (first|apply Kd.R_alloc|apply Kd.R_drewN|apply Kd.R_drew));exact Kd.R_mono HO230.out (fun _ hk => trivial)⟩,⟨by repeat (first|(with_reducible first|exact HB.out|apply below_alloc|apply pw_below_drewN|apply below_drew1)|exact HB.out)⟩⟩
  case rest =>
   clear HC8
   try clear c1
   try clear p2
   try clear c3
   try clear c3b0
   try clear c3b1
   try clear c11
   try clear c11b0
   try clear c11b1
   obtain ⟨kq,x34_7,rfl,HA,HJ7,HO_7,HB⟩:=hcut
   cases kq with
   | zero => exact absurd HA.out (by simp [hinterlandlaw15_OrderDrops.j0])
   | succ kj7 =>
    have H:=HA.out
    clear HA
    simp only [hinterlandlaw15_OrderDrops.j0] at H
    by_cases c15 : x34_7 = true
    ·subst c15
     have H1 : (some false) = some r:=by rw [if_pos rfl] at H;exact H
     clear H
     have H:=H1
     clear H1
     obtain rfl:=Option.some.inj H
     go_wp2
     go_ret
     exact ⟨by first|rfl|(simp [errW_none,errW_some] <;> rfl)|(simp [*,errW_none,errW_some] <;> rfl),by repeat (first|(with_reducible first|exact HB.out|apply below_alloc|apply pw_below_drewN|apply below_drew1)|exact HB.out)⟩
    ·replace c15:=Bool.eq_false_iff.mpr c15
     subst c15
     have H1 : (hinterlandlaw15_OrderDrops.l0 kj7 a1 t227 0) = some r:=by rw [if_neg (show ¬ (false = true) by decide)] at H;exact H
     clear H
     have H:=H1
     clear H1
     have H':=Aside0.mk H
     clear H
     go_wp2
     go_loopg [9] kj7 (fun kq v9 w' => ∃ (x9_2 : Int),v9 = .int .i64 x9_2 ∧ Aside0 (hinterlandlaw15_OrderDrops.l0 kq a1 t227 x9_2 = some r) ∧ Aside0 (kq ≤ kj7) ∧ Aside0 (Kd.R k33 33 w' w.heap.size (fun _ => True) v229 t227) ∧ Aside0 (Below w.heap.size w w'))
     case atStart => exact ⟨(0),(by first|rfl|(simp;done)|(simp [*];done)),H',⟨Nat.le_refl _⟩,⟨by (with_reducible repeat (first|apply Kd.R_alloc|apply Kd.R_drewN|apply Kd.R_drew));exact HO_7.out⟩,⟨by repeat (first|(with_reducible first|exact HB.out|apply below_alloc|apply pw_below_drewN|apply below_drew1)|exact HB.out)⟩⟩
     case round =>
      clear H'
      try clear c1
      try clear p2
      try clear c3
      try clear c3b0
      try clear c3b1
      try clear c11
      try clear c11b0
      try clear c11b1
      try clear c15
      try clear p2
      obtain ⟨x9_2,rfl,HA,HK2,HO_7,HB⟩:=hrel
      cases gk with
      | zero => exact absurd HA.out (by simp [hinterlandlaw15_OrderDrops.l0])
      | succ k2 =>
       have H:=HA.out
       clear HA
       simp only [hinterlandlaw15_OrderDrops.l0] at H
       by_cases c16 : x9_2 < (t227.length : Int)
       ·rw [if_pos c16] at H
        have c16b0 : decide (x9_2 < (t227.length : Int)) = true:=decide_eq_true c16
        clear c16
        by_cases c17 : 0 ≤ x9_2
        ·rw [if_pos c17] at H
         have c17b0 : decide (0 ≤ x9_2) = true:=decide_eq_true c17
         clear c17
         by_cases c18 : ((rd_T33 t227 x9_2).f0) = 0
         ·rw [if_pos c18] at H
          have c18b0 : (((rd_T33 t227 x9_2).f0) == 0) = true:=beq_iff_eq.mpr c18
          have c18b1 : (((rd_T33 t227 x9_2).f0) != 0) = false:=bne_eq_false_iff_eq.mpr c18
          clear c18
          by_cases c19 : ((rd_T33 t227 x9_2).f1) = a1
          ·rw [if_pos c19] at H
           have c19b0 : (((rd_T33 t227 x9_2).f1) == a1) = true:=beq_iff_eq.mpr c19
           have c19b1 : (((rd_T33 t227 x9_2).f1) != a1) = false:=bne_eq_false_iff_eq.mpr c19
           clear c19
           obtain rfl:=Option.some.inj H
           obtain ⟨Ao20,co20,eo20⟩:=Kd.R_slice HO_7.out
           subst eo20
           have p232 : 0 ≤ (x9_2 : Int):=of_decide_eq_true (by first|(with_reducible assumption)|assumption)
           have q232 : x9_2 < (t227.length : Int):=of_decide_eq_true (by first|(with_reducible assumption)|assumption)
           obtain ⟨ad232,e232,hx232_0,hx232_1,hx232_2,hx232_3,hx232_4,hx232_5,hx232_6,hx232_7,hx232_8⟩:=at_T33 (Kd.R_reads' HO_7.out).2.2 x9_2 p232 q232
           cases e232
           replace p232:=eq_true p232
           replace q232:=eq_true q232
           have p233 : 0 ≤ (x9_2 : Int):=of_decide_eq_true (by first|(with_reducible assumption)|assumption)
           have q233 : x9_2 < (t227.length : Int):=of_decide_eq_true (by first|(with_reducible assumption)|assumption)
           obtain ⟨ad233,e233,hx233_0,hx233_1,hx233_2,hx233_3,hx233_4,hx233_5,hx233_6,hx233_7,hx233_8⟩:=at_T33 (Kd.R_reads' HO_7.out).2.2 x9_2 p233 q233
           obtain rfl : ad232 = ad233:=(by injection e233)
           replace p233:=eq_true p233
           replace q233:=eq_true q233
           go_wp2
           go_ret
           exact ⟨by first|rfl|(simp [errW_none,errW_some] <;> rfl)|(simp [*,errW_none,errW_some] <;> rfl),by repeat (first|(with_reducible first|exact HB.out|apply below_alloc|apply pw_below_drewN|apply below_drew1)|exact HB.out)⟩
          ·rw [if_neg c19] at H
           have c19b0 : (((rd_T33 t227 x9_2).f1) == a1) = false:=beq_eq_false_iff_ne.mpr c19
           have c19b1 : (((rd_T33 t227 x9_2).f1) != a1) = true:=bne_iff_ne.mpr c19
           have H':=Aside0.mk H
           clear H
           obtain ⟨Ao21,co21,eo21⟩:=Kd.R_slice HO_7.out
           subst eo21
           have p232 : 0 ≤ (x9_2 : Int):=of_decide_eq_true (by first|(with_reducible assumption)|assumption)
           have q232 : x9_2 < (t227.length : Int):=of_decide_eq_true (by first|(with_reducible assumption)|assumption)
           obtain ⟨ad232,e232,hx232_0,hx232_1,hx232_2,hx232_3,hx232_4,hx232_5,hx232_6,hx232_7,hx232_8⟩:=at_T33 (Kd.R_reads' HO_7.out).2.2 x9_2 p232 q232
           cases e232
           replace p232:=eq_true p232
           replace q232:=eq_true q232
           have p233 : 0 ≤ (x9_2 : Int):=of_decide_eq_true (by first|(with_reducible assumption)|assumption)
           have q233 : x9_2 < (t227.length : Int):=of_decide_eq_true (by first|(with_reducible assumption)|assumption)
           obtain ⟨ad233,e233,hx233_0,hx233_1,hx233_2,hx233_3,hx233_4,hx233_5,hx233_6,hx233_7,hx233_8⟩:=at_T33 (Kd.R_reads' HO_7.out).2.2 x9_2 p233 q233
           obtain rfl : ad232 = ad233:=(by injection e233)
           replace p233:=eq_true p233
           replace q233:=eq_true q233
           go_wp2
           go_roundg k2
           case measure => have:=HJ7.out;have:=HK2.out;omega
           case rel => exact ⟨(wrap64 (x9_2 + 1)),(by first|rfl|(simp;done)|(simp [*];done)),H',⟨by have:=HJ7.out;have:=HK2.out;omega⟩,⟨by (with_reducible repeat (first|apply Kd.R_alloc|apply Kd.R_drewN|apply Kd.R_drew));exact HO_7.out⟩,⟨by repeat (first|(with_reducible first|exact HB.out|apply below_alloc|apply pw_below_drewN|apply below_drew1)|exact HB.out)⟩⟩
         ·rw [if_neg c18] at H
          have c18b0 : (((rd_T33 t227 x9_2).f0) == 0) = false:=beq_eq_false_iff_ne.mpr c18
          have c18b1 : (((rd_T33 t227 x9_2).f0) != 0) = true:=bne_iff_ne.mpr c18
          have H':=Aside0.mk H
          clear H
          obtain ⟨Ao22,co22,eo22⟩:=Kd.R_slice HO_7.out
          subst eo22
          have p232 : 0 ≤ (x9_2 : Int):=of_decide_eq_true (by first|(with_reducible assumption)|assumption)
          have q232 : x9_2 < (t227.length : Int):=of_decide_eq_true (by first|(with_reducible assumption)|assumption)
          obtain ⟨ad232,e232,hx232_0,hx232_1,hx232_2,hx232_3,hx232_4,hx232_5,hx232_6,hx232_7,hx232_8⟩:=at_T33 (Kd.R_reads' HO_7.out).2.2 x9_2 p232 q232
          cases e232
          replace p232:=eq_true p232
          replace q232:=eq_true q232
          go_wp2
          go_roundg k2
          case measure => have:=HJ7.out;have:=HK2.out;omega
          case rel => exact ⟨(wrap64 (x9_2 + 1)),(by first|rfl|(simp;done)|(simp [*];done)),H',⟨by have:=HJ7.out;have:=HK2.out;omega⟩,⟨by (with_reducible repeat (first|apply Kd.R_alloc|apply Kd.R_drewN|apply Kd.R_drew));exact HO_7.out⟩,⟨by repeat (first|(with_reducible first|exact HB.out|apply below_alloc|apply pw_below_drewN|apply below_drew1)|exact HB.out)⟩⟩
        ·rw [if_neg c17] at H
         exact absurd H (by simp)
       ·rw [if_neg c16] at H
        have c16b0 : decide (x9_2 < (t227.length : Int)) = false:=decide_eq_false c16
        clear c16
        replace H:=Option.bind_eq_some_iff.mp H
        obtain ⟨t234,A230,H⟩:=H
        replace H : (some t234) = some r:=H
        have A23:=Aside0.mk A230
        clear A230
        obtain rfl:=Option.some.inj H
        obtain ⟨Ao24,co24,eo24⟩:=Kd.R_slice HO_7.out
        subst eo24
        go_wp2_with (first|((with_reducible refine gate_callee (f:=16) rfl ?_);refine goesL_ (some 56) rfl rfl Try.func16 (by kernel_rfl) rfl #[] rfl (by (try simp only [List.map_toArray,List.map_cons,List.map_nil]);first|done|rfl|(simp only [List.length_drop,List.length_take];rfl)) ?_;(with_reducible refine (hinterlandlaw15_known.calls k2  t234 _ A23.out).mono ?_);rintro e w25 ⟨rfl,hb⟩;refine ⟨_,rfl,?_⟩;have n0_:=Aside0.mk (Kd.R_below (by (with_reducible repeat (first|apply Kd.R_alloc|apply Kd.R_drewN|apply Kd.R_drew));exact HO_7.out) hb);have n1_:=Aside0.mk (below_step (by repeat (first|(with_reducible first|exact HB.out|apply below_alloc|apply pw_below_drewN|apply below_drew1)|exact HB.out)) hb);clear HO_7;clear HB;have HO_7:=n0_;have HB:=n1_;clear n0_ n1_;(try clear hb);(try clear hb2);(try clear hk);(try clear hi)))
        go_ret
        exact ⟨by first|rfl|(simp [errW_none,errW_some] <;> rfl)|(simp [*,errW_none,errW_some] <;> rfl),by repeat (first|(with_reducible first|exact HB.out|apply below_alloc|apply pw_below_drewN|apply below_drew1)|exact HB.out)⟩

end Go.Proofs.Ythbjchicpebglaa.P
