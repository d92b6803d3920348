/- Functions of this seat as plain Lean functions, with proofs that the Go code comes to just their answers, or what stands between them and a law's statement; no conditions. (Laid by a program of this session, out of the kit's print.) -/
import Derived.Test.YthbjchicpebglaaPx0
import Derived.Test.YthbjchicpebglaaPx7
namespace Go.Proofs.Ythbjchicpebglaa.P
open Go.RowKit Go.Proofs.YthbjchicpebglaaW.PrintWords Go.Proofs.YthbjchicpebglaaW.PrintLast Go.Proofs.YthbjchicpebglaaW.PrintMore
attribute [local go_sem] max2_int min2_int max_two min_two max_three min_three max_four min_four   -- for this text's walks alone
set_option linter.unusedVariables false
set_option linter.unusedSimpArgs false

/-! ### hinterlandref15_Validate: function 17 -/
mutual
def hinterlandref15_Validate.l0 : Nat → List (S33) → Int → Option (Int)
 | 0,_,_ => none
 | k + 1,x0,x3 => if x3 < (x0.length : Int) then (if 0 ≤ x3 then ((hinterlandref15_bad.f k ((rd_T33 x0 x3).f0) ((rd_T33 x0 x3).f1) ((rd_T33 x0 x3).f2) ((rd_T33 x0 x3).f3) ((rd_T33 x0 x3).f4) ((rd_T33 x0 x3).f5) ((rd_T33 x0 x3).f6) ((rd_T33 x0 x3).f7) ((rd_T33 x0 x3).f8)).bind fun t148 => (if t148 = true then (some 1) else (hinterlandref15_Validate.l0 k x0 (wrap64 (x3 + 1))))) else (none)) else (hinterlandref15_Validate.l1 k x0 0)
def hinterlandref15_Validate.l1 : Nat → List (S33) → Int → Option (Int)
 | 0,_,_ => none
 | k + 1,x0,x4 => if x4 < (x0.length : Int) then (if 0 ≤ x4 then (if ((rd_T33 x0 x4).f6) < 0 then (some 2) else (if ((rd_T33 x0 x4).f6) ≥ (x0.length : Int) then (some 2) else (hinterlandref15_Validate.l1 k x0 (wrap64 (x4 + 1))))) else (none)) else (some 0)
end
def hinterlandref15_Validate.f (k : Nat) (l0 : List (S33)) : Option (Int) := if (l0.length : Int) > 40 then (some 4) else (hinterlandref15_Validate.l0 k l0 0)
theorem hinterlandref15_Validate.mono_l : ∀ k, (∀ y0 y1, LeO (hinterlandref15_Validate.l0 k y0 y1) (hinterlandref15_Validate.l0 (k + 1) y0 y1)) ∧ (∀ y0 y1, LeO (hinterlandref15_Validate.l1 k y0 y1) (hinterlandref15_Validate.l1 (k + 1) y0 y1))
 | 0 => ⟨fun _ _ r h => by simp [hinterlandref15_Validate.l0] at h,fun _ _ r h => by simp [hinterlandref15_Validate.l1] at h⟩
 | k + 1 => by
  obtain ⟨ih0,ih1⟩:=hinterlandref15_Validate.mono_l k
  refine ⟨?_,?_⟩
  ·intro y0 y1
   unfold hinterlandref15_Validate.l0
   repeat' first
   | (with_reducible exact ih0 _ _)
   | (with_reducible exact ih1 _ _)
   | (with_reducible exact hinterlandref15_bad.mono _ _ _ _ _ _ _ _ _ _)
   | (with_reducible exact LeO.refl _)
   | (with_reducible exact LeO.none _)
   | (with_reducible refine LeO.ite ?_ ?_)
   | (with_reducible refine LeO.bind ?_ (fun _ => ?_))
   | exact ih0 _ _
   | exact ih1 _ _
   | exact hinterlandref15_bad.mono _ _ _ _ _ _ _ _ _ _
   | exact LeO.none _
   | refine LeO.ite ?_ ?_
   | refine LeO.bind ?_ (fun _ => ?_)
  ·intro y0 y1
   unfold hinterlandref15_Validate.l1
   repeat' first
   | (with_reducible exact ih0 _ _)
   | (with_reducible exact ih1 _ _)
   | (with_reducible exact hinterlandref15_bad.mono _ _ _ _ _ _ _ _ _ _)
   | (with_reducible exact LeO.refl _)
   | (with_reducible exact LeO.none _)
   | (with_reducible refine LeO.ite ?_ ?_)
   | (with_reducible refine LeO.bind ?_ (fun _ => ?_))
   | exact ih0 _ _
   | exact ih1 _ _
   | exact hinterlandref15_bad.mono _ _ _ _ _ _ _ _ _ _
   | exact LeO.none _
   | refine LeO.ite ?_ ?_
   | refine LeO.bind ?_ (fun _ => ?_)
theorem hinterlandref15_Validate.mono : ∀ a0 k, LeO (hinterlandref15_Validate.f k a0) (hinterlandref15_Validate.f (k + 1) a0) := by
 intro a0 k
 obtain ⟨ih0,ih1⟩:=hinterlandref15_Validate.mono_l k
 unfold hinterlandref15_Validate.f
 repeat' first
   | (with_reducible exact ih0 _ _)
   | (with_reducible exact ih1 _ _)
   | (with_reducible exact hinterlandref15_bad.mono _ _ _ _ _ _ _ _ _ _)
   | (with_reducible exact LeO.refl _)
   | (with_reducible exact LeO.none _)
   | (with_reducible refine LeO.ite ?_ ?_)
   | (with_reducible refine LeO.bind ?_ (fun _ => ?_))
   | exact ih0 _ _
   | exact ih1 _ _
   | exact hinterlandref15_bad.mono _ _ _ _ _ _ _ _ _ _
   | exact LeO.none _
   | refine LeO.ite ?_ ?_
   | refine LeO.bind ?_ (fun _ => ?_)
set_option maxHeartbeats 8000000 in
set_option maxRecDepth 100000 in
theorem hinterlandref15_Validate.calls (k : Nat) (A0 : Option Addr) (c0 : Nat) (l0 : List (S33)) (r : Int) (w : World) (hr0 : Kd.C k33 w A0 l0.length l0) (hc0 : l0.length ≤ c0) (h : hinterlandref15_Validate.f k l0 = some r) :
  Calls Try.prog 17 #[.slice A0 l0.length c0] w fun e w' => e = .returned (.int .i64 r) ∧ Below w.heap.size w w':=by
 have hu33:=Try.underlying33
 have HR0:=Aside0.mk hr0
 have HC0:=Aside0.mk hc0
 clear hr0 hc0
 have HB:=Aside0.mk (Below.refl w.heap.size w)
 have H : (if (l0.length : Int) > 40 then (some 4) else (hinterlandref15_Validate.l0 k l0 0)) = some r:=h
 clear h
 by_cases c2 : (l0.length : Int) > 40
 ·rw [if_pos c2] at H
  have c2b0 : decide (40 < (l0.length : Int)) = true:=decide_eq_true c2
  have c2b1 : decide (40 < l0.length) = true:=decide_eq_true (by omega)
  clear c2
  obtain rfl:=Option.some.inj H
  go_enter Try.func17,Try.ntmps17
  go_wp2
  go_ret
  exact ⟨by first|rfl|(simp [errW_none,errW_some] <;> rfl)|(simp [*,errW_none,errW_some] <;> rfl),by repeat (first|(with_reducible first|exact HB.out|apply below_alloc|apply pw_below_drewN|apply below_drew1)|exact HB.out)⟩
 ·rw [if_neg c2] at H
  have c2b0 : decide (40 < (l0.length : Int)) = false:=decide_eq_false c2
  have c2b1 : decide (40 < l0.length) = false:=decide_eq_false (by omega)
  clear c2
  have H':=Aside0.mk H
  clear H
  go_enter Try.func17,Try.ntmps17
  go_wp2
  go_loopg [3] k (fun kq v3 w' => ∃ (x3_1 : Int),v3 = .int .i64 x3_1 ∧ Aside0 (hinterlandref15_Validate.l0 kq l0 x3_1 = some r) ∧ Aside0 (kq ≤ k) ∧ Aside0 (Below w.heap.size w w'))
  case atStart => exact ⟨(0),(by first|rfl|(simp;done)|(simp [*];done)),H',⟨Nat.le_refl _⟩,⟨by repeat (first|(with_reducible first|exact HB.out|apply below_alloc|apply pw_below_drewN|apply below_drew1)|exact HB.out)⟩⟩
  case round =>
   clear H'
   try clear c1
   try clear c2
   try clear c2b0
   try clear c2b1
   try clear p2
   obtain ⟨x3_1,rfl,HA,HK1,HB⟩:=hrel
   cases gk with
   | zero => exact absurd HA.out (by simp [hinterlandref15_Validate.l0])
   | succ k1 =>
    have H:=HA.out
    clear HA
    simp only [hinterlandref15_Validate.l0] at H
    by_cases c3 : x3_1 < (l0.length : Int)
    ·rw [if_pos c3] at H
     have c3b0 : decide (x3_1 < (l0.length : Int)) = true:=decide_eq_true c3
     clear c3
     by_cases c4 : 0 ≤ x3_1
     ·rw [if_pos c4] at H
      have c4b0 : decide (0 ≤ x3_1) = true:=decide_eq_true c4
      clear c4
      replace H:=Option.bind_eq_some_iff.mp H
      obtain ⟨t148,A50,H⟩:=H
      replace H : (if t148 = true then (some 1) else (hinterlandref15_Validate.l0 k1 l0 (wrap64 (x3_1 + 1)))) = some r:=H
      have A5:=Aside0.mk A50
      clear A50
      by_cases c6 : t148 = true
      ·subst c6
       have H1 : (some 1) = some r:=by rw [if_pos rfl] at H;exact H
       clear H
       have H:=H1
       clear H1
       obtain rfl:=Option.some.inj H
       have p147 : 0 ≤ (x3_1 : Int):=of_decide_eq_true (by first|(with_reducible assumption)|assumption)
       have q147 : x3_1 < (l0.length : Int):=of_decide_eq_true (by first|(with_reducible assumption)|assumption)
       obtain ⟨ad147,e147,hx147_0,hx147_1,hx147_2,hx147_3,hx147_4,hx147_5,hx147_6,hx147_7,hx147_8⟩:=at_T33 HR0.out x3_1 p147 q147
       cases e147
       replace hx147_0:=(HB.out.cell (World.block_lt_of_cell? w _ hx147_0)).trans hx147_0
       replace hx147_1:=(HB.out.cell (World.block_lt_of_cell? w _ hx147_1)).trans hx147_1
       replace hx147_2:=(HB.out.cell (World.block_lt_of_cell? w _ hx147_2)).trans hx147_2
       replace hx147_3:=(HB.out.cell (World.block_lt_of_cell? w _ hx147_3)).trans hx147_3
       replace hx147_4:=(HB.out.cell (World.block_lt_of_cell? w _ hx147_4)).trans hx147_4
       replace hx147_5:=(HB.out.cell (World.block_lt_of_cell? w _ hx147_5)).trans hx147_5
       replace hx147_6:=(HB.out.cell (World.block_lt_of_cell? w _ hx147_6)).trans hx147_6
       replace hx147_7:=(HB.out.cell (World.block_lt_of_cell? w _ hx147_7)).trans hx147_7
       replace hx147_8:=(HB.out.cell (World.block_lt_of_cell? w _ hx147_8)).trans hx147_8
       replace p147:=eq_true p147
       replace q147:=eq_true q147
       go_wp2_with (first|((with_reducible refine gate_callee (f:=37) rfl ?_);refine goesL_ (some 18) rfl rfl Try.func37 (by kernel_rfl) rfl #[.agg #[.int .i64 ((rd_T33 l0 x3_1).f0),.int .i64 ((rd_T33 l0 x3_1).f1),.int .i64 ((rd_T33 l0 x3_1).f2),.int .i64 ((rd_T33 l0 x3_1).f3),.int .i64 ((rd_T33 l0 x3_1).f4),.int .i64 ((rd_T33 l0 x3_1).f5),.int .i64 ((rd_T33 l0 x3_1).f6),.int .i64 ((rd_T33 l0 x3_1).f7),.int .i64 ((rd_T33 l0 x3_1).f8)]] rfl (by (try simp only [List.map_toArray,List.map_cons,List.map_nil]);first|done|rfl|(simp only [List.length_drop,List.length_take];rfl)) ?_;(with_reducible refine (hinterlandref15_bad.calls k1 ((rd_T33 l0 x3_1).f0) ((rd_T33 l0 x3_1).f1) ((rd_T33 l0 x3_1).f2) ((rd_T33 l0 x3_1).f3) ((rd_T33 l0 x3_1).f4) ((rd_T33 l0 x3_1).f5) ((rd_T33 l0 x3_1).f6) ((rd_T33 l0 x3_1).f7) ((rd_T33 l0 x3_1).f8) true _ A5.out).mono ?_);rintro e w7 ⟨rfl,hb⟩;refine ⟨_,rfl,?_⟩;have n0_:=Aside0.mk (below_step (by repeat (first|(with_reducible first|exact HB.out|apply below_alloc|apply pw_below_drewN|apply below_drew1)|exact HB.out)) hb);clear HB;have HB:=n0_;clear n0_;(try clear hb);(try clear hb2);(try clear hk);(try clear hi)))
       go_ret
       exact ⟨by first|rfl|(simp [errW_none,errW_some] <;> rfl)|(simp [*,errW_none,errW_some] <;> rfl),by repeat (first|(with_reducible first|exact HB.out|apply below_alloc|apply pw_below_drewN|apply below_drew1)|exact HB.out)⟩
      ·replace c6:=Bool.eq_false_iff.mpr c6
       subst c6
       have H1 : (hinterlandref15_Validate.l0 k1 l0 (wrap64 (x3_1 + 1))) = some r:=by rw [if_neg (show ¬ (false = true) by decide)] at H;exact H
       clear H
       have H:=H1
       clear H1
       have H':=Aside0.mk H
       clear H
       have p147 : 0 ≤ (x3_1 : Int):=of_decide_eq_true (by first|(with_reducible assumption)|assumption)
       have q147 : x3_1 < (l0.length : Int):=of_decide_eq_true (by first|(with_reducible assumption)|assumption)
       obtain ⟨ad147,e147,hx147_0,hx147_1,hx147_2,hx147_3,hx147_4,hx147_5,hx147_6,hx147_7,hx147_8⟩:=at_T33 HR0.out x3_1 p147 q147
       cases e147
       replace hx147_0:=(HB.out.cell (World.block_lt_of_cell? w _ hx147_0)).trans hx147_0
       replace hx147_1:=(HB.out.cell (World.block_lt_of_cell? w _ hx147_1)).trans hx147_1
       replace hx147_2:=(HB.out.cell (World.block_lt_of_cell? w _ hx147_2)).trans hx147_2
       replace hx147_3:=(HB.out.cell (World.block_lt_of_cell? w _ hx147_3)).trans hx147_3
       replace hx147_4:=(HB.out.cell (World.block_lt_of_cell? w _ hx147_4)).trans hx147_4
       replace hx147_5:=(HB.out.cell (World.block_lt_of_cell? w _ hx147_5)).trans hx147_5
       replace hx147_6:=(HB.out.cell (World.block_lt_of_cell? w _ hx147_6)).trans hx147_6
       replace hx147_7:=(HB.out.cell (World.block_lt_of_cell? w _ hx147_7)).trans hx147_7
       replace hx147_8:=(HB.out.cell (World.block_lt_of_cell? w _ hx147_8)).trans hx147_8
       replace p147:=eq_true p147
       replace q147:=eq_true q147
       go_wp2_with (first|((with_reducible refine gate_callee (f:=37) rfl ?_);refine goesL_ (some 18) rfl rfl Try.func37 (by kernel_rfl) rfl #[.agg #[.int .i64 ((rd_T33 l0 x3_1).f0),.int .i64 ((rd_T33 l0 x3_1).f1),.int .i64 ((rd_T33 l0 x3_1).f2),.int .i64 ((rd_T33 l0 x3_1).f3),.int .i64 ((rd_T33 l0 x3_1).f4),.int .i64 ((rd_T33 l0 x3_1).f5),.int .i64 ((rd_T33 l0 x3_1).f6),.int .i64 ((rd_T33 l0 x3_1).f7),.int .i64 ((rd_T33 l0 x3_1).f8)]] rfl (by (try simp only [List.map_toArray,List.map_cons,List.map_nil]);first|done|rfl|(simp only [List.length_drop,List.length_take];rfl)) ?_;(with_reducible refine (hinterlandref15_bad.calls k1 ((rd_T33 l0 x3_1).f0) ((rd_T33 l0 x3_1).f1) ((rd_T33 l0 x3_1).f2) ((rd_T33 l0 x3_1).f3) ((rd_T33 l0 x3_1).f4) ((rd_T33 l0 x3_1).f5) ((rd_T33 l0 x3_1).f6) ((rd_T33 l0 x3_1).f7) ((rd_T33 l0 x3_1).f8) false _ A5.out).mono ?_);rintro e w8 ⟨rfl,hb⟩;refine ⟨_,rfl,?_⟩;have n0_:=Aside0.mk (below_step (by repeat (first|(with_reducible first|exact HB.out|apply below_alloc|apply pw_below_drewN|apply below_drew1)|exact HB.out)) hb);clear HB;have HB:=n0_;clear n0_;(try clear hb);(try clear hb2);(try clear hk);(try clear hi)))
       go_roundg k1
       case measure => have:=HK1.out;omega
       case rel => exact ⟨(wrap64 (x3_1 + 1)),(by first|rfl|(simp;done)|(simp [*];done)),H',⟨by have:=HK1.out;omega⟩,⟨by repeat (first|(with_reducible first|exact HB.out|apply below_alloc|apply pw_below_drewN|apply below_drew1)|exact HB.out)⟩⟩
     ·rw [if_neg c4] at H
      exact absurd H (by simp)
    ·rw [if_neg c3] at H
     have c3b0 : decide (x3_1 < (l0.length : Int)) = false:=decide_eq_false c3
     clear c3
     have H':=Aside0.mk H
     clear H
     go_wp2
     go_loopg [4] k1 (fun kq v4 w' => ∃ (x4_2 : Int),v4 = .int .i64 x4_2 ∧ Aside0 (hinterlandref15_Validate.l1 kq l0 x4_2 = some r) ∧ Aside0 (kq ≤ k1) ∧ Aside0 (Below w.heap.size w w'))
     case atStart => exact ⟨(0),(by first|rfl|(simp;done)|(simp [*];done)),H',⟨Nat.le_refl _⟩,⟨by repeat (first|(with_reducible first|exact HB.out|apply below_alloc|apply pw_below_drewN|apply below_drew1)|exact HB.out)⟩⟩
     case round =>
      clear H'
      try clear c1
      try clear p1
      try clear q1
      try clear hx1
      try clear c2
      try clear c2b0
      try clear c2b1
      try clear p2
      try clear c3
      try clear c3b0
      try clear c4
      try clear c4b0
      try clear c6
      try clear p6
      try clear hx147_0
      try clear hx147_1
      try clear hx147_2
      try clear hx147_3
      try clear hx147_4
      try clear hx147_5
      try clear hx147_6
      try clear hx147_7
      try clear hx147_8
      try clear p147
      try clear p2
      try clear q147
      obtain ⟨x4_2,rfl,HA,HK2,HB⟩:=hrel
      cases gk with
      | zero => exact absurd HA.out (by simp [hinterlandref15_Validate.l1])
      | succ k2 =>
       have H:=HA.out
       clear HA
       simp only [hinterlandref15_Validate.l1] at H
       by_cases c9 : x4_2 < (l0.length : Int)
       ·rw [if_pos c9] at H
        have c9b0 : decide (x4_2 < (l0.length : Int)) = true:=decide_eq_true c9
        clear c9
        by_cases c10 : 0 ≤ x4_2
        ·rw [if_pos c10] at H
         have c10b0 : decide (0 ≤ x4_2) = true:=decide_eq_true c10
         clear c10
         by_cases c11 : ((rd_T33 l0 x4_2).f6) < 0
         ·rw [if_pos c11] at H
          have c11b0 : decide (((rd_T33 l0 x4_2).f6) < 0) = true:=decide_eq_true c11
          clear c11
          obtain rfl:=Option.some.inj H
          have p149 : 0 ≤ (x4_2 : Int):=of_decide_eq_true (by first|(with_reducible assumption)|assumption)
          have q149 : x4_2 < (l0.length : Int):=of_decide_eq_true (by first|(with_reducible assumption)|assumption)
          obtain ⟨ad149,e149,hx149_0,hx149_1,hx149_2,hx149_3,hx149_4,hx149_5,hx149_6,hx149_7,hx149_8⟩:=at_T33 HR0.out x4_2 p149 q149
          cases e149
          replace hx149_0:=(HB.out.cell (World.block_lt_of_cell? w _ hx149_0)).trans hx149_0
          replace hx149_1:=(HB.out.cell (World.block_lt_of_cell? w _ hx149_1)).trans hx149_1
          replace hx149_2:=(HB.out.cell (World.block_lt_of_cell? w _ hx149_2)).trans hx149_2
          replace hx149_3:=(HB.out.cell (World.block_lt_of_cell? w _ hx149_3)).trans hx149_3
          replace hx149_4:=(HB.out.cell (World.block_lt_of_cell? w _ hx149_4)).trans hx149_4
          replace hx149_5:=(HB.out.cell (World.block_lt_of_cell? w _ hx149_5)).trans hx149_5
          replace hx149_6:=(HB.out.cell (World.block_lt_of_cell? w _ hx149_6)).trans hx149_6
          replace hx149_7:=(HB.out.cell (World.block_lt_of_cell? w _ hx149_7)).trans hx149_7
          replace hx149_8:=(HB.out.cell (World.block_lt_of_cell? w _ hx149_8)).trans hx149_8
          replace p149:=eq_true p149
          replace q149:=eq_true q149
          go_wp2
          go_ret
          exact ⟨by first|rfl|(simp [errW_none,errW_some] <;> rfl)|(simp [*,errW_none,errW_some] <;> rfl),by repeat (first|(with_reducible first|exact HB.out|apply below_alloc|apply pw_below_drewN|apply below_drew1)|exact HB.out)⟩
         ·rw [if_neg c11] at H
          have c11b0 : decide (((rd_T33 l0 x4_2).f6) < 0) = false:=decide_eq_false c11
          clear c11
          by_cases c12 : ((rd_T33 l0 x4_2).f6) ≥ (l0.length : Int)
          ·rw [if_pos c12] at H
           have c12b0 : decide ((l0.length : Int) ≤ ((rd_T33 l0 x4_2).f6)) = true:=decide_eq_true c12
           clear c12
           obtain rfl:=Option.some.inj H
           have p149 : 0 ≤ (x4_2 : Int):=of_decide_eq_true (by first|(with_reducible assumption)|assumption)
           have q149 : x4_2 < (l0.length : Int):=of_decide_eq_true (by first|(with_reducible assumption)|assumption)
           obtain ⟨ad149,e149,hx149_0,hx149_1,hx149_2,hx149_3,hx149_4,hx149_5,hx149_6,hx149_7,hx149_8⟩:=at_T33 HR0.out x4_2 p149 q149
           cases e149
           replace hx149_0:=(HB.out.cell (World.block_lt_of_cell? w _ hx149_0)).trans hx149_0
           replace hx149_1:=(HB.out.cell (World.block_lt_of_cell? w _ hx149_1)).trans hx149_1
           replace hx149_2:=(HB.out.cell (World.block_lt_of_cell? w _ hx149_2)).trans hx149_2
           replace hx149_3:=(HB.out.cell (World.block_lt_of_cell? w _ hx149_3)).trans hx149_3
           replace hx149_4:=(HB.out.cell (World.block_lt_of_cell? w _ hx149_4)).trans hx149_4
           replace hx149_5:=(HB.out.cell (World.block_lt_of_cell? w _ hx149_5)).trans hx149_5
           replace hx149_6:=(HB.out.cell (World.block_lt_of_cell? w _ hx149_6)).trans hx149_6
           replace hx149_7:=(HB.out.cell (World.block_lt_of_cell? w _ hx149_7)).trans hx149_7
           replace hx149_8:=(HB.out.cell (World.block_lt_of_cell? w _ hx149_8)).trans hx149_8
           replace p149:=eq_true p149
           replace q149:=eq_true q149
           have p150 : 0 ≤ (x4_2 : Int):=of_decide_eq_true (by first|(with_reducible assumption)|assumption)
           have q150 : x4_2 < (l0.length : Int):=of_decide_eq_true (by first|(with_reducible assumption)|assumption)
           obtain ⟨ad150,e150,hx150_0,hx150_1,hx150_2,hx150_3,hx150_4,hx150_5,hx150_6,hx150_7,hx150_8⟩:=at_T33 HR0.out x4_2 p150 q150
           obtain rfl : ad149 = ad150:=(by injection e150)
           replace hx150_0:=(HB.out.cell (World.block_lt_of_cell? w _ hx150_0)).trans hx150_0
           replace hx150_1:=(HB.out.cell (World.block_lt_of_cell? w _ hx150_1)).trans hx150_1
           replace hx150_2:=(HB.out.cell (World.block_lt_of_cell? w _ hx150_2)).trans hx150_2
           replace hx150_3:=(HB.out.cell (World.block_lt_of_cell? w _ hx150_3)).trans hx150_3
           replace hx150_4:=(HB.out.cell (World.block_lt_of_cell? w _ hx150_4)).trans hx150_4
           replace hx150_5:=(HB.out.cell (World.block_lt_of_cell? w _ hx150_5)).trans hx150_5
           replace hx150_6:=(HB.out.cell (World.block_lt_of_cell? w _ hx150_6)).trans hx150_6
           replace hx150_7:=(HB.out.cell (World.block_lt_of_cell? w _ hx150_7)).trans hx150_7
           replace hx150_8:=(HB.out.cell (World.block_lt_of_cell? w _ hx150_8)).trans hx150_8
           replace p150:=eq_true p150
           replace q150:=eq_true q150
           go_wp2
           go_ret
           exact ⟨by first|rfl|(simp [errW_none,errW_some] <;> rfl)|(simp [*,errW_none,errW_some] <;> rfl),by repeat (first|(with_reducible first|exact HB.out|apply below_alloc|apply pw_below_drewN|apply below_drew1)|exact HB.out)⟩
          ·rw [if_neg c12] at H
           have c12b0 : decide ((l0.length : Int) ≤ ((rd_T33 l0 x4_2).f6)) = false:=decide_eq_false c12
           clear c12
           have H':=Aside0.mk H
           clear H
           have p149 : 0 ≤ (x4_2 : Int):=of_decide_eq_true (by first|(with_reducible assumption)|assumption)
           have q149 : x4_2 < (l0.length : Int):=of_decide_eq_true (by first|(with_reducible assumption)|assumption)
           obtain ⟨ad149,e149,hx149_0,hx149_1,hx149_2,hx149_3,hx149_4,hx149_5,hx149_6,hx149_7,hx149_8⟩:=at_T33 HR0.out x4_2 p149 q149
           cases e149
           replace hx149_0:=(HB.out.cell (World.block_lt_of_cell? w _ hx149_0)).trans hx149_0
           replace hx149_1:=(HB.out.cell (World.block_lt_of_cell? w _ hx149_1)).trans hx149_1
           replace hx149_2:=(HB.out.cell (World.block_lt_of_cell? w _ hx149_2)).trans hx149_2
           replace hx149_3:=(HB.out.cell (World.block_lt_of_cell? w _ hx149_3)).trans hx149_3
           replace hx149_4:=(HB.out.cell (World.block_lt_of_cell? w _ hx149_4)).trans hx149_4
           replace hx149_5:=(HB.out.cell (World.block_lt_of_cell? w _ hx149_5)).trans hx149_5
           replace hx149_6:=(HB.out.cell (World.block_lt_of_cell? w _ hx149_6)).trans hx149_6
           replace hx149_7:=(HB.out.cell (World.block_lt_of_cell? w _ hx149_7)).trans hx149_7
           replace hx149_8:=(HB.out.cell (World.block_lt_of_cell? w _ hx149_8)).trans hx149_8
           replace p149:=eq_true p149
           replace q149:=eq_true q149
           have p150 : 0 ≤ (x4_2 : Int):=of_decide_eq_true (by first|(with_reducible assumption)|assumption)
           have q150 : x4_2 < (l0.length : Int):=of_decide_eq_true (by first|(with_reducible assumption)|assumption)
           obtain ⟨ad150,e150,hx150_0,hx150_1,hx150_2,hx150_3,hx150_4,hx150_5,hx150_6,hx150_7,hx150_8⟩:=at_T33 HR0.out x4_2 p150 q150
           obtain rfl : ad149 = ad150:=(by injection e150)
           replace hx150_0:=(HB.out.cell (World.block_lt_of_cell? w _ hx150_0)).trans hx150_0
           replace hx150_1:=(HB.out.cell (World.block_lt_of_cell? w _ hx150_1)).trans hx150_1
           replace hx150_2:=(HB.out.cell (World.block_lt_of_cell? w _ hx150_2)).trans hx150_2
           replace hx150_3:=(HB.out.cell (World.block_lt_of_cell? w _ hx150_3)).trans hx150_3
           replace hx150_4:=(HB.out.cell (World.block_lt_of_cell? w _ hx150_4)).trans hx150_4
           replace hx150_5:=(HB.out.cell (World.block_lt_of_cell? w _ hx150_5)).trans hx150_5
           replace hx150_6:=(HB.out.cell (World.block_lt_of_cell? w _ hx150_6)).trans hx150_6
           replace hx150_7:=(HB.out.cell (World.block_lt_of_cell? w _ hx150_7)).trans hx150_7
           replace hx150_8:=(HB.out.cell (World.block_lt_of_cell? w _ hx150_8)).trans hx150_8
           replace p150:=eq_true p150
           replace q150:=eq_true q150
           go_wp2
           go_roundg k2
           case measure => have:=HK1.out;have:=HK2.out;omega
           case rel => exact ⟨(wrap64 (x4_2 + 1)),(by first|rfl|(simp;done)|(simp [*];done)),H',⟨by have:=HK1.out;have:=HK2.out;omega⟩,⟨by repeat (first|(with_reducible first|exact HB.out|apply below_alloc|apply pw_below_drewN|apply below_drew1)|exact HB.out)⟩⟩
        ·rw [if_neg c10] at H
         exact absurd H (by simp)
       ·rw [if_neg c9] at H
        have c9b0 : decide (x4_2 < (l0.length : Int)) = false:=decide_eq_false c9
        clear c9
        obtain rfl:=Option.some.inj H
        go_wp2
        go_ret
        exact ⟨by first|rfl|(simp [errW_none,errW_some] <;> rfl)|(simp [*,errW_none,errW_some] <;> rfl),by repeat (first|(with_reducible first|exact HB.out|apply below_alloc|apply pw_below_drewN|apply below_drew1)|exact HB.out)⟩

/-! ### hinterlandref15_without: function 46 -/
mutual
def hinterlandref15_without.l0 : Nat → List (S33) → Int → List (S33) → Int → Option ((List (S33)))
 | 0,_,_,_,_ => none
 | k + 1,x0,x1,x5,x6 => if x6 < (x0.length : Int) then (if x6 = x1 then (hinterlandref15_without.l0 k x0 x1 x5 (wrap64 (x6 + 1))) else (if 0 ≤ x6 then (if ((rd_T33 x0 x6).f0) = 2 then (hinterlandref15_without.j1 k x0 x1 x5 x6 (decide (((rd_T33 x0 x6).f6) > x1)) ((rd_T33 x0 x6).f0) ((rd_T33 x0 x6).f1) ((rd_T33 x0 x6).f2) ((rd_T33 x0 x6).f3) ((rd_T33 x0 x6).f4) ((rd_T33 x0 x6).f5) ((rd_T33 x0 x6).f6) ((rd_T33 x0 x6).f7) ((rd_T33 x0 x6).f8)) else (hinterlandref15_without.j1 k x0 x1 x5 x6 false ((rd_T33 x0 x6).f0) ((rd_T33 x0 x6).f1) ((rd_T33 x0 x6).f2) ((rd_T33 x0 x6).f3) ((rd_T33 x0 x6).f4) ((rd_T33 x0 x6).f5) ((rd_T33 x0 x6).f6) ((rd_T33 x0 x6).f7) ((rd_T33 x0 x6).f8))) else (none))) else (some x5)
def hinterlandref15_without.j1 : Nat → List (S33) → Int → List (S33) → Int → Bool → Int → Int → Int → Int → Int → Int → Int → Int → Int → Option ((List (S33)))
 | 0,_,_,_,_,_,_,_,_,_,_,_,_,_,_ => none
 | k + 1,x0,x1,x5,x6,x29,x153000,x153001,x153002,x153003,x153004,x153005,x153006,x153007,x153008 => if x29 = true then (if x5.length < 1954687338268 then (hinterlandref15_without.l0 k x0 x1 (x5 ++ [(⟨x153000,x153001,x153002,x153003,x153004,x153005,wrap64 (x153006 - 1),x153007,x153008⟩ : S33)]) (wrap64 (x6 + 1))) else (none)) else (if x153000 = 2 then (if x153006 = x1 then (if x1 = (wrap64 ((x0.length : Int) - 1)) then (if x5.length < 1954687338268 then (hinterlandref15_without.l0 k x0 x1 (x5 ++ [(⟨x153000,x153001,x153002,x153003,x153004,x153005,0,x153007,x153008⟩ : S33)]) (wrap64 (x6 + 1))) else (none)) else (if x5.length < 1954687338268 then (hinterlandref15_without.l0 k x0 x1 (x5 ++ [(⟨x153000,x153001,x153002,x153003,x153004,x153005,x153006,x153007,x153008⟩ : S33)]) (wrap64 (x6 + 1))) else (none))) else (if x5.length < 1954687338268 then (hinterlandref15_without.l0 k x0 x1 (x5 ++ [(⟨x153000,x153001,x153002,x153003,x153004,x153005,x153006,x153007,x153008⟩ : S33)]) (wrap64 (x6 + 1))) else (none))) else (if x5.length < 1954687338268 then (hinterlandref15_without.l0 k x0 x1 (x5 ++ [(⟨x153000,x153001,x153002,x153003,x153004,x153005,x153006,x153007,x153008⟩ : S33)]) (wrap64 (x6 + 1))) else (none)))
end
def hinterlandref15_without.f (k : Nat) (l0 : List (S33)) (a1 : Int) : Option ((List (S33))) := hinterlandref15_without.l0 k l0 a1 ([] : List (S33)) 0
theorem hinterlandref15_without.mono_l : ∀ k, (∀ y0 y1 y2 y3, LeO (hinterlandref15_without.l0 k y0 y1 y2 y3) (hinterlandref15_without.l0 (k + 1) y0 y1 y2 y3)) ∧ (∀ y0 y1 y2 y3 y4 y5 y6 y7 y8 y9 y10 y11 y12 y13, LeO (hinterlandref15_without.j1 k y0 y1 y2 y3 y4 y5 y6 y7 y8 y9 y10 y11 y12 y13) (hinterlandref15_without.j1 (k + 1) y0 y1 y2 y3 y4 y5 y6 y7 y8 y9 y10 y11 y12 y13))
 | 0 => ⟨fun _ _ _ _ r h => by simp [hinterlandref15_without.l0] at h,fun _ _ _ _ _ _ _ _ _ _ _ _ _ _ r h => by simp [hinterlandref15_without.j1] at h⟩
 | k + 1 => by
  obtain ⟨ih0,ih1⟩:=hinterlandref15_without.mono_l k
  refine ⟨?_,?_⟩
  ·intro y0 y1 y2 y3
   unfold hinterlandref15_without.l0
   repeat' first
   | (with_reducible exact ih0 _ _ _ _)
   | (with_reducible exact ih1 _ _ _ _ _ _ _ _ _ _ _ _ _ _)
   | (with_reducible exact LeO.refl _)
   | (with_reducible exact LeO.none _)
   | (with_reducible refine LeO.ite ?_ ?_)
   | (with_reducible refine LeO.bind ?_ (fun _ => ?_))
   | exact ih0 _ _ _ _
   | exact ih1 _ _ _ _ _ _ _ _ _ _ _ _ _ _
   | exact LeO.none _
   | refine LeO.ite ?_ ?_
   | refine LeO.bind ?_ (fun _ => ?_)
  ·intro y0 y1 y2 y3 y4 y5 y6 y7 y8 y9 y10 y11 y12 y13
   unfold hinterlandref15_without.j1
   repeat' first
   | (with_reducible exact ih0 _ _ _ _)
   | (with_reducible exact ih1 _ _ _ _ _ _ _ _ _ _ _ _ _ _)
   | (with_reducible exact LeO.refl _)
   | (with_reducible exact LeO.none _)
   | (with_reducible refine LeO.ite ?_ ?_)
   | (with_reducible refine LeO.bind ?_ (fun _ => ?_))
   | exact ih0 _ _ _ _
   | exact ih1 _ _ _ _ _ _ _ _ _ _ _ _ _ _
   | exact LeO.none _
   | refine LeO.ite ?_ ?_
   | refine LeO.bind ?_ (fun _ => ?_)
theorem hinterlandref15_without.mono : ∀ a0 a1 k, LeO (hinterlandref15_without.f k a0 a1) (hinterlandref15_without.f (k + 1) a0 a1) := by
 intro a0 a1 k
 obtain ⟨ih0,ih1⟩:=hinterlandref15_without.mono_l k
 unfold hinterlandref15_without.f
 repeat' first
   | (with_reducible exact ih0 _ _ _ _)
   | (with_reducible exact ih1 _ _ _ _ _ _ _ _ _ _ _ _ _ _)
   | (with_reducible exact LeO.refl _)
   | (with_reducible exact LeO.none _)
   | (with_reducible refine LeO.ite ?_ ?_)
   | (with_reducible refine LeO.bind ?_ (fun _ => ?_))
   | exact ih0 _ _ _ _
   | exact ih1 _ _ _ _ _ _ _ _ _ _ _ _ _ _
   | exact LeO.none _
   | refine LeO.ite ?_ ?_
   | refine LeO.bind ?_ (fun _ => ?_)
set_option maxHeartbeats 8000000 in
set_option maxRecDepth 100000 in
theorem hinterlandref15_without.calls (k : Nat) (A0 : Option Addr) (c0 : Nat) (l0 : List (S33)) (a1 : Int) (r : List (S33)) (w : World) (hr0 : Kd.C k33 w A0 l0.length l0) (hc0 : l0.length ≤ c0) (h : hinterlandref15_without.f k l0 a1 = some r) :
  Calls Try.prog 46 #[.slice A0 l0.length c0,.int .i64 a1] w fun e w' => ∃ v0_ : Value,e = .returned (v0_) ∧ Kd.R k33 33 w' w.heap.size (fun _ => True) v0_ r ∧ Below w.heap.size w w':=by
 have hu33:=Try.underlying33
 have HR0:=Aside0.mk hr0
 have HC0:=Aside0.mk hc0
 clear hr0 hc0
 have HB:=Aside0.mk (Below.refl w.heap.size w)
 have H : (hinterlandref15_without.l0 k l0 a1 ([] : List (S33)) 0) = some r:=h
 clear h
 have H':=Aside0.mk H
 clear H
 go_enter Try.func46,Try.ntmps46
 go_wp2
 go_loopg [5,6] k (fun kq v5 v6 w' => ∃ (x5_1 : List (S33)) (x6_1 : Int),v6 = .int .i64 x6_1 ∧ Aside0 (hinterlandref15_without.l0 kq l0 a1 x5_1 x6_1 = some r) ∧ Aside0 (kq ≤ k) ∧ Aside0 (Kd.R k33 33 w' w.heap.size (fun _ => True) v5 x5_1) ∧ Aside0 (Below w.heap.size w w'))
 case atStart => exact ⟨(([] : List (S33))),(0),(by first|rfl|(simp;done)|(simp [*];done)),H',⟨Nat.le_refl _⟩,⟨by first|exact Kd.R_nil _ _ _ _ _|exact Kd.N_nil _ _ _ _ _|exact Kd.V_nil _ _ _ _ _|exact Kd.Q_nil _ _ _ _ _|exact Kd.S_nil _ _ _ _ _⟩,⟨by repeat (first|(with_reducible first|exact HB.out|apply below_alloc|apply pw_below_drewN|apply below_drew1)|exact HB.out)⟩⟩
 case round =>
  clear H'
  try clear p2
  obtain ⟨x5_1,x6_1,rfl,HA,HK1,HO_5,HB⟩:=hrel
  cases gk with
  | zero => exact absurd HA.out (by simp [hinterlandref15_without.l0])
  | succ k1 =>
   have H:=HA.out
   clear HA
   simp only [hinterlandref15_without.l0] at H
   by_cases c3 : x6_1 < (l0.length : Int)
   ·rw [if_pos c3] at H
    have c3b0 : decide (x6_1 < (l0.length : Int)) = true:=decide_eq_true c3
    clear c3
    by_cases c4 : x6_1 = a1
    ·rw [if_pos c4] at H
     have c4b0 : (x6_1 == a1) = true:=beq_iff_eq.mpr c4
     have c4b1 : (x6_1 != a1) = false:=bne_eq_false_iff_eq.mpr c4
     clear c4
     have H':=Aside0.mk H
     clear H
     go_wp2
     go_roundg k1
     case measure => have:=HK1.out;omega
     case rel => exact ⟨(x5_1),(wrap64 (x6_1 + 1)),(by first|rfl|(simp;done)|(simp [*];done)),H',⟨by have:=HK1.out;omega⟩,⟨by (with_reducible repeat (first|apply Kd.R_alloc|apply Kd.R_drewN|apply Kd.R_drew));exact HO_5.out⟩,⟨by repeat (first|(with_reducible first|exact HB.out|apply below_alloc|apply pw_below_drewN|apply below_drew1)|exact HB.out)⟩⟩
    ·rw [if_neg c4] at H
     have c4b0 : (x6_1 == a1) = false:=beq_eq_false_iff_ne.mpr c4
     have c4b1 : (x6_1 != a1) = true:=bne_iff_ne.mpr c4
     by_cases c5 : 0 ≤ x6_1
     ·rw [if_pos c5] at H
      have c5b0 : decide (0 ≤ x6_1) = true:=decide_eq_true c5
      clear c5
      have HC6:=Aside0.mk H
      clear H
      have p151 : 0 ≤ (x6_1 : Int):=of_decide_eq_true (by first|(with_reducible assumption)|assumption)
      have q151 : x6_1 < (l0.length : Int):=of_decide_eq_true (by first|(with_reducible assumption)|assumption)
      obtain ⟨ad151,e151,hx151_0,hx151_1,hx151_2,hx151_3,hx151_4,hx151_5,hx151_6,hx151_7,hx151_8⟩:=at_T33 HR0.out x6_1 p151 q151
      cases e151
      replace hx151_0:=(HB.out.cell (World.block_lt_of_cell? w _ hx151_0)).trans hx151_0
      replace hx151_1:=(HB.out.cell (World.block_lt_of_cell? w _ hx151_1)).trans hx151_1
      replace hx151_2:=(HB.out.cell (World.block_lt_of_cell? w _ hx151_2)).trans hx151_2
      replace hx151_3:=(HB.out.cell (World.block_lt_of_cell? w _ hx151_3)).trans hx151_3
      replace hx151_4:=(HB.out.cell (World.block_lt_of_cell? w _ hx151_4)).trans hx151_4
      replace hx151_5:=(HB.out.cell (World.block_lt_of_cell? w _ hx151_5)).trans hx151_5
      replace hx151_6:=(HB.out.cell (World.block_lt_of_cell? w _ hx151_6)).trans hx151_6
      replace hx151_7:=(HB.out.cell (World.block_lt_of_cell? w _ hx151_7)).trans hx151_7
      replace hx151_8:=(HB.out.cell (World.block_lt_of_cell? w _ hx151_8)).trans hx151_8
      replace p151:=eq_true p151
      replace q151:=eq_true q151
      go_upto_region 7 with (first|((with_reducible refine gate_dst (N:=7) rfl ?_);(try (refine gate_guard (by rfl) ?_;dsimp only));refine box_event ?hg (N:=7) ?hd (cs:=#[.int .i64 0,.int .i64 0,.int .i64 0,.int .i64 0,.int .i64 0,.int .i64 0,.int .i64 0,.int .i64 0,.int .i64 0]) (t:=33) ?hr ?_;(case hd => rfl);(case hg => rfl);(case hr => first|(go_simp;done)|(go_simp;rfl));intro gb152 hg w7 hbox hb;have n0_:=Aside0.mk (Kd.R_below (Kd.R_elderB (by (with_reducible repeat (first|apply Kd.R_alloc|apply Kd.R_drewN|apply Kd.R_drew));exact HO_5.out) gb152 (Nat.le_of_eq hg.symm)) hb);have n1_:=Aside0.mk (below_step (by repeat (first|(with_reducible first|exact HB.out|apply below_alloc|apply pw_below_drewN|apply below_drew1)|exact HB.out)) hb);have n2_:=Aside0.mk (hbox);have n3_:=Aside0.mk ((by rw [hg];exact (below_size (by repeat (first|(with_reducible first|exact HB.out|apply below_alloc|apply pw_below_drewN|apply below_drew1)|exact HB.out))) : w.heap.size ≤ gb152));have n4_:=Aside0.mk ((by rw [hg];exact (below_size (by repeat (first|(with_reducible first|exact HB.out|apply below_alloc|apply pw_below_drewN|apply below_drew1)|exact HB.out))) : w.heap.size ≤ gb152));clear HO_5;clear HB;have HO_5:=n0_;have HB:=n1_;have BK152:=n2_;have GW152:=n3_;have GE152:=n4_;clear n0_ n1_ n2_ n3_ n4_;clear hb hbox hg;have hcz8_0 : w7.cell? ⟨gb152,0,none⟩ = some (.int .i64 0):=(blk_cell BK152.out 0).trans rfl;have hcz8_1 : w7.cell? ⟨gb152,1,none⟩ = some (.int .i64 0):=(blk_cell BK152.out 1).trans rfl;have hcz8_2 : w7.cell? ⟨gb152,2,none⟩ = some (.int .i64 0):=(blk_cell BK152.out 2).trans rfl;have hcz8_3 : w7.cell? ⟨gb152,3,none⟩ = some (.int .i64 0):=(blk_cell BK152.out 3).trans rfl;have hcz8_4 : w7.cell? ⟨gb152,4,none⟩ = some (.int .i64 0):=(blk_cell BK152.out 4).trans rfl;have hcz8_5 : w7.cell? ⟨gb152,5,none⟩ = some (.int .i64 0):=(blk_cell BK152.out 5).trans rfl;have hcz8_6 : w7.cell? ⟨gb152,6,none⟩ = some (.int .i64 0):=(blk_cell BK152.out 6).trans rfl;have hcz8_7 : w7.cell? ⟨gb152,7,none⟩ = some (.int .i64 0):=(blk_cell BK152.out 7).trans rfl;have hcz8_8 : w7.cell? ⟨gb152,8,none⟩ = some (.int .i64 0):=(blk_cell BK152.out 8).trans rfl;have hfz8_0:=blk_frozen BK152.out 0;have hfz8_1:=blk_frozen BK152.out 1;have hfz8_2:=blk_frozen BK152.out 2;have hfz8_3:=blk_frozen BK152.out 3;have hfz8_4:=blk_frozen BK152.out 4;have hfz8_5:=blk_frozen BK152.out 5;have hfz8_6:=blk_frozen BK152.out 6;have hfz8_7:=blk_frozen BK152.out 7;have hfz8_8:=blk_frozen BK152.out 8))
      (try simp only [Act.put,List.setIfInBounds_toArray,List.set_cons_zero,List.set_cons_succ])
      go_cut [29] (fun v29 wc => ∃ (kq : Nat) (x29_5 : Bool),v29 = .bool x29_5 ∧ Aside0 (hinterlandref15_without.j1 kq l0 a1 x5_1 x6_1 x29_5 ((rd_T33 l0 x6_1).f0) ((rd_T33 l0 x6_1).f1) ((rd_T33 l0 x6_1).f2) ((rd_T33 l0 x6_1).f3) ((rd_T33 l0 x6_1).f4) ((rd_T33 l0 x6_1).f5) ((rd_T33 l0 x6_1).f6) ((rd_T33 l0 x6_1).f7) ((rd_T33 l0 x6_1).f8) = some r) ∧ Aside0 (kq ≤ k1) ∧ Aside0 (Kd.R k33 33 wc w.heap.size (fun k_ => k_ ≠ gb152) u5 x5_1) ∧ Aside0 (wc.heap[gb152]? = some (.cells #[.int .i64 ((rd_T33 l0 x6_1).f0),.int .i64 ((rd_T33 l0 x6_1).f1),.int .i64 ((rd_T33 l0 x6_1).f2),.int .i64 ((rd_T33 l0 x6_1).f3),.int .i64 ((rd_T33 l0 x6_1).f4),.int .i64 ((rd_T33 l0 x6_1).f5),.int .i64 ((rd_T33 l0 x6_1).f6),.int .i64 ((rd_T33 l0 x6_1).f7),.int .i64 ((rd_T33 l0 x6_1).f8)] 33 (0,0))) ∧ Aside0 (Below w.heap.size w wc))
      case first =>
       have H:=HC6.out
       clear HC6
       by_cases c9 : ((rd_T33 l0 x6_1).f0) = 2
       ·rw [if_pos c9] at H
        have c9b0 : (((rd_T33 l0 x6_1).f0) == 2) = true:=beq_iff_eq.mpr c9
        have c9b1 : (((rd_T33 l0 x6_1).f0) != 2) = false:=bne_eq_false_iff_eq.mpr c9
        clear c9
        (first|rw [c9b0]|(simp only [i64_w,i32_w];rw [c9b0])|skip)
        have H':=Aside0.mk H
        clear H
        have hcz10_0 : w7.cell? ⟨gb152,0,none⟩ = some (.int .i64 0):=(blk_cell BK152.out 0).trans rfl
        have hcz10_1 : w7.cell? ⟨gb152,1,none⟩ = some (.int .i64 0):=(blk_cell BK152.out 1).trans rfl
        have hcz10_2 : w7.cell? ⟨gb152,2,none⟩ = some (.int .i64 0):=(blk_cell BK152.out 2).trans rfl
        have hcz10_3 : w7.cell? ⟨gb152,3,none⟩ = some (.int .i64 0):=(blk_cell BK152.out 3).trans rfl
        have hcz10_4 : w7.cell? ⟨gb152,4,none⟩ = some (.int .i64 0):=(blk_cell BK152.out 4).trans rfl
        have hcz10_5 : w7.cell? ⟨gb152,5,none⟩ = some (.int .i64 0):=(blk_cell BK152.out 5).trans rfl
        have hcz10_6 : w7.cell? ⟨gb152,6,none⟩ = some (.int .i64 0):=(blk_cell BK152.out 6).trans rfl
        have hcz10_7 : w7.cell? ⟨gb152,7,none⟩ = some (.int .i64 0):=(blk_cell BK152.out 7).trans rfl
        have hcz10_8 : w7.cell? ⟨gb152,8,none⟩ = some (.int .i64 0):=(blk_cell BK152.out 8).trans rfl
        have hfz10_0:=blk_frozen BK152.out 0
        have hfz10_1:=blk_frozen BK152.out 1
        have hfz10_2:=blk_frozen BK152.out 2
        have hfz10_3:=blk_frozen BK152.out 3
        have hfz10_4:=blk_frozen BK152.out 4
        have hfz10_5:=blk_frozen BK152.out 5
        have hfz10_6:=blk_frozen BK152.out 6
        have hfz10_7:=blk_frozen BK152.out 7
        have hfz10_8:=blk_frozen BK152.out 8
        go_wp2
        go_meet
        case rel => exact ⟨_,(decide (((rd_T33 l0 x6_1).f6) > a1)),(by first|rfl|(simp;done)|(simp [*];done)),H',⟨by have:=HK1.out;first|omega|exact Nat.le_refl _⟩,⟨by (with_reducible repeat (first|apply Kd.R_alloc|apply Kd.R_drewN|apply Kd.R_drew));exact Kd.R_mono (Kd.R_far (p:=⟨gb152,8,none⟩) (Kd.R_far (p:=⟨gb152,7,none⟩) (Kd.R_far (p:=⟨gb152,6,none⟩) (Kd.R_far (p:=⟨gb152,5,none⟩) (Kd.R_far (p:=⟨gb152,4,none⟩) (Kd.R_far (p:=⟨gb152,3,none⟩) (Kd.R_far (p:=⟨gb152,2,none⟩) (Kd.R_far (p:=⟨gb152,1,none⟩) (Kd.R_far (p:=⟨gb152,0,none⟩) (Kd.R_mono HO_5.out (fun k_ hk => (⟨hk,hk.2⟩ : _ ∧ k_ ≠ gb152))) (fun _ hk => hk.2) (.int .i64 ((rd_T33 l0 x6_1).f0))) (fun _ hk => hk.2) (.int .i64 ((rd_T33 l0 x6_1).f1))) (fun _ hk => hk.2) (.int .i64 ((rd_T33 l0 x6_1).f2))) (fun _ hk => hk.2) (.int .i64 ((rd_T33 l0 x6_1).f3))) (fun _ hk => hk.2) (.int .i64 ((rd_T33 l0 x6_1).f4))) (fun _ hk => hk.2) (.int .i64 ((rd_T33 l0 x6_1).f5))) (fun _ hk => hk.2) (.int .i64 ((rd_T33 l0 x6_1).f6))) (fun _ hk => hk.2) (.int .i64 ((rd_T33 l0 x6_1).f7))) (fun _ hk => hk.2) (.int .i64 ((rd_T33 l0 x6_1).f8))) (fun _ hk => hk.1.2)⟩,⟨by (with_reducible repeat (first|refine blk_drewN ?_ _|refine blk_drew ?_|refine blk_alloc ?_ _));refine blk_put (cs:=#[.int .i64 ((rd_T33 l0 x6_1).f0),.int .i64 ((rd_T33 l0 x6_1).f1),.int .i64 ((rd_T33 l0 x6_1).f2),.int .i64 ((rd_T33 l0 x6_1).f3),.int .i64 ((rd_T33 l0 x6_1).f4),.int .i64 ((rd_T33 l0 x6_1).f5),.int .i64 ((rd_T33 l0 x6_1).f6),.int .i64 ((rd_T33 l0 x6_1).f7),.int .i64 0]) ?_ 8 _ rfl;(with_reducible repeat (first|refine blk_drewN ?_ _|refine blk_drew ?_|refine blk_alloc ?_ _));refine blk_put (cs:=#[.int .i64 ((rd_T33 l0 x6_1).f0),.int .i64 ((rd_T33 l0 x6_1).f1),.int .i64 ((rd_T33 l0 x6_1).f2),.int .i64 ((rd_T33 l0 x6_1).f3),.int .i64 ((rd_T33 l0 x6_1).f4),.int .i64 ((rd_T33 l0 x6_1).f5),.int .i64 ((rd_T33 l0 x6_1).f6),.int .i64 0,.int .i64 0]) ?_ 7 _ rfl;(with_reducible repeat (first|refine blk_drewN ?_ _|refine blk_drew ?_|refine blk_alloc ?_ _));refine blk_put (cs:=#[.int .i64 ((rd_T33 l0 x6_1).f0),.int .i64 ((rd_T33 l0 x6_1).f1),.int .i64 ((rd_T33 l0 x6_1).f2),.int .i64 ((rd_T33 l0 x6_1).f3),.int .i64 ((rd_T33 l0 x6_1).f4),.int .i64 ((rd_T33 l0 x6_1).f5),.int .i64 0,.int .i64 0,.int .i64 0]) ?_ 6 _ rfl;(with_reducible repeat (first|refine blk_drewN ?_ _|refine blk_drew ?_|refine blk_alloc ?_ _));refine blk_put (cs:=#[.int .i64 ((rd_T33 l0 x6_1).f0),.int .i64 ((rd_T33 l0 x6_1).f1),.int .i64 ((rd_T33 l0 x6_1).f2),.int .i64 ((rd_T33 l0 x6_1).f3),.int .i64 ((rd_T33 l0 x6_1).f4),.int .i64 0,.int .i64 0,.int .i64 0,.int .i64 0]) ?_ 5 _ rfl;(with_reducible repeat (first|refine blk_drewN ?_ _|refine blk_drew ?_|refine blk_alloc ?_ _));refine blk_put (cs:=#[.int .i64 ((rd_T33 l0 x6_1).f0),.int .i64 ((rd_T33 l0 x6_1).f1),.int .i64 ((rd_T33 l0 x6_1).f2),.int .i64 ((rd_T33 l0 x6_1).f3),.int .i64 0,.int .i64 0,.int .i64 0,.int .i64 0,.int .i64 0]) ?_ 4 _ rfl;(with_reducible repeat (first|refine blk_drewN ?_ _|refine blk_drew ?_|refine blk_alloc ?_ _));refine blk_put (cs:=#[.int .i64 ((rd_T33 l0 x6_1).f0),.int .i64 ((rd_T33 l0 x6_1).f1),.int .i64 ((rd_T33 l0 x6_1).f2),.int .i64 0,.int .i64 0,.int .i64 0,.int .i64 0,.int .i64 0,.int .i64 0]) ?_ 3 _ rfl;(with_reducible repeat (first|refine blk_drewN ?_ _|refine blk_drew ?_|refine blk_alloc ?_ _));refine blk_put (cs:=#[.int .i64 ((rd_T33 l0 x6_1).f0),.int .i64 ((rd_T33 l0 x6_1).f1),.int .i64 0,.int .i64 0,.int .i64 0,.int .i64 0,.int .i64 0,.int .i64 0,.int .i64 0]) ?_ 2 _ rfl;(with_reducible repeat (first|refine blk_drewN ?_ _|refine blk_drew ?_|refine blk_alloc ?_ _));refine blk_put (cs:=#[.int .i64 ((rd_T33 l0 x6_1).f0),.int .i64 0,.int .i64 0,.int .i64 0,.int .i64 0,.int .i64 0,.int .i64 0,.int .i64 0,.int .i64 0]) ?_ 1 _ rfl;(with_reducible repeat (first|refine blk_drewN ?_ _|refine blk_drew ?_|refine blk_alloc ?_ _));refine blk_put (cs:=#[.int .i64 0,.int .i64 0,.int .i64 0,.int .i64 0,.int .i64 0,.int .i64 0,.int .i64 0,.int .i64 0,.int .i64 0]) ?_ 0 _ rfl;(with_reducible repeat (first|refine blk_drewN ?_ _|refine blk_drew ?_|refine blk_alloc ?_ _));exact BK152.out⟩,⟨by repeat (first|(with_reducible first|exact HB.out|apply below_alloc|apply pw_below_drewN|apply below_drew1|refine below_set ?_ GE152.out)|exact HB.out)⟩⟩
       ·rw [if_neg c9] at H
        have c9b0 : (((rd_T33 l0 x6_1).f0) == 2) = false:=beq_eq_false_iff_ne.mpr c9
        have c9b1 : (((rd_T33 l0 x6_1).f0) != 2) = true:=bne_iff_ne.mpr c9
        (first|rw [c9b0]|(simp only [i64_w,i32_w];rw [c9b0])|skip)
        have H':=Aside0.mk H
        clear H
        have hcz11_0 : w7.cell? ⟨gb152,0,none⟩ = some (.int .i64 0):=(blk_cell BK152.out 0).trans rfl
        have hcz11_1 : w7.cell? ⟨gb152,1,none⟩ = some (.int .i64 0):=(blk_cell BK152.out 1).trans rfl
        have hcz11_2 : w7.cell? ⟨gb152,2,none⟩ = some (.int .i64 0):=(blk_cell BK152.out 2).trans rfl
        have hcz11_3 : w7.cell? ⟨gb152,3,none⟩ = some (.int .i64 0):=(blk_cell BK152.out 3).trans rfl
        have hcz11_4 : w7.cell? ⟨gb152,4,none⟩ = some (.int .i64 0):=(blk_cell BK152.out 4).trans rfl
        have hcz11_5 : w7.cell? ⟨gb152,5,none⟩ = some (.int .i64 0):=(blk_cell BK152.out 5).trans rfl
        have hcz11_6 : w7.cell? ⟨gb152,6,none⟩ = some (.int .i64 0):=(blk_cell BK152.out 6).trans rfl
        have hcz11_7 : w7.cell? ⟨gb152,7,none⟩ = some (.int .i64 0):=(blk_cell BK152.out 7).trans rfl
        have hcz11_8 : w7.cell? ⟨gb152,8,none⟩ = some (.int .i64 0):=(blk_cell BK152.out 8).trans rfl
        have hfz11_0:=blk_frozen BK152.out 0
        have hfz11_1:=blk_frozen BK152.out 1
        have hfz11_2:=blk_frozen BK152.out 2
        have hfz11_3:=blk_frozen BK152.out 3
        have hfz11_4:=blk_frozen BK152.out 4
        have hfz11_5:=blk_frozen BK152.out 5
        have hfz11_6:=blk_frozen BK152.out 6
        have hfz11_7:=blk_frozen BK152.out 7
        have hfz11_8:=blk_frozen BK152.out 8
        go_wp2
        go_meet
        case rel => exact ⟨_,(false),(by first|rfl|(simp;done)|(simp [*];done)),H',⟨by have:=HK1.out;first|omega|exact Nat.le_refl _⟩,⟨by (with_reducible repeat (first|apply Kd.R_alloc|apply Kd.R_drewN|apply Kd.R_drew));exact Kd.R_mono (Kd.R_far (p:=⟨gb152,8,none⟩) (Kd.R_far (p:=⟨gb152,7,none⟩) (Kd.R_far (p:=⟨gb152,6,none⟩) (Kd.R_far (p:=⟨gb152,5,none⟩) (Kd.R_far (p:=⟨gb152,4,none⟩) (Kd.R_far (p:=⟨gb152,3,none⟩) (Kd.R_far (p:=⟨gb152,2,none⟩) (Kd.R_far (p:=⟨gb152,1,none⟩) (Kd.R_far (p:=⟨gb152,0,none⟩) (Kd.R_mono HO_5.out (fun k_ hk => (⟨hk,hk.2⟩ : _ ∧ k_ ≠ gb152))) (fun _ hk => hk.2) (.int .i64 ((rd_T33 l0 x6_1).f0))) (fun _ hk => hk.2) (.int .i64 ((rd_T33 l0 x6_1).f1))) (fun _ hk => hk.2) (.int .i64 ((rd_T33 l0 x6_1).f2))) (fun _ hk => hk.2) (.int .i64 ((rd_T33 l0 x6_1).f3))) (fun _ hk => hk.2) (.int .i64 ((rd_T33 l0 x6_1).f4))) (fun _ hk => hk.2) (.int .i64 ((rd_T33 l0 x6_1).f5))) (fun _ hk => hk.2) (.int .i64 ((rd_T33 l0 x6_1).f6))) (fun _ hk => hk.2) (.int .i64 ((rd_T33 l0 x6_1).f7))) (fun _ hk => hk.2) (.int .i64 ((rd_T33 l0 x6_1).f8))) (fun _ hk => hk.1.2)⟩,⟨by (with_reducible repeat (first|refine blk_drewN ?_ _|refine blk_drew ?_|refine blk_alloc ?_ _));refine blk_put (cs:=#[.int .i64 ((rd_T33 l0 x6_1).f0),.int .i64 ((rd_T33 l0 x6_1).f1),.int .i64 ((rd_T33 l0 x6_1).f2),.int .i64 ((rd_T33 l0 x6_1).f3),.int .i64 ((rd_T33 l0 x6_1).f4),.int .i64 ((rd_T33 l0 x6_1).f5),.int .i64 ((rd_T33 l0 x6_1).f6),.int .i64 ((rd_T33 l0 x6_1).f7),.int .i64 0]) ?_ 8 _ rfl;(with_reducible repeat (first|refine blk_drewN ?_ _|refine blk_drew ?_|refine blk_alloc ?_ _));refine blk_put (cs:=#[.int .i64 ((rd_T33 l0 x6_1).f0),.int .i64 ((rd_T33 l0 x6_1).f1),.int .i64 ((rd_T33 l0 x6_1).f2),.int .i64 ((rd_T33 l0 x6_1).f3),.int .i64 ((rd_T33 l0 x6_1).f4),.int .i64 ((rd_T33 l0 x6_1).f5),.int .i64 ((rd_T33 l0 x6_1).f6),.int .i64 0,.int .i64 0]) ?_ 7 _ rfl;(with_reducible repeat (first|refine blk_drewN ?_ _|refine blk_drew ?_|refine blk_alloc ?_ _));refine blk_put (cs:=#[.int .i64 ((rd_T33 l0 x6_1).f0),.int .i64 ((rd_T33 l0 x6_1).f1),.int .i64 ((rd_T33 l0 x6_1).f2),.int .i64 ((rd_T33 l0 x6_1).f3),.int .i64 ((rd_T33 l0 x6_1).f4),.int .i64 ((rd_T33 l0 x6_1).f5),.int .i64 0,.int .i64 0,.int .i64 0]) ?_ 6 _ rfl;(with_reducible repeat (first|refine blk_drewN ?_ _|refine blk_drew ?_|refine blk_alloc ?_ _));refine blk_put (cs:=#[.int .i64 ((rd_T33 l0 x6_1).f0),.int .i64 ((rd_T33 l0 x6_1).f1),.int .i64 ((rd_T33 l0 x6_1).f2),.int .i64 ((rd_T33 l0 x6_1).f3),.int .i64 ((rd_T33 l0 x6_1).f4),.int .i64 0,.int .i64 0,.int .i64 0,.int .i64 0]) ?_ 5 _ rfl;(with_reducible repeat (first|refine blk_drewN ?_ _|refine blk_drew ?_|refine blk_alloc ?_ _));refine blk_put (cs:=#[.int .i64 ((rd_T33 l0 x6_1).f0),.int .i64 ((rd_T33 l0 x6_1).f1),.int .i64 ((rd_T33 l0 x6_1).f2),.int .i64 ((rd_T33 l0 x6_1).f3),.int .i64 0,.int .i64 0,.int .i64 0,.int .i64 0,.int .i64 0]) ?_ 4 _ rfl;(with_reducible repeat (first|refine blk_drewN ?_ _|refine blk_drew ?_|refine blk_alloc ?_ _));refine blk_put (cs:=#[.int .i64 ((rd_T33 l0 x6_1).f0),.int .i64 ((rd_T33 l0 x6_1).f1),.int .i64 ((rd_T33 l0 x6_1).f2),.int .i64 0,.int .i64 0,.int .i64 0,.int .i64 0,.int .i64 0,.int .i64 0]) ?_ 3 _ rfl;(with_reducible repeat (first|refine blk_drewN ?_ _|refine blk_drew ?_|refine blk_alloc ?_ _));refine blk_put (cs:=#[.int .i64 ((rd_T33 l0 x6_1).f0),.int .i64 ((rd_T33 l0 x6_1).f1),.int .i64 0,.int .i64 0,.int .i64 0,.int .i64 0,.int .i64 0,.int .i64 0,.int .i64 0]) ?_ 2 _ rfl;(with_reducible repeat (first|refine blk_drewN ?_ _|refine blk_drew ?_|refine blk_alloc ?_ _));refine blk_put (cs:=#[.int .i64 ((rd_T33 l0 x6_1).f0),.int .i64 0,.int .i64 0,.int .i64 0,.int .i64 0,.int .i64 0,.int .i64 0,.int .i64 0,.int .i64 0]) ?_ 1 _ rfl;(with_reducible repeat (first|refine blk_drewN ?_ _|refine blk_drew ?_|refine blk_alloc ?_ _));refine blk_put (cs:=#[.int .i64 0,.int .i64 0,.int .i64 0,.int .i64 0,.int .i64 0,.int .i64 0,.int .i64 0,.int .i64 0,.int .i64 0]) ?_ 0 _ rfl;(with_reducible repeat (first|refine blk_drewN ?_ _|refine blk_drew ?_|refine blk_alloc ?_ _));exact BK152.out⟩,⟨by repeat (first|(with_reducible first|exact HB.out|apply below_alloc|apply pw_below_drewN|apply below_drew1|refine below_set ?_ GE152.out)|exact HB.out)⟩⟩
      case rest =>
       clear HC6
       try clear p1
       try clear q1
       try clear hx1
       try clear p2
       try clear c3
       try clear c3b0
       try clear c4
       try clear c4b0
       try clear c4b1
       try clear c5
       try clear c5b0
       try clear p6
       try clear c9
       try clear c9b0
       try clear c9b1
       try clear hcz10_0
       try clear hcz10_1
       try clear hcz10_2
       try clear hcz10_3
       try clear hcz10_4
       try clear hcz10_5
       try clear hcz10_6
       try clear hcz10_7
       try clear hcz10_8
       try clear hcz11_0
       try clear hcz11_1
       try clear hcz11_2
       try clear hcz11_3
       try clear hcz11_4
       try clear hcz11_5
       try clear hcz11_6
       try clear hcz11_7
       try clear hcz11_8
       try clear hcz8_0
       try clear hcz8_1
       try clear hcz8_2
       try clear hcz8_3
       try clear hcz8_4
       try clear hcz8_5
       try clear hcz8_6
       try clear hcz8_7
       try clear hcz8_8
       try clear hfz10_0
       try clear hfz10_1
       try clear hfz10_2
       try clear hfz10_3
       try clear hfz10_4
       try clear hfz10_5
       try clear hfz10_6
       try clear hfz10_7
       try clear hfz10_8
       try clear hfz11_0
       try clear hfz11_1
       try clear hfz11_2
       try clear hfz11_3
       try clear hfz11_4
       try clear hfz11_5
       try clear hfz11_6
       try clear hfz11_7
       try clear hfz11_8
       try clear hfz8_0
       try clear hfz8_1
       try clear hfz8_2
       try clear hfz8_3
       try clear hfz8_4
       try clear hfz8_5
       try clear hfz8_6
       try clear hfz8_7
       try clear hfz8_8
       try clear hx151_0
       try clear hx151_1
       try clear hx151_2
       try clear hx151_3
       try clear hx151_4
       try clear hx151_5
       try clear hx151_6
       try clear hx151_7
       try clear hx151_8
       try clear p151
       try clear p2
       try clear q151
       obtain ⟨kq,x29_5,rfl,HA,HJ5,HO_5,BK152,HB⟩:=hcut
       cases kq with
       | zero => exact absurd HA.out (by simp [hinterlandref15_without.j1])
       | succ kj5 =>
        have H:=HA.out
        clear HA
        simp only [hinterlandref15_without.j1] at H
        by_cases c12 : x29_5 = true
        ·subst c12
         have H1 : (if x5_1.length < 1954687338268 then (hinterlandref15_without.l0 kj5 l0 a1 (x5_1 ++ [(⟨((rd_T33 l0 x6_1).f0),((rd_T33 l0 x6_1).f1),((rd_T33 l0 x6_1).f2),((rd_T33 l0 x6_1).f3),((rd_T33 l0 x6_1).f4),((rd_T33 l0 x6_1).f5),wrap64 (((rd_T33 l0 x6_1).f6) - 1),((rd_T33 l0 x6_1).f7),((rd_T33 l0 x6_1).f8)⟩ : S33)]) (wrap64 (x6_1 + 1))) else (none)) = some r:=by rw [if_pos rfl] at H;exact H
         clear H
         have H:=H1
         clear H1
         by_cases c13 : x5_1.length < 1954687338268
         ·rw [if_pos c13] at H
          have LMc13:=Aside0.mk c13
          clear c13
          obtain ⟨y153,hy153⟩ : ∃ y_ : List (S33),y_ = (x5_1 ++ [(⟨((rd_T33 l0 x6_1).f0),((rd_T33 l0 x6_1).f1),((rd_T33 l0 x6_1).f2),((rd_T33 l0 x6_1).f3),((rd_T33 l0 x6_1).f4),((rd_T33 l0 x6_1).f5),wrap64 (((rd_T33 l0 x6_1).f6) - 1),((rd_T33 l0 x6_1).f7),((rd_T33 l0 x6_1).f8)⟩ : S33)]):=⟨_,rfl⟩
          replace H : (hinterlandref15_without.l0 kj5 l0 a1 y153 (wrap64 (x6_1 + 1))) = some r:=by first|(rw [hy153];with_reducible exact H)|(have H2_:=(Option.bind_some _ _).symm.trans H;rw [hy153];with_reducible exact H2_)|(have H2_:=(Option.bind_some _ _).symm.trans H;with_reducible exact H2_)|with_reducible exact H|(rw [hy153];exact H)|exact H
          have Ny153:=Aside0.mk hy153
          clear hy153
          have H':=Aside0.mk H
          clear H
          have hcz14_0 : wc.cell? ⟨gb152,0,none⟩ = some (.int .i64 ((rd_T33 l0 x6_1).f0)):=(blk_cell BK152.out 0).trans rfl
          have hcz14_1 : wc.cell? ⟨gb152,1,none⟩ = some (.int .i64 ((rd_T33 l0 x6_1).f1)):=(blk_cell BK152.out 1).trans rfl
          have hcz14_2 : wc.cell? ⟨gb152,2,none⟩ = some (.int .i64 ((rd_T33 l0 x6_1).f2)):=(blk_cell BK152.out 2).trans rfl
          have hcz14_3 : wc.cell? ⟨gb152,3,none⟩ = some (.int .i64 ((rd_T33 l0 x6_1).f3)):=(blk_cell BK152.out 3).trans rfl
          have hcz14_4 : wc.cell? ⟨gb152,4,none⟩ = some (.int .i64 ((rd_T33 l0 x6_1).f4)):=(blk_cell BK152.out 4).trans rfl
          have hcz14_5 : wc.cell? ⟨gb152,5,none⟩ = some (.int .i64 ((rd_T33 l0 x6_1).f5)):=(blk_cell BK152.out 5).trans rfl
          have hcz14_6 : wc.cell? ⟨gb152,6,none⟩ = some (.int .i64 ((rd_T33 l0 x6_1).f6)):=(blk_cell BK152.out 6).trans rfl
          have hcz14_7 : wc.cell? ⟨gb152,7,none⟩ = some (.int .i64 ((rd_T33 l0 x6_1).f7)):=(blk_cell BK152.out 7).trans rfl
          have hcz14_8 : wc.cell? ⟨gb152,8,none⟩ = some (.int .i64 ((rd_T33 l0 x6_1).f8)):=(blk_cell BK152.out 8).trans rfl
          have hfz14_0:=blk_frozen BK152.out 0
          have hfz14_1:=blk_frozen BK152.out 1
          have hfz14_2:=blk_frozen BK152.out 2
          have hfz14_3:=blk_frozen BK152.out 3
          have hfz14_4:=blk_frozen BK152.out 4
          have hfz14_5:=blk_frozen BK152.out 5
          have hfz14_6:=blk_frozen BK152.out 6
          have hfz14_7:=blk_frozen BK152.out 7
          have hfz14_8:=blk_frozen BK152.out 8
          go_wp2_with (first|((with_reducible refine gate_builtin (b:=.append) (xs:=#[.tmp 51,.tmp 53]) rfl ?_);(try (refine gate_guard (by rfl) ?_;dsimp only));at_builtin;refine Kd.R_append k33 (w0:=w) w.heap.size rfl (.tmp 51) (.tmp 53) 22 33 (.agg #[(.int .i64 0),(.int .i64 0),(.int .i64 0),(.int .i64 0),(.int .i64 0),(.int .i64 0),(.int .i64 0),(.int .i64 0),(.int .i64 0)]) 72 rfl Try.underlying22 info33 rfl (by decide) (by omega) u5 x5_1 (⟨((rd_T33 l0 x6_1).f0),((rd_T33 l0 x6_1).f1),((rd_T33 l0 x6_1).f2),((rd_T33 l0 x6_1).f3),((rd_T33 l0 x6_1).f4),((rd_T33 l0 x6_1).f5),wrap64 (((rd_T33 l0 x6_1).f6) - 1),((rd_T33 l0 x6_1).f7),((rd_T33 l0 x6_1).f8)⟩ : S33) [.int .i64 ((rd_T33 l0 x6_1).f0),.int .i64 ((rd_T33 l0 x6_1).f1),.int .i64 ((rd_T33 l0 x6_1).f2),.int .i64 ((rd_T33 l0 x6_1).f3),.int .i64 ((rd_T33 l0 x6_1).f4),.int .i64 ((rd_T33 l0 x6_1).f5),.int .i64 (wrap64 (((rd_T33 l0 x6_1).f6) - 1)),.int .i64 ((rd_T33 l0 x6_1).f7),.int .i64 ((rd_T33 l0 x6_1).f8)] (fun k_ => k_ ≠ gb152) (fun _ => False) rfl (by first|(go_simp;done)|(go_simp;rfl)) ?aP (fun _ hk => hk.elim) ?aF ?aO ?aB ?aS ?aL ?_;(case aP => exact k33_mkM _ _ _ (⟨((rd_T33 l0 x6_1).f0),((rd_T33 l0 x6_1).f1),((rd_T33 l0 x6_1).f2),((rd_T33 l0 x6_1).f3),((rd_T33 l0 x6_1).f4),((rd_T33 l0 x6_1).f5),wrap64 (((rd_T33 l0 x6_1).f6) - 1),((rd_T33 l0 x6_1).f7),((rd_T33 l0 x6_1).f8)⟩ : S33));(case aB => exact (by repeat (first|(with_reducible first|exact HB.out|apply below_alloc|apply pw_below_drewN|apply below_drew1|refine below_set ?_ GE152.out)|exact HB.out)));(case aF => exact (fun k_ hk => Kd.freshB (g:=gb152) (o:=.cells #[.int .i64 ((rd_T33 l0 x6_1).f0),.int .i64 ((rd_T33 l0 x6_1).f1),.int .i64 ((rd_T33 l0 x6_1).f2),.int .i64 ((rd_T33 l0 x6_1).f3),.int .i64 ((rd_T33 l0 x6_1).f4),.int .i64 ((rd_T33 l0 x6_1).f5),.int .i64 (wrap64 (((rd_T33 l0 x6_1).f6) - 1)),.int .i64 ((rd_T33 l0 x6_1).f7),.int .i64 ((rd_T33 l0 x6_1).f8)] 33 (0,0)) (by (with_reducible repeat (first|refine blk_drewN ?_ _|refine blk_drew ?_|refine blk_alloc ?_ _));refine blk_put (cs:=#[.int .i64 ((rd_T33 l0 x6_1).f0),.int .i64 ((rd_T33 l0 x6_1).f1),.int .i64 ((rd_T33 l0 x6_1).f2),.int .i64 ((rd_T33 l0 x6_1).f3),.int .i64 ((rd_T33 l0 x6_1).f4),.int .i64 ((rd_T33 l0 x6_1).f5),.int .i64 ((rd_T33 l0 x6_1).f6),.int .i64 ((rd_T33 l0 x6_1).f7),.int .i64 ((rd_T33 l0 x6_1).f8)]) ?_ 6 _ rfl;(with_reducible repeat (first|refine blk_drewN ?_ _|refine blk_drew ?_|refine blk_alloc ?_ _));exact BK152.out) k_ hk));(case aO => exact (by (with_reducible repeat (first|apply Kd.R_alloc|apply Kd.R_drewN|apply Kd.R_drew));exact Kd.R_mono (Kd.R_far (p:=⟨gb152,6,none⟩) (Kd.R_mono HO_5.out (fun k_ hk => (⟨hk,hk⟩ : _ ∧ k_ ≠ gb152))) (fun _ hk => hk.2) (.int .i64 (wrap64 (((rd_T33 l0 x6_1).f6) - 1)))) (fun _ hk => hk.1)));(case aS => exact (below_size (by repeat (first|(with_reducible first|exact HB.out|apply below_alloc|apply pw_below_drewN|apply below_drew1|refine below_set ?_ GE152.out)|exact HB.out))));(case aL => have:=LMc13.out;omega);intro v154 w15 ho hb hg hat;rw [← Ny153.out] at ho;have n0_:=Aside0.mk (blk_grown (g:=gb152) (o:=.cells #[.int .i64 ((rd_T33 l0 x6_1).f0),.int .i64 ((rd_T33 l0 x6_1).f1),.int .i64 ((rd_T33 l0 x6_1).f2),.int .i64 ((rd_T33 l0 x6_1).f3),.int .i64 ((rd_T33 l0 x6_1).f4),.int .i64 ((rd_T33 l0 x6_1).f5),.int .i64 (wrap64 (((rd_T33 l0 x6_1).f6) - 1)),.int .i64 ((rd_T33 l0 x6_1).f7),.int .i64 ((rd_T33 l0 x6_1).f8)] 33 (0,0)) (by (with_reducible repeat (first|refine blk_drewN ?_ _|refine blk_drew ?_|refine blk_alloc ?_ _));refine blk_put (cs:=#[.int .i64 ((rd_T33 l0 x6_1).f0),.int .i64 ((rd_T33 l0 x6_1).f1),.int .i64 ((rd_T33 l0 x6_1).f2),.int .i64 ((rd_T33 l0 x6_1).f3),.int .i64 ((rd_T33 l0 x6_1).f4),.int .i64 ((rd_T33 l0 x6_1).f5),.int .i64 ((rd_T33 l0 x6_1).f6),.int .i64 ((rd_T33 l0 x6_1).f7),.int .i64 ((rd_T33 l0 x6_1).f8)]) ?_ 6 _ rfl;(with_reducible repeat (first|refine blk_drewN ?_ _|refine blk_drew ?_|refine blk_alloc ?_ _));exact BK152.out) hg (Kd.R_away HO_5.out (fun _ hk => hk)));have n1_:=Aside0.mk (hb);have n2_:=Aside0.mk (ho);clear BK152;clear HB;clear HO_5;have BK152:=n0_;have HB:=n1_;have HO155:=n2_;clear n0_ n1_ n2_;clear ho hb hg hat))
          go_roundg kj5
          case measure => have:=HK1.out;have:=HJ5.out;omega
          case rel => exact ⟨(y153),(wrap64 (x6_1 + 1)),(by first|rfl|(simp;done)|(simp [*];done)),H',⟨by have:=HK1.out;have:=HJ5.out;omega⟩,⟨by (with_reducible repeat (first|apply Kd.R_alloc|apply Kd.R_drewN|apply Kd.R_drew));exact Kd.R_mono HO155.out (fun _ hk => trivial)⟩,⟨by repeat (first|(with_reducible first|exact HB.out|apply below_alloc|apply pw_below_drewN|apply below_drew1|refine below_set ?_ GE152.out)|exact HB.out)⟩⟩
         ·rw [if_neg c13] at H
          exact absurd H (by simp)
        ·replace c12:=Bool.eq_false_iff.mpr c12
         subst c12
         have H1 : (if ((rd_T33 l0 x6_1).f0) = 2 then (if ((rd_T33 l0 x6_1).f6) = a1 then (if a1 = (wrap64 ((l0.length : Int) - 1)) then (if x5_1.length < 1954687338268 then (hinterlandref15_without.l0 kj5 l0 a1 (x5_1 ++ [(⟨((rd_T33 l0 x6_1).f0),((rd_T33 l0 x6_1).f1),((rd_T33 l0 x6_1).f2),((rd_T33 l0 x6_1).f3),((rd_T33 l0 x6_1).f4),((rd_T33 l0 x6_1).f5),0,((rd_T33 l0 x6_1).f7),((rd_T33 l0 x6_1).f8)⟩ : S33)]) (wrap64 (x6_1 + 1))) else (none)) else (if x5_1.length < 1954687338268 then (hinterlandref15_without.l0 kj5 l0 a1 (x5_1 ++ [(⟨((rd_T33 l0 x6_1).f0),((rd_T33 l0 x6_1).f1),((rd_T33 l0 x6_1).f2),((rd_T33 l0 x6_1).f3),((rd_T33 l0 x6_1).f4),((rd_T33 l0 x6_1).f5),((rd_T33 l0 x6_1).f6),((rd_T33 l0 x6_1).f7),((rd_T33 l0 x6_1).f8)⟩ : S33)]) (wrap64 (x6_1 + 1))) else (none))) else (if x5_1.length < 1954687338268 then (hinterlandref15_without.l0 kj5 l0 a1 (x5_1 ++ [(⟨((rd_T33 l0 x6_1).f0),((rd_T33 l0 x6_1).f1),((rd_T33 l0 x6_1).f2),((rd_T33 l0 x6_1).f3),((rd_T33 l0 x6_1).f4),((rd_T33 l0 x6_1).f5),((rd_T33 l0 x6_1).f6),((rd_T33 l0 x6_1).f7),((rd_T33 l0 x6_1).f8)⟩ : S33)]) (wrap64 (x6_1 + 1))) else (none))) else (if x5_1.length < 1954687338268 then (hinterlandref15_without.l0 kj5 l0 a1 (x5_1 ++ [(⟨((rd_T33 l0 x6_1).f0),((rd_T33 l0 x6_1).f1),((rd_T33 l0 x6_1).f2),((rd_T33 l0 x6_1).f3),((rd_T33 l0 x6_1).f4),((rd_T33 l0 x6_1).f5),((rd_T33 l0 x6_1).f6),((rd_T33 l0 x6_1).f7),((rd_T33 l0 x6_1).f8)⟩ : S33)]) (wrap64 (x6_1 + 1))) else (none))) = some r:=by rw [if_neg (show ¬ (false = true) by decide)] at H;exact H
         clear H
         have H:=H1
         clear H1
         by_cases c16 : ((rd_T33 l0 x6_1).f0) = 2
         ·rw [if_pos c16] at H
          have c16b0 : (((rd_T33 l0 x6_1).f0) == 2) = true:=beq_iff_eq.mpr c16
          have c16b1 : (((rd_T33 l0 x6_1).f0) != 2) = false:=bne_eq_false_iff_eq.mpr c16
          clear c16
          by_cases c17 : ((rd_T33 l0 x6_1).f6) = a1
          ·rw [if_pos c17] at H
           have c17b0 : (((rd_T33 l0 x6_1).f6) == a1) = true:=beq_iff_eq.mpr c17
           have c17b1 : (((rd_T33 l0 x6_1).f6) != a1) = false:=bne_eq_false_iff_eq.mpr c17
           clear c17
           by_cases c18 : a1 = (wrap64 ((l0.length : Int) - 1))
           ·rw [if_pos c18] at H
            have c18b0 : (a1 == (wrap64 ((l0.length : Int) - 1))) = true:=beq_iff_eq.mpr c18
            have c18b1 : (a1 != (wrap64 ((l0.length : Int) - 1))) = false:=bne_eq_false_iff_eq.mpr c18
            clear c18
            by_cases c19 : x5_1.length < 1954687338268
            ·rw [if_pos c19] at H
             have LMc19:=Aside0.mk c19
             clear c19
             obtain ⟨y156,hy156⟩ : ∃ y_ : List (S33),y_ = (x5_1 ++ [(⟨((rd_T33 l0 x6_1).f0),((rd_T33 l0 x6_1).f1),((rd_T33 l0 x6_1).f2),((rd_T33 l0 x6_1).f3),((rd_T33 l0 x6_1).f4),((rd_T33 l0 x6_1).f5),0,((rd_T33 l0 x6_1).f7),((rd_T33 l0 x6_1).f8)⟩ : S33)]):=⟨_,rfl⟩
             replace H : (hinterlandref15_without.l0 kj5 l0 a1 y156 (wrap64 (x6_1 + 1))) = some r:=by first|(rw [hy156];with_reducible exact H)|(have H2_:=(Option.bind_some _ _).symm.trans H;rw [hy156];with_reducible exact H2_)|(have H2_:=(Option.bind_some _ _).symm.trans H;with_reducible exact H2_)|with_reducible exact H|(rw [hy156];exact H)|exact H
             have Ny156:=Aside0.mk hy156
             clear hy156
             have H':=Aside0.mk H
             clear H
             have hcz20_0 : wc.cell? ⟨gb152,0,none⟩ = some (.int .i64 ((rd_T33 l0 x6_1).f0)):=(blk_cell BK152.out 0).trans rfl
             have hcz20_1 : wc.cell? ⟨gb152,1,none⟩ = some (.int .i64 ((rd_T33 l0 x6_1).f1)):=(blk_cell BK152.out 1).trans rfl
             have hcz20_2 : wc.cell? ⟨gb152,2,none⟩ = some (.int .i64 ((rd_T33 l0 x6_1).f2)):=(blk_cell BK152.out 2).trans rfl
             have hcz20_3 : wc.cell? ⟨gb152,3,none⟩ = some (.int .i64 ((rd_T33 l0 x6_1).f3)):=(blk_cell BK152.out 3).trans rfl
             have hcz20_4 : wc.cell? ⟨gb152,4,none⟩ = some (.int .i64 ((rd_T33 l0 x6_1).f4)):=(blk_cell BK152.out 4).trans rfl
             have hcz20_5 : wc.cell? ⟨gb152,5,none⟩ = some (.int .i64 ((rd_T33 l0 x6_1).f5)):=(blk_cell BK152.out 5).trans rfl
             have hcz20_6 : wc.cell? ⟨gb152,6,none⟩ = some (.int .i64 ((rd_T33 l0 x6_1).f6)):=(blk_cell BK152.out 6).trans rfl
             have hcz20_7 : wc.cell? ⟨gb152,7,none⟩ = some (.int .i64 ((rd_T33 l0 x6_1).f7)):=(blk_cell BK152.out 7).trans rfl
             have hcz20_8 : wc.cell? ⟨gb152,8,none⟩ = some (.int .i64 ((rd_T33 l0 x6_1).f8)):=(blk_cell BK152.out 8).trans rfl
             have hfz20_0:=blk_frozen BK152.out 0
             have hfz20_1:=blk_frozen BK152.out 1
             have hfz20_2:=blk_frozen BK152.out 2
             have hfz20_3:=blk_frozen BK152.out 3
             have hfz20_4:=blk_frozen BK152.out 4
             have hfz20_5:=blk_frozen BK152.out 5
             have hfz20_6:=blk_frozen BK152.out 6
             have hfz20_7:=blk_frozen BK152.out 7
             have hfz20_8:=blk_frozen BK152.out 8
             go_wp2_with (first|((with_reducible refine gate_builtin (b:=.append) (xs:=#[.tmp 51,.tmp 53]) rfl ?_);(try (refine gate_guard (by rfl) ?_;dsimp only));at_builtin;refine Kd.R_append k33 (w0:=w) w.heap.size rfl (.tmp 51) (.tmp 53) 22 33 (.agg #[(.int .i64 0),(.int .i64 0),(.int .i64 0),(.int .i64 0),(.int .i64 0),(.int .i64 0),(.int .i64 0),(.int .i64 0),(.int .i64 0)]) 72 rfl Try.underlying22 info33 rfl (by decide) (by omega) u5 x5_1 (⟨((rd_T33 l0 x6_1).f0),((rd_T33 l0 x6_1).f1),((rd_T33 l0 x6_1).f2),((rd_T33 l0 x6_1).f3),((rd_T33 l0 x6_1).f4),((rd_T33 l0 x6_1).f5),0,((rd_T33 l0 x6_1).f7),((rd_T33 l0 x6_1).f8)⟩ : S33) [.int .i64 ((rd_T33 l0 x6_1).f0),.int .i64 ((rd_T33 l0 x6_1).f1),.int .i64 ((rd_T33 l0 x6_1).f2),.int .i64 ((rd_T33 l0 x6_1).f3),.int .i64 ((rd_T33 l0 x6_1).f4),.int .i64 ((rd_T33 l0 x6_1).f5),.int .i64 0,.int .i64 ((rd_T33 l0 x6_1).f7),.int .i64 ((rd_T33 l0 x6_1).f8)] (fun k_ => k_ ≠ gb152) (fun _ => False) rfl (by first|(go_simp;done)|(go_simp;rfl)) ?aP (fun _ hk => hk.elim) ?aF ?aO ?aB ?aS ?aL ?_;(case aP => exact k33_mkM _ _ _ (⟨((rd_T33 l0 x6_1).f0),((rd_T33 l0 x6_1).f1),((rd_T33 l0 x6_1).f2),((rd_T33 l0 x6_1).f3),((rd_T33 l0 x6_1).f4),((rd_T33 l0 x6_1).f5),0,((rd_T33 l0 x6_1).f7),((rd_T33 l0 x6_1).f8)⟩ : S33));(case aB => exact (by repeat (first|(with_reducible first|exact HB.out|apply below_alloc|apply pw_below_drewN|apply below_drew1|refine below_set ?_ GE152.out)|exact HB.out)));(case aF => exact (fun k_ hk => Kd.freshB (g:=gb152) (o:=.cells #[.int .i64 ((rd_T33 l0 x6_1).f0),.int .i64 ((rd_T33 l0 x6_1).f1),.int .i64 ((rd_T33 l0 x6_1).f2),.int .i64 ((rd_T33 l0 x6_1).f3),.int .i64 ((rd_T33 l0 x6_1).f4),.int .i64 ((rd_T33 l0 x6_1).f5),.int .i64 0,.int .i64 ((rd_T33 l0 x6_1).f7),.int .i64 ((rd_T33 l0 x6_1).f8)] 33 (0,0)) (by (with_reducible repeat (first|refine blk_drewN ?_ _|refine blk_drew ?_|refine blk_alloc ?_ _));refine blk_put (cs:=#[.int .i64 ((rd_T33 l0 x6_1).f0),.int .i64 ((rd_T33 l0 x6_1).f1),.int .i64 ((rd_T33 l0 x6_1).f2),.int .i64 ((rd_T33 l0 x6_1).f3),.int .i64 ((rd_T33 l0 x6_1).f4),.int .i64 ((rd_T33 l0 x6_1).f5),.int .i64 ((rd_T33 l0 x6_1).f6),.int .i64 ((rd_T33 l0 x6_1).f7),.int .i64 ((rd_T33 l0 x6_1).f8)]) ?_ 6 _ rfl;(with_reducible repeat (first|refine blk_drewN ?_ _|refine blk_drew ?_|refine blk_alloc ?_ _));exact BK152.out) k_ hk));(case aO => exact (by (with_reducible repeat (first|apply Kd.R_alloc|apply Kd.R_drewN|apply Kd.R_drew));exact Kd.R_mono (Kd.R_far (p:=⟨gb152,6,none⟩) (Kd.R_mono HO_5.out (fun k_ hk => (⟨hk,hk⟩ : _ ∧ k_ ≠ gb152))) (fun _ hk => hk.2) (.int .i64 0)) (fun _ hk => hk.1)));(case aS => exact (below_size (by repeat (first|(with_reducible first|exact HB.out|apply below_alloc|apply pw_below_drewN|apply below_drew1|refine below_set ?_ GE152.out)|exact HB.out))));(case aL => have:=LMc19.out;omega);intro v157 w21 ho hb hg hat;rw [← Ny156.out] at ho;have n0_:=Aside0.mk (blk_grown (g:=gb152) (o:=.cells #[.int .i64 ((rd_T33 l0 x6_1).f0),.int .i64 ((rd_T33 l0 x6_1).f1),.int .i64 ((rd_T33 l0 x6_1).f2),.int .i64 ((rd_T33 l0 x6_1).f3),.int .i64 ((rd_T33 l0 x6_1).f4),.int .i64 ((rd_T33 l0 x6_1).f5),.int .i64 0,.int .i64 ((rd_T33 l0 x6_1).f7),.int .i64 ((rd_T33 l0 x6_1).f8)] 33 (0,0)) (by (with_reducible repeat (first|refine blk_drewN ?_ _|refine blk_drew ?_|refine blk_alloc ?_ _));refine blk_put (cs:=#[.int .i64 ((rd_T33 l0 x6_1).f0),.int .i64 ((rd_T33 l0 x6_1).f1),.int .i64 ((rd_T33 l0 x6_1).f2),.int .i64 ((rd_T33 l0 x6_1).f3),.int .i64 ((rd_T33 l0 x6_1).f4),.int .i64 ((rd_T33 l0 x6_1).f5),.int .i64 ((rd_T33 l0 x6_1).f6),.int .i64 ((rd_T33 l0 x6_1).f7),.int .i64 ((rd_T33 l0 x6_1).f8)]) ?_ 6 _ rfl;(with_reducible repeat (first|refine blk_drewN ?_ _|refine blk_drew ?_|refine blk_alloc ?_ _));exact BK152.out) hg (Kd.R_away HO_5.out (fun _ hk => hk)));have n1_:=Aside0.mk (hb);have n2_:=Aside0.mk (ho);clear BK152;clear HB;clear HO_5;have BK152:=n0_;have HB:=n1_;have HO158:=n2_;clear n0_ n1_ n2_;clear ho hb hg hat))
             go_roundg kj5
             case measure => have:=HK1.out;have:=HJ5.out;omega
             case rel => exact ⟨(y156),(wrap64 (x6_1 + 1)),(by first|rfl|(simp;done)|(simp [*];done)),H',⟨by have:=HK1.out;have:=HJ5.out;omega⟩,⟨by (with_reducible repeat (first|apply Kd.R_alloc|apply Kd.R_drewN|apply Kd.R_drew));exact Kd.R_mono HO158.out (fun _ hk => trivial)⟩,⟨by repeat (first|(with_reducible first|exact HB.out|apply below_alloc|apply pw_below_drewN|apply below_drew1|refine below_set ?_ GE152.out)|exact HB.out)⟩⟩
            ·rw [if_neg c19] at H
             exact absurd H (by simp)
           ·rw [if_neg c18] at H
            have c18b0 : (a1 == (wrap64 ((l0.length : Int) - 1))) = false:=beq_eq_false_iff_ne.mpr c18
            have c18b1 : (a1 != (wrap64 ((l0.length : Int) - 1))) = true:=bne_iff_ne.mpr c18
            by_cases c22 : x5_1.length < 1954687338268
            ·rw [if_pos c22] at H
             have LMc22:=Aside0.mk c22
             clear c22
             obtain ⟨y159,hy159⟩ : ∃ y_ : List (S33),y_ = (x5_1 ++ [(⟨((rd_T33 l0 x6_1).f0),((rd_T33 l0 x6_1).f1),((rd_T33 l0 x6_1).f2),((rd_T33 l0 x6_1).f3),((rd_T33 l0 x6_1).f4),((rd_T33 l0 x6_1).f5),((rd_T33 l0 x6_1).f6),((rd_T33 l0 x6_1).f7),((rd_T33 l0 x6_1).f8)⟩ : S33)]):=⟨_,rfl⟩
             replace H : (hinterlandref15_without.l0 kj5 l0 a1 y159 (wrap64 (x6_1 + 1))) = some r:=by first|(rw [hy159];with_reducible exact H)|(have H2_:=(Option.bind_some _ _).symm.trans H;rw [hy159];with_reducible exact H2_)|(have H2_:=(Option.bind_some _ _).symm.trans H;with_reducible exact H2_)|with_reducible exact H|(rw [hy159];exact H)|exact H
             have Ny159:=Aside0.mk hy159
             clear hy159
             have H':=Aside0.mk H
             clear H
             have hcz23_0 : wc.cell? ⟨gb152,0,none⟩ = some (.int .i64 ((rd_T33 l0 x6_1).f0)):=(blk_cell BK152.out 0).trans rfl
             have hcz23_1 : wc.cell? ⟨gb152,1,none⟩ = some (.int .i64 ((rd_T33 l0 x6_1).f1)):=(blk_cell BK152.out 1).trans rfl
             have hcz23_2 : wc.cell? ⟨gb152,2,none⟩ = some (.int .i64 ((rd_T33 l0 x6_1).f2)):=(blk_cell BK152.out 2).trans rfl
             have hcz23_3 : wc.cell? ⟨gb152,3,none⟩ = some (.int .i64 ((rd_T33 l0 x6_1).f3)):=(blk_cell BK152.out 3).trans rfl
             have hcz23_4 : wc.cell? ⟨gb152,4,none⟩ = some (.int .i64 ((rd_T33 l0 x6_1).f4)):=(blk_cell BK152.out 4).trans rfl
             have hcz23_5 : wc.cell? ⟨gb152,5,none⟩ = some (.int .i64 ((rd_T33 l0 x6_1).f5)):=(blk_cell BK152.out 5).trans rfl
             have hcz23_6 : wc.cell? ⟨gb152,6,none⟩ = some (.int .i64 ((rd_T33 l0 x6_1).f6)):=(blk_cell BK152.out 6).trans rfl
             have hcz23_7 : wc.cell? ⟨gb152,7,none⟩ = some (.int .i64 ((rd_T33 l0 x6_1).f7)):=(blk_cell BK152.out 7).trans rfl
             have hcz23_8 : wc.cell? ⟨gb152,8,none⟩ = some (.int .i64 ((rd_T33 l0 x6_1).f8)):=(blk_cell BK152.out 8).trans rfl
             have hfz23_0:=blk_frozen BK152.out 0
             have hfz23_1:=blk_frozen BK152.out 1
             have hfz23_2:=blk_frozen BK152.out 2
             have hfz23_3:=blk_frozen BK152.out 3
             have hfz23_4:=blk_frozen BK152.out 4
             have hfz23_5:=blk_frozen BK152.out 5
             have hfz23_6:=blk_frozen BK152.out 6
             have hfz23_7:=blk_frozen BK152.out 7
             have hfz23_8:=blk_frozen BK152.out 8
             go_wp2_with (first|((with_reducible refine gate_builtin (b:=.append) (xs:=#[.tmp 51,.tmp 53]) rfl ?_);(try (refine gate_guard (by rfl) ?_;dsimp only));at_builtin;refine Kd.R_append k33 (w0:=w) w.heap.size rfl (.tmp 51) (.tmp 53) 22 33 (.agg #[(.int .i64 0),(.int .i64 0),(.int .i64 0),(.int .i64 0),(.int .i64 0),(.int .i64 0),(.int .i64 0),(.int .i64 0),(.int .i64 0)]) 72 rfl Try.underlying22 info33 rfl (by decide) (by omega) u5 x5_1 (⟨((rd_T33 l0 x6_1).f0),((rd_T33 l0 x6_1).f1),((rd_T33 l0 x6_1).f2),((rd_T33 l0 x6_1).f3),((rd_T33 l0 x6_1).f4),((rd_T33 l0 x6_1).f5),((rd_T33 l0 x6_1).f6),((rd_T33 l0 x6_1).f7),((rd_T33 l0 x6_1).f8)⟩ : S33) [.int .i64 ((rd_T33 l0 x6_1).f0),.int .i64 ((rd_T33 l0 x6_1).f1),.int .i64 ((rd_T33 l0 x6_1).f2),.int .i64 ((rd_T33 l0 x6_1).f3),.int .i64 ((rd_T33 l0 x6_1).f4),.int .i64 ((rd_T33 l0 x6_1).f5),.int .i64 ((rd_T33 l0 x6_1).f6),.int .i64 ((rd_T33 l0 x6_1).f7),.int .i64 ((rd_T33 l0 x6_1).f8)] (fun k_ => k_ ≠ gb152) (fun _ => False) rfl rfl ?aP (fun _ hk => hk.elim) ?aF ?aO ?aB ?aS ?aL ?_;(case aP => exact k33_mkM _ _ _ (⟨((rd_T33 l0 x6_1).f0),((rd_T33 l0 x6_1).f1),((rd_T33 l0 x6_1).f2),((rd_T33 l0 x6_1).f3),((rd_T33 l0 x6_1).f4),((rd_T33 l0 x6_1).f5),((rd_T33 l0 x6_1).f6),((rd_T33 l0 x6_1).f7),((rd_T33 l0 x6_1).f8)⟩ : S33));(case aB => exact (by repeat (first|(with_reducible first|exact HB.out|apply below_alloc|apply pw_below_drewN|apply below_drew1|refine below_set ?_ GE152.out)|exact HB.out)));(case aF => exact (fun k_ hk => Kd.freshB (g:=gb152) (o:=.cells #[.int .i64 ((rd_T33 l0 x6_1).f0),.int .i64 ((rd_T33 l0 x6_1).f1),.int .i64 ((rd_T33 l0 x6_1).f2),.int .i64 ((rd_T33 l0 x6_1).f3),.int .i64 ((rd_T33 l0 x6_1).f4),.int .i64 ((rd_T33 l0 x6_1).f5),.int .i64 ((rd_T33 l0 x6_1).f6),.int .i64 ((rd_T33 l0 x6_1).f7),.int .i64 ((rd_T33 l0 x6_1).f8)] 33 (0,0)) (by (with_reducible repeat (first|refine blk_drewN ?_ _|refine blk_drew ?_|refine blk_alloc ?_ _));exact BK152.out) k_ hk));(case aO => exact (by (with_reducible repeat (first|apply Kd.R_alloc|apply Kd.R_drewN|apply Kd.R_drew));exact HO_5.out));(case aS => exact (below_size (by repeat (first|(with_reducible first|exact HB.out|apply below_alloc|apply pw_below_drewN|apply below_drew1|refine below_set ?_ GE152.out)|exact HB.out))));(case aL => have:=LMc22.out;omega);intro v160 w24 ho hb hg hat;rw [← Ny159.out] at ho;have n0_:=Aside0.mk (blk_grown (g:=gb152) (o:=.cells #[.int .i64 ((rd_T33 l0 x6_1).f0),.int .i64 ((rd_T33 l0 x6_1).f1),.int .i64 ((rd_T33 l0 x6_1).f2),.int .i64 ((rd_T33 l0 x6_1).f3),.int .i64 ((rd_T33 l0 x6_1).f4),.int .i64 ((rd_T33 l0 x6_1).f5),.int .i64 ((rd_T33 l0 x6_1).f6),.int .i64 ((rd_T33 l0 x6_1).f7),.int .i64 ((rd_T33 l0 x6_1).f8)] 33 (0,0)) (by (with_reducible repeat (first|refine blk_drewN ?_ _|refine blk_drew ?_|refine blk_alloc ?_ _));exact BK152.out) hg (Kd.R_away HO_5.out (fun _ hk => hk)));have n1_:=Aside0.mk (hb);have n2_:=Aside0.mk (ho);clear BK152;clear HB;clear HO_5;have BK152:=n0_;have HB:=n1_;have HO161:=n2_;clear n0_ n1_ n2_;clear ho hb hg hat))
             go_roundg kj5
             case measure => have:=HK1.out;have:=HJ5.out;omega
             case rel => exact ⟨(y159),(wrap64 (x6_1 + 1)),(by first|rfl|(simp;done)|(simp [*];done)),H',⟨by have:=HK1.out;have:=HJ5.out;omega⟩,⟨by (with_reducible repeat (first|apply Kd.R_alloc|apply Kd.R_drewN|apply Kd.R_drew));exact Kd.R_mono HO161.out (fun _ hk => trivial)⟩,⟨by repeat (first|(with_reducible first|exact HB.out|apply below_alloc|apply pw_below_drewN|apply below_drew1|refine below_set ?_ GE152.out)|exact HB.out)⟩⟩
            ·rw [if_neg c22] at H
             exact absurd H (by simp)
          ·rw [if_neg c17] at H
           have c17b0 : (((rd_T33 l0 x6_1).f6) == a1) = false:=beq_eq_false_iff_ne.mpr c17
           have c17b1 : (((rd_T33 l0 x6_1).f6) != a1) = true:=bne_iff_ne.mpr c17
           by_cases c25 : x5_1.length < 1954687338268
           ·rw [if_pos c25] at H
            have LMc25:=Aside0.mk c25
            clear c25
            obtain ⟨y162,hy162⟩ : ∃ y_ : List (S33),y_ = (x5_1 ++ [(⟨((rd_T33 l0 x6_1).f0),((rd_T33 l0 x6_1).f1),((rd_T33 l0 x6_1).f2),((rd_T33 l0 x6_1).f3),((rd_T33 l0 x6_1).f4),((rd_T33 l0 x6_1).f5),((rd_T33 l0 x6_1).f6),((rd_T33 l0 x6_1).f7),((rd_T33 l0 x6_1).f8)⟩ : S33)]):=⟨_,rfl⟩
            replace H : (hinterlandref15_without.l0 kj5 l0 a1 y162 (wrap64 (x6_1 + 1))) = some r:=by first|(rw [hy162];with_reducible exact H)|(have H2_:=(Option.bind_some _ _).symm.trans H;rw [hy162];with_reducible exact H2_)|(have H2_:=(Option.bind_some _ _).symm.trans H;with_reducible exact H2_)|with_reducible exact H|(rw [hy162];exact H)|exact H
            have Ny162:=Aside0.mk hy162
            clear hy162
            have H':=Aside0.mk H
            clear H
            have hcz26_0 : wc.cell? ⟨gb152,0,none⟩ = some (.int .i64 ((rd_T33 l0 x6_1).f0)):=(blk_cell BK152.out 0).trans rfl
            have hcz26_1 : wc.cell? ⟨gb152,1,none⟩ = some (.int .i64 ((rd_T33 l0 x6_1).f1)):=(blk_cell BK152.out 1).trans rfl
            have hcz26_2 : wc.cell? ⟨gb152,2,none⟩ = some (.int .i64 ((rd_T33 l0 x6_1).f2)):=(blk_cell BK152.out 2).trans rfl
            have hcz26_3 : wc.cell? ⟨gb152,3,none⟩ = some (.int .i64 ((rd_T33 l0 x6_1).f3)):=(blk_cell BK152.out 3).trans rfl
            have hcz26_4 : wc.cell? ⟨gb152,4,none⟩ = some (.int .i64 ((rd_T33 l0 x6_1).f4)):=(blk_cell BK152.out 4).trans rfl
            have hcz26_5 : wc.cell? ⟨gb152,5,none⟩ = some (.int .i64 ((rd_T33 l0 x6_1).f5)):=(blk_cell BK152.out 5).trans rfl
            have hcz26_6 : wc.cell? ⟨gb152,6,none⟩ = some (.int .i64 ((rd_T33 l0 x6_1).f6)):=(blk_cell BK152.out 6).trans rfl
            have hcz26_7 : wc.cell? ⟨gb152,7,none⟩ = some (.int .i64 ((rd_T33 l0 x6_1).f7)):=(blk_cell BK152.out 7).trans rfl
            have hcz26_8 : wc.cell? ⟨gb152,8,none⟩ = some (.int .i64 ((rd_T33 l0 x6_1).f8)):=(blk_cell BK152.out 8).trans rfl
            have hfz26_0:=blk_frozen BK152.out 0
            have hfz26_1:=blk_frozen BK152.out 1
            have hfz26_2:=blk_frozen BK152.out 2
            have hfz26_3:=blk_frozen BK152.out 3
            have hfz26_4:=blk_frozen BK152.out 4
            have hfz26_5:=blk_frozen BK152.out 5
            have hfz26_6:=blk_frozen BK152.out 6
            have hfz26_7:=blk_frozen BK152.out 7
            have hfz26_8:=blk_frozen BK152.out 8
            go_wp2_with (first|((with_reducible refine gate_builtin (b:=.append) (xs:=#[.tmp 51,.tmp 53]) rfl ?_);(try (refine gate_guard (by rfl) ?_;dsimp only));at_builtin;refine Kd.R_append k33 (w0:=w) w.heap.size rfl (.tmp 51) (.tmp 53) 22 33 (.agg #[(.int .i64 0),(.int .i64 0),(.int .i64 0),(.int .i64 0),(.int .i64 0),(.int .i64 0),(.int .i64 0),(.int .i64 0),(.int .i64 0)]) 72 rfl Try.underlying22 info33 rfl (by decide) (by omega) u5 x5_1 (⟨((rd_T33 l0 x6_1).f0),((rd_T33 l0 x6_1).f1),((rd_T33 l0 x6_1).f2),((rd_T33 l0 x6_1).f3),((rd_T33 l0 x6_1).f4),((rd_T33 l0 x6_1).f5),((rd_T33 l0 x6_1).f6),((rd_T33 l0 x6_1).f7),((rd_T33 l0 x6_1).f8)⟩ : S33) [.int .i64 ((rd_T33 l0 x6_1).f0),.int .i64 ((rd_T33 l0 x6_1).f1),.int .i64 ((rd_T33 l0 x6_1).f2),.int .i64 ((rd_T33 l0 x6_1).f3),.int .i64 ((rd_T33 l0 x6_1).f4),.int .i64 ((rd_T33 l0 x6_1).f5),.int .i64 ((rd_T33 l0 x6_1).f6),.int .i64 ((rd_T33 l0 x6_1).f7),.int .i64 ((rd_T33 l0 x6_1).f8)] (fun k_ => k_ ≠ gb152) (fun _ => False) rfl rfl ?aP (fun _ hk => hk.elim) ?aF ?aO ?aB ?aS ?aL ?_;(case aP => exact k33_mkM _ _ _ (⟨((rd_T33 l0 x6_1).f0),((rd_T33 l0 x6_1).f1),((rd_T33 l0 x6_1).f2),((rd_T33 l0 x6_1).f3),((rd_T33 l0 x6_1).f4),((rd_T33 l0 x6_1).f5),((rd_T33 l0 x6_1).f6),((rd_T33 l0 x6_1).f7),((rd_T33 l0 x6_1).f8)⟩ : S33));(case aB => exact (by repeat (first|(with_reducible first|exact HB.out|apply below_alloc|apply pw_below_drewN|apply below_drew1|refine below_set ?_ GE152.out)|exact HB.out)));(case aF => exact (fun k_ hk => Kd.freshB (g:=gb152) (o:=.cells #[.int .i64 ((rd_T33 l0 x6_1).f0),.int .i64 ((rd_T33 l0 x6_1).f1),.int .i64 ((rd_T33 l0 x6_1).f2),.int .i64 ((rd_T33 l0 x6_1).f3),.int .i64 ((rd_T33 l0 x6_1).f4),.int .i64 ((rd_T33 l0 x6_1).f5),.int .i64 ((rd_T33 l0 x6_1).f6),.int .i64 ((rd_T33 l0 x6_1).f7),.int .i64 ((rd_T33 l0 x6_1).f8)] 33 (0,0)) (by (with_reducible repeat (first|refine blk_drewN ?_ _|refine blk_drew ?_|refine blk_alloc ?_ _));exact BK152.out) k_ hk));(case aO => exact (by (with_reducible repeat (first|apply Kd.R_alloc|apply Kd.R_drewN|apply Kd.R_drew));exact HO_5.out));(case aS => exact (below_size (by repeat (first|(with_reducible first|exact HB.out|apply below_alloc|apply pw_below_drewN|apply below_drew1|refine below_set ?_ GE152.out)|exact HB.out))));(case aL => have:=LMc25.out;omega);intro v163 w27 ho hb hg hat;rw [← Ny162.out] at ho;have n0_:=Aside0.mk (blk_grown (g:=gb152) (o:=.cells #[.int .i64 ((rd_T33 l0 x6_1).f0),.int .i64 ((rd_T33 l0 x6_1).f1),.int .i64 ((rd_T33 l0 x6_1).f2),.int .i64 ((rd_T33 l0 x6_1).f3),.int .i64 ((rd_T33 l0 x6_1).f4),.int .i64 ((rd_T33 l0 x6_1).f5),.int .i64 ((rd_T33 l0 x6_1).f6),.int .i64 ((rd_T33 l0 x6_1).f7),.int .i64 ((rd_T33 l0 x6_1).f8)] 33 (0,0)) (by (with_reducible repeat (first|refine blk_drewN ?_ _|refine blk_drew ?_|refine blk_alloc ?_ _));exact BK152.out) hg (Kd.R_away HO_5.out (fun _ hk => hk)));have n1_:=Aside0.mk (hb);have n2_:=Aside0.mk (ho);clear BK152;clear HB;clear HO_5;have BK152:=n0_;have HB:=n1_;have HO164:=n2_;clear n0_ n1_ n2_;clear ho hb hg hat))
            go_roundg kj5
            case measure => have:=HK1.out;have:=HJ5.out;omega
            case rel => exact ⟨(y162),(wrap64 (x6_1 + 1)),(by first|rfl|(simp;done)|(simp [*];done)),H',⟨by have:=HK1.out;have:=HJ5.out;omega⟩,⟨by (with_reducible repeat (first|apply Kd.R_alloc|apply Kd.R_drewN|apply Kd.R_drew));exact Kd.R_mono HO164.out (fun _ hk => trivial)⟩,⟨by repeat (first|(with_reducible first|exact HB.out|apply below_alloc|apply pw_below_drewN|apply below_drew1|refine below_set ?_ GE152.out)|exact HB.out)⟩⟩
           ·rw [if_neg c25] at H
            exact absurd H (by simp)
         ·rw [if_neg c16] at H
          have c16b0 : (((rd_T33 l0 x6_1).f0) == 2) = false:=beq_eq_false_iff_ne.mpr c16
          have c16b1 : (((rd_T33 l0 x6_1).f0) != 2) = true:=bne_iff_ne.mpr c16
          by_cases c28 : x5_1.length < 1954687338268
          ·rw [if_pos c28] at H
           have LMc28:=Aside0.mk c28
           clear c28
           obtain ⟨y165,hy165⟩ : ∃ y_ : List (S33),y_ = (x5_1 ++ [(⟨((rd_T33 l0 x6_1).f0),((rd_T33 l0 x6_1).f1),((rd_T33 l0 x6_1).f2),((rd_T33 l0 x6_1).f3),((rd_T33 l0 x6_1).f4),((rd_T33 l0 x6_1).f5),((rd_T33 l0 x6_1).f6),((rd_T33 l0 x6_1).f7),((rd_T33 l0 x6_1).f8)⟩ : S33)]):=⟨_,rfl⟩
           replace H : (hinterlandref15_without.l0 kj5 l0 a1 y165 (wrap64 (x6_1 + 1))) = some r:=by first|(rw [hy165];with_reducible exact H)|(have H2_:=(Option.bind_some _ _).symm.trans H;rw [hy165];with_reducible exact H2_)|(have H2_:=(Option.bind_some _ _).symm.trans H;with_reducible exact H2_)|with_reducible exact H|(rw [hy165];exact H)|exact H
           have Ny165:=Aside0.mk hy165
           clear hy165
           have H':=Aside0.mk H
           clear H
           have hcz29_0 : wc.cell? ⟨gb152,0,none⟩ = some (.int .i64 ((rd_T33 l0 x6_1).f0)):=(blk_cell BK152.out 0).trans rfl
           have hcz29_1 : wc.cell? ⟨gb152,1,none⟩ = some (.int .i64 ((rd_T33 l0 x6_1).f1)):=(blk_cell BK152.out 1).trans rfl
           have hcz29_2 : wc.cell? ⟨gb152,2,none⟩ = some (.int .i64 ((rd_T33 l0 x6_1).f2)):=(blk_cell BK152.out 2).trans rfl
           have hcz29_3 : wc.cell? ⟨gb152,3,none⟩ = some (.int .i64 ((rd_T33 l0 x6_1).f3)):=(blk_cell BK152.out 3).trans rfl
           have hcz29_4 : wc.cell? ⟨gb152,4,none⟩ = some (.int .i64 ((rd_T33 l0 x6_1).f4)):=(blk_cell BK152.out 4).trans rfl
           have hcz29_5 : wc.cell? ⟨gb152,5,none⟩ = some (.int .i64 ((rd_T33 l0 x6_1).f5)):=(blk_cell BK152.out 5).trans rfl
           have hcz29_6 : wc.cell? ⟨gb152,6,none⟩ = some (.int .i64 ((rd_T33 l0 x6_1).f6)):=(blk_cell BK152.out 6).trans rfl
           have hcz29_7 : wc.cell? ⟨gb152,7,none⟩ = some (.int .i64 ((rd_T33 l0 x6_1).f7)):=(blk_cell BK152.out 7).trans rfl
           have hcz29_8 : wc.cell? ⟨gb152,8,none⟩ = some (.int .i64 ((rd_T33 l0 x6_1).f8)):=(blk_cell BK152.out 8).trans rfl
           have hfz29_0:=blk_frozen BK152.out 0
           have hfz29_1:=blk_frozen BK152.out 1
           have hfz29_2:=blk_frozen BK152.out 2
           have hfz29_3:=blk_frozen BK152.out 3
           have hfz29_4:=blk_frozen BK152.out 4
           have hfz29_5:=blk_frozen BK152.out 5
           have hfz29_6:=blk_frozen BK152.out 6
           have hfz29_7:=blk_frozen BK152.out 7
           have hfz29_8:=blk_frozen BK152.out 8
           go_wp2_with (first|((with_reducible refine gate_builtin (b:=.append) (xs:=#[.tmp 51,.tmp 53]) rfl ?_);(try (refine gate_guard (by rfl) ?_;dsimp only));at_builtin;refine Kd.R_append k33 (w0:=w) w.heap.size rfl (.tmp 51) (.tmp 53) 22 33 (.agg #[(.int .i64 0),(.int .i64 0),(.int .i64 0),(.int .i64 0),(.int .i64 0),(.int .i64 0),(.int .i64 0),(.int .i64 0),(.int .i64 0)]) 72 rfl Try.underlying22 info33 rfl (by decide) (by omega) u5 x5_1 (⟨((rd_T33 l0 x6_1).f0),((rd_T33 l0 x6_1).f1),((rd_T33 l0 x6_1).f2),((rd_T33 l0 x6_1).f3),((rd_T33 l0 x6_1).f4),((rd_T33 l0 x6_1).f5),((rd_T33 l0 x6_1).f6),((rd_T33 l0 x6_1).f7),((rd_T33 l0 x6_1).f8)⟩ : S33) [.int .i64 ((rd_T33 l0 x6_1).f0),.int .i64 ((rd_T33 l0 x6_1).f1),.int .i64 ((rd_T33 l0 x6_1).f2),.int .i64 ((rd_T33 l0 x6_1).f3),.int .i64 ((rd_T33 l0 x6_1).f4),.int .i64 ((rd_T33 l0 x6_1).f5),.int .i64 ((rd_T33 l0 x6_1).f6),.int .i64 ((rd_T33 l0 x6_1).f7),.int .i64 ((rd_T33 l0 x6_1).f8)] (fun k_ => k_ ≠ gb152) (fun _ => False) rfl rfl ?aP (fun _ hk => hk.elim) ?aF ?aO ?aB ?aS ?aL ?_;(case aP => exact k33_mkM _ _ _ (⟨((rd_T33 l0 x6_1).f0),((rd_T33 l0 x6_1).f1),((rd_T33 l0 x6_1).f2),((rd_T33 l0 x6_1).f3),((rd_T33 l0 x6_1).f4),((rd_T33 l0 x6_1).f5),((rd_T33 l0 x6_1).f6),((rd_T33 l0 x6_1).f7),((rd_T33 l0 x6_1).f8)⟩ : S33));(case aB => exact (by repeat (first|(with_reducible first|exact HB.out|apply below_alloc|apply pw_below_drewN|apply below_drew1|refine below_set ?_ GE152.out)|exact HB.out)));(case aF => exact (fun k_ hk => Kd.freshB (g:=gb152) (o:=.cells #[.int .i64 ((rd_T33 l0 x6_1).f0),.int .i64 ((rd_T33 l0 x6_1).f1),.int .i64 ((rd_T33 l0 x6_1).f2),.int .i64 ((rd_T33 l0 x6_1).f3),.int .i64 ((rd_T33 l0 x6_1).f4),.int .i64 ((rd_T33 l0 x6_1).f5),.int .i64 ((rd_T33 l0 x6_1).f6),.int .i64 ((rd_T33 l0 x6_1).f7),.int .i64 ((rd_T33 l0 x6_1).f8)] 33 (0,0)) (by (with_reducible repeat (first|refine blk_drewN ?_ _|refine blk_drew ?_|refine blk_alloc ?_ _));exact BK152.out) k_ hk));(case aO => exact (by (with_reducible repeat (first|apply Kd.R_alloc|apply Kd.R_drewN|apply Kd.R_drew));exact HO_5.out));(case aS => exact (below_size (by repeat (first|(with_reducible first|exact HB.out|apply below_alloc|apply pw_below_drewN|apply below_drew1|refine below_set ?_ GE152.out)|exact HB.out))));(case aL => have:=LMc28.out;omega);intro v166 w30 ho hb hg hat;rw [← Ny165.out] at ho;have n0_:=Aside0.mk (blk_grown (g:=gb152) (o:=.cells #[.int .i64 ((rd_T33 l0 x6_1).f0),.int .i64 ((rd_T33 l0 x6_1).f1),.int .i64 ((rd_T33 l0 x6_1).f2),.int .i64 ((rd_T33 l0 x6_1).f3),.int .i64 ((rd_T33 l0 x6_1).f4),.int .i64 ((rd_T33 l0 x6_1).f5),.int .i64 ((rd_T33 l0 x6_1).f6),.int .i64 ((rd_T33 l0 x6_1).f7),.int .i64 ((rd_T33 l0 x6_1).f8)] 33 (0,0)) (by (with_reducible repeat (first|refine blk_drewN ?_ _|refine blk_drew ?_|refine blk_alloc ?_ _));exact BK152.out) hg (Kd.R_away HO_5.out (fun _ hk => hk)));have n1_:=Aside0.mk (hb);have n2_:=Aside0.mk (ho);clear BK152;clear HB;clear HO_5;have BK152:=n0_;have HB:=n1_;have HO167:=n2_;clear n0_ n1_ n2_;clear ho hb hg hat))
           go_roundg kj5
           case measure => have:=HK1.out;have:=HJ5.out;omega
           case rel => exact ⟨(y165),(wrap64 (x6_1 + 1)),(by first|rfl|(simp;done)|(simp [*];done)),H',⟨by have:=HK1.out;have:=HJ5.out;omega⟩,⟨by (with_reducible repeat (first|apply Kd.R_alloc|apply Kd.R_drewN|apply Kd.R_drew));exact Kd.R_mono HO167.out (fun _ hk => trivial)⟩,⟨by repeat (first|(with_reducible first|exact HB.out|apply below_alloc|apply pw_below_drewN|apply below_drew1|refine below_set ?_ GE152.out)|exact HB.out)⟩⟩
          ·rw [if_neg c28] at H
           exact absurd H (by simp)
     ·rw [if_neg c5] at H
      exact absurd H (by simp)
   ·rw [if_neg c3] at H
    have c3b0 : decide (x6_1 < (l0.length : Int)) = false:=decide_eq_false c3
    clear c3
    obtain rfl:=Option.some.inj H
    go_wp2
    go_ret
    exact ⟨_,by first|rfl|(simp [errW_none,errW_some] <;> rfl)|(simp [*,errW_none,errW_some] <;> rfl),by (with_reducible repeat (first|apply Kd.R_alloc|apply Kd.R_drewN|apply Kd.R_drew));exact HO_5.out,by repeat (first|(with_reducible first|exact HB.out|apply below_alloc|apply pw_below_drewN|apply below_drew1)|exact HB.out)⟩

end Go.Proofs.Ythbjchicpebglaa.P
