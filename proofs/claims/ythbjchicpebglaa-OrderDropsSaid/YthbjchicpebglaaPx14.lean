/- Functions of this seat as plain Lean functions, with proofs that the Go code comes to just their answers, or what stands between them and a law's statement; no conditions. (Laid by a program of this session, out of the kit's print.) -/
import Derived.Test.YthbjchicpebglaaPx0
import Derived.Test.YthbjchicpebglaaPx4
import Derived.Test.YthbjchicpebglaaPx8
import Derived.Test.YthbjchicpebglaaPx10
import Derived.Test.YthbjchicpebglaaPx12
namespace Go.Proofs.Ythbjchicpebglaa.P
open Go.RowKit Go.Proofs.YthbjchicpebglaaW.PrintWords Go.Proofs.YthbjchicpebglaaW.PrintLast Go.Proofs.YthbjchicpebglaaW.PrintMore
attribute [local go_sem] max2_int min2_int max_two min_two max_three min_three max_four min_four   -- for this text's walks alone
set_option linter.unusedVariables false
set_option linter.unusedSimpArgs false

/-! ### hinterlandref15_Drop: function 33 -/
def hinterlandref15_Drop.l0 : Nat → Int → List (S33) → Int → Option ((List (S33)) × Int)
 | 0,_,_,_ => none
 | k + 1,x1,x7,x8 => if x8 ≥ 0 then (if 0 ≤ x8 then (if x8 < (x7.length : Int) then (if ((rd_T33 x7 x8).f0) = 0 then (if ((rd_T33 x7 x8).f1) = x1 then ((hinterlandref15_without.f k x7 x8).bind fun t210 => (hinterlandref15_Drop.l0 k x1 t210 (wrap64 (x8 - 1)))) else (hinterlandref15_Drop.l0 k x1 x7 (wrap64 (x8 - 1)))) else (hinterlandref15_Drop.l0 k x1 x7 (wrap64 (x8 - 1)))) else (none)) else (none)) else (some (x7,0))
def hinterlandref15_Drop.f (k : Nat) (l0 : List (S33)) (a1 : Int) : Option ((List (S33)) × Int) := (hinterlandref15_Validate.f k l0).bind fun t201 => (if t201 = 0 then ((some (([] : List (S33)) : List (S33))).bind fun y202 => (if y202.length + l0.length < 1954687338268 then (hinterlandref15_Drop.l0 k a1 (y202 ++ l0) (wrap64 ((l0.length : Int) - 1))) else (none))) else (some (([] : List (S33)), t201)))
theorem hinterlandref15_Drop.mono_l : ∀ k, (∀ y0 y1 y2, LeO (hinterlandref15_Drop.l0 k y0 y1 y2) (hinterlandref15_Drop.l0 (k + 1) y0 y1 y2))
 | 0 => fun _ _ _ r h => by simp [hinterlandref15_Drop.l0] at h
 | k + 1 => by
  have ih0:=hinterlandref15_Drop.mono_l k
  ·intro y0 y1 y2
   unfold hinterlandref15_Drop.l0
   repeat' first
   | (with_reducible exact ih0 _ _ _)
   | (with_reducible exact hinterlandref15_Validate.mono _ _)
   | (with_reducible exact hinterlandref15_without.mono _ _ _)
   | (with_reducible exact LeO.refl _)
   | (with_reducible exact LeO.none _)
   | (with_reducible refine LeO.ite ?_ ?_)
   | (with_reducible refine LeO.bind ?_ (fun _ => ?_))
   | exact ih0 _ _ _
   | exact hinterlandref15_Validate.mono _ _
   | exact hinterlandref15_without.mono _ _ _
   | exact LeO.none _
   | refine LeO.ite ?_ ?_
   | refine LeO.bind ?_ (fun _ => ?_)
theorem hinterlandref15_Drop.mono : ∀ a0 a1 k, LeO (hinterlandref15_Drop.f k a0 a1) (hinterlandref15_Drop.f (k + 1) a0 a1) := by
 intro a0 a1 k
 have ih0:=hinterlandref15_Drop.mono_l k
 unfold hinterlandref15_Drop.f
 repeat' first
   | (with_reducible exact ih0 _ _ _)
   | (with_reducible exact hinterlandref15_Validate.mono _ _)
   | (with_reducible exact hinterlandref15_without.mono _ _ _)
   | (with_reducible exact LeO.refl _)
   | (with_reducible exact LeO.none _)
   | (with_reducible refine LeO.ite ?_ ?_)
   | (with_reducible refine LeO.bind ?_ (fun _ => ?_))
   | exact ih0 _ _ _
   | exact hinterlandref15_Validate.mono _ _
   | exact hinterlandref15_without.mono _ _ _
   | exact LeO.none _
   | refine LeO.ite ?_ ?_
   | refine LeO.bind ?_ (fun _ => ?_)
set_option maxHeartbeats 8000000 in
set_option maxRecDepth 100000 in
theorem hinterlandref15_Drop.calls (k : Nat) (A0 : Option Addr) (c0 : Nat) (l0 : List (S33)) (a1 : Int) (r1 : List (S33)) (r2 : Int) (w : World) (hr0 : Kd.C k33 w A0 l0.length l0) (hc0 : l0.length ≤ c0) (h : hinterlandref15_Drop.f k l0 a1 = some (r1, r2)) :
  Calls Try.prog 33 #[.slice A0 l0.length c0,.int .i64 a1] w fun e w' => ∃ v0_ : Value,e = .returned (.tuple #[v0_,.int .i64 r2]) ∧ Kd.R k33 33 w' w.heap.size (fun _ => True) v0_ r1 ∧ Below w.heap.size w w':=by
 have HR0:=Aside0.mk hr0
 have HC0:=Aside0.mk hc0
 clear hr0 hc0
 have HB:=Aside0.mk (Below.refl w.heap.size w)
 have H : ((hinterlandref15_Validate.f k l0).bind fun t201 => (if t201 = 0 then ((some (([] : List (S33)) : List (S33))).bind fun y202 => (if y202.length + l0.length < 1954687338268 then (hinterlandref15_Drop.l0 k a1 (y202 ++ l0) (wrap64 ((l0.length : Int) - 1))) else (none))) else (some (([] : List (S33)),t201)))) = some (r1,r2):=h
 clear h
 replace H:=Option.bind_eq_some_iff.mp H
 obtain ⟨t201,A30,H⟩:=H
 replace H : (if t201 = 0 then ((some (([] : List (S33)) : List (S33))).bind fun y202 => (if y202.length + l0.length < 1954687338268 then (hinterlandref15_Drop.l0 k a1 (y202 ++ l0) (wrap64 ((l0.length : Int) - 1))) else (none))) else (some (([] : List (S33)),t201))) = some (r1,r2):=H
 have A3:=Aside0.mk A30
 clear A30
 by_cases c4 : t201 = 0
 ·rw [if_pos c4] at H
  have c4b0 : (t201 == 0) = true:=beq_iff_eq.mpr c4
  have c4b1 : (t201 != 0) = false:=bne_eq_false_iff_eq.mpr c4
  clear c4
  obtain ⟨y202,hy202⟩ : ∃ y_ : List (S33),y_ = (([] : List (S33))):=⟨_,rfl⟩
  replace H : (if y202.length + l0.length < 1954687338268 then (hinterlandref15_Drop.l0 k a1 (y202 ++ l0) (wrap64 ((l0.length : Int) - 1))) else (none)) = some (r1,r2):=by first|(rw [hy202];with_reducible exact H)|(have H2_:=(Option.bind_some _ _).symm.trans H;rw [hy202];with_reducible exact H2_)|(have H2_:=(Option.bind_some _ _).symm.trans H;with_reducible exact H2_)|with_reducible exact H|(rw [hy202];exact H)|exact H
  have Ny202:=Aside0.mk hy202
  clear hy202
  by_cases c5 : y202.length + l0.length < 1954687338268
  ·rw [if_pos c5] at H
   have LMc5:=Aside0.mk c5
   clear c5
   obtain ⟨y205,hy205⟩ : ∃ y_ : List (S33),y_ = (y202 ++ l0):=⟨_,rfl⟩
   replace H : (hinterlandref15_Drop.l0 k a1 y205 (wrap64 ((l0.length : Int) - 1))) = some (r1,r2):=by first|(rw [hy205];with_reducible exact H)|(have H2_:=(Option.bind_some _ _).symm.trans H;rw [hy205];with_reducible exact H2_)|(have H2_:=(Option.bind_some _ _).symm.trans H;with_reducible exact H2_)|with_reducible exact H|(rw [hy205];exact H)|exact H
   have Ny205:=Aside0.mk hy205
   clear hy205
   have H':=Aside0.mk H
   clear H
   go_enter Try.func33,Try.ntmps33
   go_wp2_with (first|((with_reducible refine gate_callee (f:=17) rfl ?_);refine goesL_ (some 10) rfl rfl Try.func17 (by kernel_rfl) rfl #[.slice A0 l0.length c0] rfl (by (try simp only [List.map_toArray,List.map_cons,List.map_nil]);first|done|rfl|(simp only [List.length_drop,List.length_take];rfl)) ?_;(with_reducible refine (hinterlandref15_Validate.calls k _ _ l0 t201 _ ?side1 ?side2 A3.out).mono ?_);(case side1 => repeat (first|exact HR0.out|(with_reducible refine Kd.C_alloc ?_ _)|(with_reducible refine Kd.C_drewN ?_ _)|(with_reducible refine Kd.C_drew ?_)));(case side2 => exact HC0.out);rintro e w6 ⟨rfl,hb⟩;refine ⟨_,rfl,?_⟩;have n0_:=Aside0.mk (below_step (by repeat (first|(with_reducible first|exact HB.out|apply below_alloc|apply pw_below_drewN|apply below_drew1)|exact HB.out)) hb);clear HB;have HB:=n0_;clear n0_;(try clear hb);(try clear hb2);(try clear hk);(try clear hi))|((with_reducible refine gate_dst (N:=14) rfl ?_);refine Kd.R_lit k33 _ 33 ?hg (N:=14) ?hd (xs:=([] : List (S33))) (inner:=[]) (ok:=fun _ => True) (okp:=fun _ => True) ?hr ?hp (fun _ hk => hk) trivial (Below.refl _ _) (Nat.le_refl _) (by simp) ?_;(case hd => rfl);(case hg => rfl);(case hr => first|(go_simp;done)|(go_simp;rfl));(case hp => exact (Reps.none _ _));intro v203 w7 ho8 hb hg_ hnew_;clear hg_ hnew_;(first|rw [← Ny202.out] at ho8|(simp only [Int.reduceToNat] at ho8;rw [← Ny202.out] at ho8));have n0_:=Aside0.mk (Kd.R_lower ho8 (below_size (by repeat (first|(with_reducible first|exact HB.out|apply below_alloc|apply pw_below_drewN|apply below_drew1)|exact HB.out))));have n1_:=Aside0.mk (below_step (by repeat (first|(with_reducible first|exact HB.out|apply below_alloc|apply pw_below_drewN|apply below_drew1)|exact HB.out)) hb);clear HB;have HO204:=n0_;have HB:=n1_;clear n0_ n1_;clear hb ho8)|((with_reducible refine gate_builtin (b:=.append) (xs:=#[.tmp 14,.tmp 15]) rfl ?_);at_builtin;refine Kd.R_append_rows k33 (w0:=w) w.heap.size rfl (.tmp 14) (.tmp 15) 22 33 (.agg #[(.int .i64 0),(.int .i64 0),(.int .i64 0),(.int .i64 0),(.int .i64 0),(.int .i64 0),(.int .i64 0),(.int .i64 0),(.int .i64 0)]) 72 rfl Try.underlying22 info33 rfl (by decide) (by omega) v203 y202 l0 _ _ _ (fun _ => True) (fun _ => False) rfl rfl ?aO ?aR (fun _ _ h => h) (fun _ h => h.elim) ?aF ?aB ?aS ?aL ?_;(case aR => repeat (first|exact (Kd.C_below HR0.out HB.out)|(with_reducible refine Kd.C_alloc ?_ _)|(with_reducible refine Kd.C_drewN ?_ _)|(with_reducible refine Kd.C_drew ?_)));(case aB => exact (by repeat (first|(with_reducible first|exact HB.out|apply below_alloc|apply pw_below_drewN|apply below_drew1)|exact HB.out)));(case aF => exact (fun _ _ => trivial));(case aO => exact (by (with_reducible repeat (first|apply Kd.R_alloc|apply Kd.R_drewN|apply Kd.R_drew));exact HO204.out));(case aS => exact (below_size (by repeat (first|(with_reducible first|exact HB.out|apply below_alloc|apply pw_below_drewN|apply below_drew1)|exact HB.out))));(case aL => have:=LMc5.out;omega);intro v206 w9 ho hb hg hat;rw [← Ny205.out] at ho;have n0_:=Aside0.mk (hb);have n1_:=Aside0.mk (ho);clear HB;clear HO204;have HB:=n0_;have HO207:=n1_;clear n0_ n1_;clear ho hb hg hat))
   go_loopg [7,8] k (fun kq v7 v8 w' => ∃ (x7_1 : List (S33)) (x8_1 : Int),v8 = .int .i64 x8_1 ∧ Aside0 (hinterlandref15_Drop.l0 kq a1 x7_1 x8_1 = some (r1,r2)) ∧ Aside0 (kq ≤ k) ∧ Aside0 (Kd.R k33 33 w' w.heap.size (fun _ => True) v7 x7_1) ∧ Aside0 (Below w.heap.size w w'))
   case atStart => exact ⟨(y205),(wrap64 ((l0.length : Int) - 1)),(by first|rfl|(simp;done)|(simp [*];done)),H',⟨Nat.le_refl _⟩,⟨by (with_reducible repeat (first|apply Kd.R_alloc|apply Kd.R_drewN|apply Kd.R_drew));exact HO207.out⟩,⟨by repeat (first|(with_reducible first|exact HB.out|apply below_alloc|apply pw_below_drewN|apply below_drew1)|exact HB.out)⟩⟩
   case round =>
    clear H'
    try clear c1
    try clear p2
    try clear c3
    try clear c4
    try clear c4b0
    try clear c4b1
    try clear c5
    try clear p6
    obtain ⟨x7_1,x8_1,rfl,HA,HK1,HO_7,HB⟩:=hrel
    cases gk with
    | zero => exact absurd HA.out (by simp [hinterlandref15_Drop.l0])
    | succ k1 =>
     have H:=HA.out
     clear HA
     simp only [hinterlandref15_Drop.l0] at H
     by_cases c10 : x8_1 ≥ 0
     ·rw [if_pos c10] at H
      have c10b0 : decide (0 ≤ x8_1) = true:=decide_eq_true c10
      clear c10
      by_cases c11 : 0 ≤ x8_1
      ·rw [if_pos c11] at H
       have c11b0 : decide (0 ≤ x8_1) = true:=decide_eq_true c11
       clear c11
       by_cases c12 : x8_1 < (x7_1.length : Int)
       ·rw [if_pos c12] at H
        have c12b0 : decide (x8_1 < (x7_1.length : Int)) = true:=decide_eq_true c12
        clear c12
        by_cases c13 : ((rd_T33 x7_1 x8_1).f0) = 0
        ·rw [if_pos c13] at H
         have c13b0 : (((rd_T33 x7_1 x8_1).f0) == 0) = true:=beq_iff_eq.mpr c13
         have c13b1 : (((rd_T33 x7_1 x8_1).f0) != 0) = false:=bne_eq_false_iff_eq.mpr c13
         clear c13
         by_cases c14 : ((rd_T33 x7_1 x8_1).f1) = a1
         ·rw [if_pos c14] at H
          have c14b0 : (((rd_T33 x7_1 x8_1).f1) == a1) = true:=beq_iff_eq.mpr c14
          have c14b1 : (((rd_T33 x7_1 x8_1).f1) != a1) = false:=bne_eq_false_iff_eq.mpr c14
          clear c14
          replace H:=Option.bind_eq_some_iff.mp H
          obtain ⟨t210,A150,H⟩:=H
          replace H : (hinterlandref15_Drop.l0 k1 a1 t210 (wrap64 (x8_1 - 1))) = some (r1,r2):=H
          have A15:=Aside0.mk A150
          clear A150
          have H':=Aside0.mk H
          clear H
          obtain ⟨Ao16,co16,eo16⟩:=Kd.R_slice HO_7.out
          subst eo16
          have p208 : 0 ≤ (x8_1 : Int):=of_decide_eq_true (by first|(with_reducible assumption)|assumption)
          have q208 : x8_1 < (x7_1.length : Int):=of_decide_eq_true (by first|(with_reducible assumption)|assumption)
          obtain ⟨ad208,e208,hx208_0,hx208_1,hx208_2,hx208_3,hx208_4,hx208_5,hx208_6,hx208_7,hx208_8⟩:=at_T33 (Kd.R_reads' HO_7.out).2.2 x8_1 p208 q208
          cases e208
          replace p208:=eq_true p208
          replace q208:=eq_true q208
          have p209 : 0 ≤ (x8_1 : Int):=of_decide_eq_true (by first|(with_reducible assumption)|assumption)
          have q209 : x8_1 < (x7_1.length : Int):=of_decide_eq_true (by first|(with_reducible assumption)|assumption)
          obtain ⟨ad209,e209,hx209_0,hx209_1,hx209_2,hx209_3,hx209_4,hx209_5,hx209_6,hx209_7,hx209_8⟩:=at_T33 (Kd.R_reads' HO_7.out).2.2 x8_1 p209 q209
          obtain rfl : ad208 = ad209:=(by injection e209)
          replace p209:=eq_true p209
          replace q209:=eq_true q209
          go_wp2_with (first|((with_reducible refine gate_callee (f:=46) rfl ?_);refine goesL_ (some 41) rfl rfl Try.func46 (by kernel_rfl) rfl #[.slice (some ad208) x7_1.length co16,.int .i64 x8_1] rfl (by (try simp only [List.map_toArray,List.map_cons,List.map_nil]);first|done|rfl|(simp only [List.length_drop,List.length_take];rfl)) ?_;(with_reducible refine (hinterlandref15_without.calls k1 _ _ x7_1 x8_1 t210 _ ?side1 ?side2 A15.out).mono ?_);(case side1 => repeat (first|exact (Kd.R_reads' HO_7.out).2.2|(with_reducible refine Kd.C_alloc ?_ _)|(with_reducible refine Kd.C_drewN ?_ _)|(with_reducible refine Kd.C_drew ?_)));(case side2 => exact (Kd.R_reads' HO_7.out).2.1);rintro e w17 ⟨v211,rfl,ho0,hb⟩;refine ⟨_,rfl,?_⟩;have n0_:=Aside0.mk (Kd.R_elder' (by (with_reducible repeat (first|apply Kd.R_alloc|apply Kd.R_drewN|apply Kd.R_drew));exact HO_7.out) (Kd.R_base ho0) hb);have n1_:=Aside0.mk (Kd.R_lower (Kd.R_new' ho0 (Kd.R_lt (by (with_reducible repeat (first|apply Kd.R_alloc|apply Kd.R_drewN|apply Kd.R_drew));exact HO_7.out))) (below_size (by repeat (first|(with_reducible first|exact HB.out|apply below_alloc|apply pw_below_drewN|apply below_drew1)|exact HB.out))));have n2_:=Aside0.mk (below_step (by repeat (first|(with_reducible first|exact HB.out|apply below_alloc|apply pw_below_drewN|apply below_drew1)|exact HB.out)) hb);clear HO_7;clear HB;have HO_7:=n0_;have HO212:=n1_;have HB:=n2_;clear n0_ n1_ n2_;(try clear hb);(try clear hb2);(try clear hk);(try clear hi);(try clear ho0)))
          go_roundg k1
          case measure => have:=HK1.out;omega
          case rel => exact ⟨(t210),(wrap64 (x8_1 - 1)),(by first|rfl|(simp;done)|(simp [*];done)),H',⟨by have:=HK1.out;omega⟩,⟨by (with_reducible repeat (first|apply Kd.R_alloc|apply Kd.R_drewN|apply Kd.R_drew));exact Kd.R_mono HO212.out (fun _ hk => trivial)⟩,⟨by repeat (first|(with_reducible first|exact HB.out|apply below_alloc|apply pw_below_drewN|apply below_drew1)|exact HB.out)⟩⟩
         ·rw [if_neg c14] at H
          have c14b0 : (((rd_T33 x7_1 x8_1).f1) == a1) = false:=beq_eq_false_iff_ne.mpr c14
          have c14b1 : (((rd_T33 x7_1 x8_1).f1) != a1) = true:=bne_iff_ne.mpr c14
          have H':=Aside0.mk H
          clear H
          obtain ⟨Ao18,co18,eo18⟩:=Kd.R_slice HO_7.out
          subst eo18
          have p208 : 0 ≤ (x8_1 : Int):=of_decide_eq_true (by first|(with_reducible assumption)|assumption)
          have q208 : x8_1 < (x7_1.length : Int):=of_decide_eq_true (by first|(with_reducible assumption)|assumption)
          obtain ⟨ad208,e208,hx208_0,hx208_1,hx208_2,hx208_3,hx208_4,hx208_5,hx208_6,hx208_7,hx208_8⟩:=at_T33 (Kd.R_reads' HO_7.out).2.2 x8_1 p208 q208
          cases e208
          replace p208:=eq_true p208
          replace q208:=eq_true q208
          have p209 : 0 ≤ (x8_1 : Int):=of_decide_eq_true (by first|(with_reducible assumption)|assumption)
          have q209 : x8_1 < (x7_1.length : Int):=of_decide_eq_true (by first|(with_reducible assumption)|assumption)
          obtain ⟨ad209,e209,hx209_0,hx209_1,hx209_2,hx209_3,hx209_4,hx209_5,hx209_6,hx209_7,hx209_8⟩:=at_T33 (Kd.R_reads' HO_7.out).2.2 x8_1 p209 q209
          obtain rfl : ad208 = ad209:=(by injection e209)
          replace p209:=eq_true p209
          replace q209:=eq_true q209
          go_wp2
          go_roundg k1
          case measure => have:=HK1.out;omega
          case rel => exact ⟨(x7_1),(wrap64 (x8_1 - 1)),(by first|rfl|(simp;done)|(simp [*];done)),H',⟨by have:=HK1.out;omega⟩,⟨by (with_reducible repeat (first|apply Kd.R_alloc|apply Kd.R_drewN|apply Kd.R_drew));exact HO_7.out⟩,⟨by repeat (first|(with_reducible first|exact HB.out|apply below_alloc|apply pw_below_drewN|apply below_drew1)|exact HB.out)⟩⟩
        ·rw [if_neg c13] at H
         have c13b0 : (((rd_T33 x7_1 x8_1).f0) == 0) = false:=beq_eq_false_iff_ne.mpr c13
         have c13b1 : (((rd_T33 x7_1 x8_1).f0) != 0) = true:=bne_iff_ne.mpr c13
         have H':=Aside0.mk H
         clear H
         obtain ⟨Ao19,co19,eo19⟩:=Kd.R_slice HO_7.out
         subst eo19
         have p208 : 0 ≤ (x8_1 : Int):=of_decide_eq_true (by first|(with_reducible assumption)|assumption)
         have q208 : x8_1 < (x7_1.length : Int):=of_decide_eq_true (by first|(with_reducible assumption)|assumption)
         obtain ⟨ad208,e208,hx208_0,hx208_1,hx208_2,hx208_3,hx208_4,hx208_5,hx208_6,hx208_7,hx208_8⟩:=at_T33 (Kd.R_reads' HO_7.out).2.2 x8_1 p208 q208
         cases e208
         replace p208:=eq_true p208
         replace q208:=eq_true q208
         go_wp2
         go_roundg k1
         case measure => have:=HK1.out;omega
         case rel => exact ⟨(x7_1),(wrap64 (x8_1 - 1)),(by first|rfl|(simp;done)|(simp [*];done)),H',⟨by have:=HK1.out;omega⟩,⟨by (with_reducible repeat (first|apply Kd.R_alloc|apply Kd.R_drewN|apply Kd.R_drew));exact HO_7.out⟩,⟨by repeat (first|(with_reducible first|exact HB.out|apply below_alloc|apply pw_below_drewN|apply below_drew1)|exact HB.out)⟩⟩
       ·rw [if_neg c12] at H
        exact absurd H (by simp)
      ·rw [if_neg c11] at H
       exact absurd H (by simp)
     ·rw [if_neg c10] at H
      have c10b0 : decide (0 ≤ x8_1) = false:=decide_eq_false c10
      clear c10
      simp only [Option.some.injEq,Prod.mk.injEq] at H
      obtain ⟨rfl,rfl⟩:=H
      go_wp2
      go_ret2
      exact ⟨_,by first|rfl|(simp [errW_none,errW_some] <;> rfl)|(simp [*,errW_none,errW_some] <;> rfl),by (with_reducible repeat (first|apply Kd.R_alloc|apply Kd.R_drewN|apply Kd.R_drew));exact HO_7.out,by repeat (first|(with_reducible first|exact HB.out|apply below_alloc|apply pw_below_drewN|apply below_drew1)|exact HB.out)⟩
  ·rw [if_neg c5] at H
   exact absurd H (by simp)
 ·rw [if_neg c4] at H
  have c4b0 : (t201 == 0) = false:=beq_eq_false_iff_ne.mpr c4
  have c4b1 : (t201 != 0) = true:=bne_iff_ne.mpr c4
  simp only [Option.some.injEq,Prod.mk.injEq] at H
  obtain ⟨rfl,rfl⟩:=H
  go_enter Try.func33,Try.ntmps33
  go_wp2_with (first|((with_reducible refine gate_callee (f:=17) rfl ?_);refine goesL_ (some 10) rfl rfl Try.func17 (by kernel_rfl) rfl #[.slice A0 l0.length c0] rfl (by (try simp only [List.map_toArray,List.map_cons,List.map_nil]);first|done|rfl|(simp only [List.length_drop,List.length_take];rfl)) ?_;(with_reducible refine (hinterlandref15_Validate.calls k _ _ l0 t201 _ ?side1 ?side2 A3.out).mono ?_);(case side1 => repeat (first|exact HR0.out|(with_reducible refine Kd.C_alloc ?_ _)|(with_reducible refine Kd.C_drewN ?_ _)|(with_reducible refine Kd.C_drew ?_)));(case side2 => exact HC0.out);rintro e w20 ⟨rfl,hb⟩;refine ⟨_,rfl,?_⟩;have n0_:=Aside0.mk (below_step (by repeat (first|(with_reducible first|exact HB.out|apply below_alloc|apply pw_below_drewN|apply below_drew1)|exact HB.out)) hb);clear HB;have HB:=n0_;clear n0_;(try clear hb);(try clear hb2);(try clear hk);(try clear hi)))
  go_ret2
  exact ⟨_,by first|rfl|(simp [errW_none,errW_some] <;> rfl)|(simp [*,errW_none,errW_some] <;> rfl),by first|exact Kd.R_nil _ _ _ _ _|exact Kd.N_nil _ _ _ _ _|exact Kd.V_nil _ _ _ _ _|exact Kd.Q_nil _ _ _ _ _|exact Kd.S_nil _ _ _ _ _,by repeat (first|(with_reducible first|exact HB.out|apply below_alloc|apply pw_below_drewN|apply below_drew1)|exact HB.out)⟩

/-! ### order_Drop: function 34 -/
def order_Drop.l0 : Nat → Int → List (S33) → Int → Option ((List (S33)) × Int)
 | 0,_,_,_ => none
 | k + 1,x1,x7,x8 => if x8 ≥ 0 then (if 0 ≤ x8 then (if x8 < (x7.length : Int) then (if ((rd_T33 x7 x8).f0) = 0 then (if ((rd_T33 x7 x8).f1) = x1 then ((order_without.f k x7 x8).bind fun t219 => (order_Drop.l0 k x1 t219 (wrap64 (x8 - 1)))) else (order_Drop.l0 k x1 x7 (wrap64 (x8 - 1)))) else (order_Drop.l0 k x1 x7 (wrap64 (x8 - 1)))) else (none)) else (none)) else (some (x7,0))
def order_Drop.f (k : Nat) (l0 : List (S33)) (a1 : Int) : Option ((List (S33)) × Int) := (order_Validate.f k l0).bind fun t213 => (if t213 = 0 then ((order_copied.f l0).bind fun t214 => (order_Drop.l0 k a1 t214 (wrap64 ((t214.length : Int) - 1)))) else (some (([] : List (S33)), t213)))
theorem order_Drop.mono_l : ∀ k, (∀ y0 y1 y2, LeO (order_Drop.l0 k y0 y1 y2) (order_Drop.l0 (k + 1) y0 y1 y2))
 | 0 => fun _ _ _ r h => by simp [order_Drop.l0] at h
 | k + 1 => by
  have ih0:=order_Drop.mono_l k
  ·intro y0 y1 y2
   unfold order_Drop.l0
   repeat' first
   | (with_reducible exact ih0 _ _ _)
   | (with_reducible exact order_Validate.mono _ _)
   | (with_reducible exact order_without.mono _ _ _)
   | (with_reducible exact LeO.refl _)
   | (with_reducible exact LeO.none _)
   | (with_reducible refine LeO.ite ?_ ?_)
   | (with_reducible refine LeO.bind ?_ (fun _ => ?_))
   | exact ih0 _ _ _
   | exact order_Validate.mono _ _
   | exact order_without.mono _ _ _
   | exact LeO.none _
   | refine LeO.ite ?_ ?_
   | refine LeO.bind ?_ (fun _ => ?_)
theorem order_Drop.mono : ∀ a0 a1 k, LeO (order_Drop.f k a0 a1) (order_Drop.f (k + 1) a0 a1) := by
 intro a0 a1 k
 have ih0:=order_Drop.mono_l k
 unfold order_Drop.f
 repeat' first
   | (with_reducible exact ih0 _ _ _)
   | (with_reducible exact order_Validate.mono _ _)
   | (with_reducible exact order_without.mono _ _ _)
   | (with_reducible exact LeO.refl _)
   | (with_reducible exact LeO.none _)
   | (with_reducible refine LeO.ite ?_ ?_)
   | (with_reducible refine LeO.bind ?_ (fun _ => ?_))
   | exact ih0 _ _ _
   | exact order_Validate.mono _ _
   | exact order_without.mono _ _ _
   | exact LeO.none _
   | refine LeO.ite ?_ ?_
   | refine LeO.bind ?_ (fun _ => ?_)
set_option maxHeartbeats 8000000 in
set_option maxRecDepth 100000 in
theorem order_Drop.calls (k : Nat) (A0 : Option Addr) (c0 : Nat) (l0 : List (S33)) (a1 : Int) (r1 : List (S33)) (r2 : Int) (w : World) (hr0 : Kd.C k33 w A0 l0.length l0) (hc0 : l0.length ≤ c0) (h : order_Drop.f k l0 a1 = some (r1, r2)) :
  Calls Try.prog 34 #[.slice A0 l0.length c0,.int .i64 a1] w fun e w' => ∃ v0_ : Value,e = .returned (.tuple #[v0_,.int .i64 r2]) ∧ Kd.R k33 33 w' w.heap.size (fun _ => True) v0_ r1 ∧ Below w.heap.size w w':=by
 have HR0:=Aside0.mk hr0
 have HC0:=Aside0.mk hc0
 clear hr0 hc0
 have HB:=Aside0.mk (Below.refl w.heap.size w)
 have H : ((order_Validate.f k l0).bind fun t213 => (if t213 = 0 then ((order_copied.f l0).bind fun t214 => (order_Drop.l0 k a1 t214 (wrap64 ((t214.length : Int) - 1)))) else (some (([] : List (S33)),t213)))) = some (r1,r2):=h
 clear h
 replace H:=Option.bind_eq_some_iff.mp H
 obtain ⟨t213,A30,H⟩:=H
 replace H : (if t213 = 0 then ((order_copied.f l0).bind fun t214 => (order_Drop.l0 k a1 t214 (wrap64 ((t214.length : Int) - 1)))) else (some (([] : List (S33)),t213))) = some (r1,r2):=H
 have A3:=Aside0.mk A30
 clear A30
 by_cases c4 : t213 = 0
 ·rw [if_pos c4] at H
  have c4b0 : (t213 == 0) = true:=beq_iff_eq.mpr c4
  have c4b1 : (t213 != 0) = false:=bne_eq_false_iff_eq.mpr c4
  clear c4
  replace H:=Option.bind_eq_some_iff.mp H
  obtain ⟨t214,A50,H⟩:=H
  replace H : (order_Drop.l0 k a1 t214 (wrap64 ((t214.length : Int) - 1))) = some (r1,r2):=H
  have A5:=Aside0.mk A50
  clear A50
  have H':=Aside0.mk H
  clear H
  go_enter Try.func34,Try.ntmps34
  go_wp2_with (first|((with_reducible refine gate_callee (f:=18) rfl ?_);refine goesL_ (some 10) rfl rfl Try.func18 (by kernel_rfl) rfl #[.slice A0 l0.length c0] rfl (by (try simp only [List.map_toArray,List.map_cons,List.map_nil]);first|done|rfl|(simp only [List.length_drop,List.length_take];rfl)) ?_;(with_reducible refine (order_Validate.calls k _ _ l0 t213 _ ?side1 ?side2 A3.out).mono ?_);(case side1 => repeat (first|exact HR0.out|(with_reducible refine Kd.C_alloc ?_ _)|(with_reducible refine Kd.C_drewN ?_ _)|(with_reducible refine Kd.C_drew ?_)));(case side2 => exact HC0.out);rintro e w6 ⟨rfl,hb⟩;refine ⟨_,rfl,?_⟩;have n0_:=Aside0.mk (below_step (by repeat (first|(with_reducible first|exact HB.out|apply below_alloc|apply pw_below_drewN|apply below_drew1)|exact HB.out)) hb);clear HB;have HB:=n0_;clear n0_;(try clear hb);(try clear hb2);(try clear hk);(try clear hi))|((with_reducible refine gate_callee (f:=48) rfl ?_);refine goesL_ (some 15) rfl rfl Try.func48 (by kernel_rfl) rfl #[.slice A0 l0.length c0] rfl (by (try simp only [List.map_toArray,List.map_cons,List.map_nil]);first|done|rfl|(simp only [List.length_drop,List.length_take];rfl)) ?_;(with_reducible refine (order_copied.calls _ _ l0 t214 _ ?side1 ?side2 A5.out).mono ?_);(case side1 => repeat (first|exact (Kd.C_below HR0.out HB.out)|(with_reducible refine Kd.C_alloc ?_ _)|(with_reducible refine Kd.C_drewN ?_ _)|(with_reducible refine Kd.C_drew ?_)));(case side2 => exact HC0.out);rintro e w7 ⟨v215,rfl,ho0,hb⟩;refine ⟨_,rfl,?_⟩;have n0_:=Aside0.mk (Kd.R_lower ho0 (below_size (by repeat (first|(with_reducible first|exact HB.out|apply below_alloc|apply pw_below_drewN|apply below_drew1)|exact HB.out))));have n1_:=Aside0.mk (below_step (by repeat (first|(with_reducible first|exact HB.out|apply below_alloc|apply pw_below_drewN|apply below_drew1)|exact HB.out)) hb);clear HB;have HO216:=n0_;have HB:=n1_;clear n0_ n1_;(try clear hb);(try clear hb2);(try clear hk);(try clear hi);(try clear ho0);obtain ⟨Ao8,co8,eo8⟩:=Kd.R_slice HO216.out;subst eo8))
  go_loopg [7,8] k (fun kq v7 v8 w' => ∃ (x7_1 : List (S33)) (x8_1 : Int),v8 = .int .i64 x8_1 ∧ Aside0 (order_Drop.l0 kq a1 x7_1 x8_1 = some (r1,r2)) ∧ Aside0 (kq ≤ k) ∧ Aside0 (Kd.R k33 33 w' w.heap.size (fun _ => True) v7 x7_1) ∧ Aside0 (Below w.heap.size w w'))
  case atStart => exact ⟨(t214),(wrap64 ((t214.length : Int) - 1)),(by first|rfl|(simp;done)|(simp [*];done)),H',⟨Nat.le_refl _⟩,⟨by (with_reducible repeat (first|apply Kd.R_alloc|apply Kd.R_drewN|apply Kd.R_drew));exact HO216.out⟩,⟨by repeat (first|(with_reducible first|exact HB.out|apply below_alloc|apply pw_below_drewN|apply below_drew1)|exact HB.out)⟩⟩
  case round =>
   clear H'
   try clear c1
   try clear p2
   try clear c3
   try clear c4
   try clear c4b0
   try clear c4b1
   try clear p6
   obtain ⟨x7_1,x8_1,rfl,HA,HK1,HO_7,HB⟩:=hrel
   cases gk with
   | zero => exact absurd HA.out (by simp [order_Drop.l0])
   | succ k1 =>
    have H:=HA.out
    clear HA
    simp only [order_Drop.l0] at H
    by_cases c9 : x8_1 ≥ 0
    ·rw [if_pos c9] at H
     have c9b0 : decide (0 ≤ x8_1) = true:=decide_eq_true c9
     clear c9
     by_cases c10 : 0 ≤ x8_1
     ·rw [if_pos c10] at H
      have c10b0 : decide (0 ≤ x8_1) = true:=decide_eq_true c10
      clear c10
      by_cases c11 : x8_1 < (x7_1.length : Int)
      ·rw [if_pos c11] at H
       have c11b0 : decide (x8_1 < (x7_1.length : Int)) = true:=decide_eq_true c11
       clear c11
       by_cases c12 : ((rd_T33 x7_1 x8_1).f0) = 0
       ·rw [if_pos c12] at H
        have c12b0 : (((rd_T33 x7_1 x8_1).f0) == 0) = true:=beq_iff_eq.mpr c12
        have c12b1 : (((rd_T33 x7_1 x8_1).f0) != 0) = false:=bne_eq_false_iff_eq.mpr c12
        clear c12
        by_cases c13 : ((rd_T33 x7_1 x8_1).f1) = a1
        ·rw [if_pos c13] at H
         have c13b0 : (((rd_T33 x7_1 x8_1).f1) == a1) = true:=beq_iff_eq.mpr c13
         have c13b1 : (((rd_T33 x7_1 x8_1).f1) != a1) = false:=bne_eq_false_iff_eq.mpr c13
         clear c13
         replace H:=Option.bind_eq_some_iff.mp H
         obtain ⟨t219,A140,H⟩:=H
         replace H : (order_Drop.l0 k1 a1 t219 (wrap64 (x8_1 - 1))) = some (r1,r2):=H
         have A14:=Aside0.mk A140
         clear A140
         have H':=Aside0.mk H
         clear H
         obtain ⟨Ao15,co15,eo15⟩:=Kd.R_slice HO_7.out
         subst eo15
         have p217 : 0 ≤ (x8_1 : Int):=of_decide_eq_true (by first|(with_reducible assumption)|assumption)
         have q217 : x8_1 < (x7_1.length : Int):=of_decide_eq_true (by first|(with_reducible assumption)|assumption)
         obtain ⟨ad217,e217,hx217_0,hx217_1,hx217_2,hx217_3,hx217_4,hx217_5,hx217_6,hx217_7,hx217_8⟩:=at_T33 (Kd.R_reads' HO_7.out).2.2 x8_1 p217 q217
         cases e217
         replace p217:=eq_true p217
         replace q217:=eq_true q217
         have p218 : 0 ≤ (x8_1 : Int):=of_decide_eq_true (by first|(with_reducible assumption)|assumption)
         have q218 : x8_1 < (x7_1.length : Int):=of_decide_eq_true (by first|(with_reducible assumption)|assumption)
         obtain ⟨ad218,e218,hx218_0,hx218_1,hx218_2,hx218_3,hx218_4,hx218_5,hx218_6,hx218_7,hx218_8⟩:=at_T33 (Kd.R_reads' HO_7.out).2.2 x8_1 p218 q218
         obtain rfl : ad217 = ad218:=(by injection e218)
         replace p218:=eq_true p218
         replace q218:=eq_true q218
         go_wp2_with (first|((with_reducible refine gate_callee (f:=47) rfl ?_);refine goesL_ (some 40) rfl rfl Try.func47 (by kernel_rfl) rfl #[.slice (some ad217) x7_1.length co15,.int .i64 x8_1] rfl (by (try simp only [List.map_toArray,List.map_cons,List.map_nil]);first|done|rfl|(simp only [List.length_drop,List.length_take];rfl)) ?_;(with_reducible refine (order_without.calls k1 _ _ x7_1 x8_1 t219 _ ?side1 ?side2 A14.out).mono ?_);(case side1 => repeat (first|exact (Kd.R_reads' HO_7.out).2.2|(with_reducible refine Kd.C_alloc ?_ _)|(with_reducible refine Kd.C_drewN ?_ _)|(with_reducible refine Kd.C_drew ?_)));(case side2 => exact (Kd.R_reads' HO_7.out).2.1);rintro e w16 ⟨v220,rfl,ho0,hb⟩;refine ⟨_,rfl,?_⟩;have n0_:=Aside0.mk (Kd.R_elder' (by (with_reducible repeat (first|apply Kd.R_alloc|apply Kd.R_drewN|apply Kd.R_drew));exact HO_7.out) (Kd.R_base ho0) hb);have n1_:=Aside0.mk (Kd.R_lower (Kd.R_new' ho0 (Kd.R_lt (by (with_reducible repeat (first|apply Kd.R_alloc|apply Kd.R_drewN|apply Kd.R_drew));exact HO_7.out))) (below_size (by repeat (first|(with_reducible first|exact HB.out|apply below_alloc|apply pw_below_drewN|apply below_drew1)|exact HB.out))));have n2_:=Aside0.mk (below_step (by repeat (first|(with_reducible first|exact HB.out|apply below_alloc|apply pw_below_drewN|apply below_drew1)|exact HB.out)) hb);clear HO_7;clear HB;have HO_7:=n0_;have HO221:=n1_;have HB:=n2_;clear n0_ n1_ n2_;(try clear hb);(try clear hb2);(try clear hk);(try clear hi);(try clear ho0)))
         go_roundg k1
         case measure => have:=HK1.out;omega
         case rel => exact ⟨(t219),(wrap64 (x8_1 - 1)),(by first|rfl|(simp;done)|(simp [*];done)),H',⟨by have:=HK1.out;omega⟩,⟨by (with_reducible repeat (first|apply Kd.R_alloc|apply Kd.R_drewN|apply Kd.R_drew));exact Kd.R_mono HO221.out (fun _ hk => trivial)⟩,⟨by repeat (first|(with_reducible first|exact HB.out|apply below_alloc|apply pw_below_drewN|apply below_drew1)|exact HB.out)⟩⟩
        ·rw [if_neg c13] at H
         have c13b0 : (((rd_T33 x7_1 x8_1).f1) == a1) = false:=beq_eq_false_iff_ne.mpr c13
         have c13b1 : (((rd_T33 x7_1 x8_1).f1) != a1) = true:=bne_iff_ne.mpr c13
         have H':=Aside0.mk H
         clear H
         obtain ⟨Ao17,co17,eo17⟩:=Kd.R_slice HO_7.out
         subst eo17
         have p217 : 0 ≤ (x8_1 : Int):=of_decide_eq_true (by first|(with_reducible assumption)|assumption)
         have q217 : x8_1 < (x7_1.length : Int):=of_decide_eq_true (by first|(with_reducible assumption)|assumption)
         obtain ⟨ad217,e217,hx217_0,hx217_1,hx217_2,hx217_3,hx217_4,hx217_5,hx217_6,hx217_7,hx217_8⟩:=at_T33 (Kd.R_reads' HO_7.out).2.2 x8_1 p217 q217
         cases e217
         replace p217:=eq_true p217
         replace q217:=eq_true q217
         have p218 : 0 ≤ (x8_1 : Int):=of_decide_eq_true (by first|(with_reducible assumption)|assumption)
         have q218 : x8_1 < (x7_1.length : Int):=of_decide_eq_true (by first|(with_reducible assumption)|assumption)
         obtain ⟨ad218,e218,hx218_0,hx218_1,hx218_2,hx218_3,hx218_4,hx218_5,hx218_6,hx218_7,hx218_8⟩:=at_T33 (Kd.R_reads' HO_7.out).2.2 x8_1 p218 q218
         obtain rfl : ad217 = ad218:=(by injection e218)
         replace p218:=eq_true p218
         replace q218:=eq_true q218
         go_wp2
         go_roundg k1
         case measure => have:=HK1.out;omega
         case rel => exact ⟨(x7_1),(wrap64 (x8_1 - 1)),(by first|rfl|(simp;done)|(simp [*];done)),H',⟨by have:=HK1.out;omega⟩,⟨by (with_reducible repeat (first|apply Kd.R_alloc|apply Kd.R_drewN|apply Kd.R_drew));exact HO_7.out⟩,⟨by repeat (first|(with_reducible first|exact HB.out|apply below_alloc|apply pw_below_drewN|apply below_drew1)|exact HB.out)⟩⟩
       ·rw [if_neg c12] at H
        have c12b0 : (((rd_T33 x7_1 x8_1).f0) == 0) = false:=beq_eq_false_iff_ne.mpr c12
        have c12b1 : (((rd_T33 x7_1 x8_1).f0) != 0) = true:=bne_iff_ne.mpr c12
        have H':=Aside0.mk H
        clear H
        obtain ⟨Ao18,co18,eo18⟩:=Kd.R_slice HO_7.out
        subst eo18
        have p217 : 0 ≤ (x8_1 : Int):=of_decide_eq_true (by first|(with_reducible assumption)|assumption)
        have q217 : x8_1 < (x7_1.length : Int):=of_decide_eq_true (by first|(with_reducible assumption)|assumption)
        obtain ⟨ad217,e217,hx217_0,hx217_1,hx217_2,hx217_3,hx217_4,hx217_5,hx217_6,hx217_7,hx217_8⟩:=at_T33 (Kd.R_reads' HO_7.out).2.2 x8_1 p217 q217
        cases e217
        replace p217:=eq_true p217
        replace q217:=eq_true q217
        go_wp2
        go_roundg k1
        case measure => have:=HK1.out;omega
        case rel => exact ⟨(x7_1),(wrap64 (x8_1 - 1)),(by first|rfl|(simp;done)|(simp [*];done)),H',⟨by have:=HK1.out;omega⟩,⟨by (with_reducible repeat (first|apply Kd.R_alloc|apply Kd.R_drewN|apply Kd.R_drew));exact HO_7.out⟩,⟨by repeat (first|(with_reducible first|exact HB.out|apply below_alloc|apply pw_below_drewN|apply below_drew1)|exact HB.out)⟩⟩
      ·rw [if_neg c11] at H
       exact absurd H (by simp)
     ·rw [if_neg c10] at H
      exact absurd H (by simp)
    ·rw [if_neg c9] at H
     have c9b0 : decide (0 ≤ x8_1) = false:=decide_eq_false c9
     clear c9
     simp only [Option.some.injEq,Prod.mk.injEq] at H
     obtain ⟨rfl,rfl⟩:=H
     go_wp2
     go_ret2
     exact ⟨_,by first|rfl|(simp [errW_none,errW_some] <;> rfl)|(simp [*,errW_none,errW_some] <;> rfl),by (with_reducible repeat (first|apply Kd.R_alloc|apply Kd.R_drewN|apply Kd.R_drew));exact HO_7.out,by repeat (first|(with_reducible first|exact HB.out|apply below_alloc|apply pw_below_drewN|apply below_drew1)|exact HB.out)⟩
 ·rw [if_neg c4] at H
  have c4b0 : (t213 == 0) = false:=beq_eq_false_iff_ne.mpr c4
  have c4b1 : (t213 != 0) = true:=bne_iff_ne.mpr c4
  simp only [Option.some.injEq,Prod.mk.injEq] at H
  obtain ⟨rfl,rfl⟩:=H
  go_enter Try.func34,Try.ntmps34
  go_wp2_with (first|((with_reducible refine gate_callee (f:=18) rfl ?_);refine goesL_ (some 10) rfl rfl Try.func18 (by kernel_rfl) rfl #[.slice A0 l0.length c0] rfl (by (try simp only [List.map_toArray,List.map_cons,List.map_nil]);first|done|rfl|(simp only [List.length_drop,List.length_take];rfl)) ?_;(with_reducible refine (order_Validate.calls k _ _ l0 t213 _ ?side1 ?side2 A3.out).mono ?_);(case side1 => repeat (first|exact HR0.out|(with_reducible refine Kd.C_alloc ?_ _)|(with_reducible refine Kd.C_drewN ?_ _)|(with_reducible refine Kd.C_drew ?_)));(case side2 => exact HC0.out);rintro e w19 ⟨rfl,hb⟩;refine ⟨_,rfl,?_⟩;have n0_:=Aside0.mk (below_step (by repeat (first|(with_reducible first|exact HB.out|apply below_alloc|apply pw_below_drewN|apply below_drew1)|exact HB.out)) hb);clear HB;have HB:=n0_;clear n0_;(try clear hb);(try clear hb2);(try clear hk);(try clear hi)))
  go_ret2
  exact ⟨_,by first|rfl|(simp [errW_none,errW_some] <;> rfl)|(simp [*,errW_none,errW_some] <;> rfl),by first|exact Kd.R_nil _ _ _ _ _|exact Kd.N_nil _ _ _ _ _|exact Kd.V_nil _ _ _ _ _|exact Kd.Q_nil _ _ _ _ _|exact Kd.S_nil _ _ _ _ _,by repeat (first|(with_reducible first|exact HB.out|apply below_alloc|apply pw_below_drewN|apply below_drew1)|exact HB.out)⟩

end Go.Proofs.Ythbjchicpebglaa.P
