/- Functions of this seat as plain Lean functions, with proofs that the Go code comes to just their answers, or what stands between them and a law's statement; no conditions. (Laid by a program of this session, out of the kit's print.) -/
import Derived.Test.YthbjchicpebglaaPx0
import Derived.Test.YthbjchicpebglaaPx1
import Derived.Test.YthbjchicpebglaaPx2
import Derived.Test.YthbjchicpebglaaPx4
import Derived.Test.YthbjchicpebglaaPx10
import Derived.Test.YthbjchicpebglaaPx11
namespace Go.Proofs.Ythbjchicpebglaa.P
open Go.RowKit Go.Proofs.YthbjchicpebglaaW.PrintWords Go.Proofs.YthbjchicpebglaaW.PrintLast Go.Proofs.YthbjchicpebglaaW.PrintMore
attribute [local go_sem] max2_int min2_int max_two min_two max_three min_three max_four min_four   -- for this text's walks alone
set_option linter.unusedVariables false
set_option linter.unusedSimpArgs false

attribute [local go_sem high] eqA33
/-! ### order_without: function 47 -/
def order_without.l0 : Nat → Int → List (S33) → Int → Int → Option ((List (S33)))
 | 0,_,_,_,_ => none
 | k + 1,x1,x5,x14,x15 => if x15 < x14 then (if 0 ≤ x15 then (if x15 < (x5.length : Int) then (if ((rd_T33 x5 x15).f6) > x1 then (order_without.l0 k x1 (x5.set (x15 : Int).toNat (⟨(rd_T33 x5 x15).f0,(rd_T33 x5 x15).f1,(rd_T33 x5 x15).f2,(rd_T33 x5 x15).f3,(rd_T33 x5 x15).f4,(rd_T33 x5 x15).f5,wrap64 (((rd_T33 x5 x15).f6) - 1),(rd_T33 x5 x15).f7,(rd_T33 x5 x15).f8⟩ : S33)) x14 (wrap64 (x15 + 1))) else (if ((rd_T33 x5 x15).f6) = x1 then (if x1 ≥ (x5.length : Int) then (order_without.l0 k x1 (x5.set (x15 : Int).toNat (⟨(rd_T33 x5 x15).f0,(rd_T33 x5 x15).f1,(rd_T33 x5 x15).f2,(rd_T33 x5 x15).f3,(rd_T33 x5 x15).f4,(rd_T33 x5 x15).f5,0,(rd_T33 x5 x15).f7,(rd_T33 x5 x15).f8⟩ : S33)) x14 (wrap64 (x15 + 1))) else (order_without.l0 k x1 x5 x14 (wrap64 (x15 + 1)))) else (order_without.l0 k x1 x5 x14 (wrap64 (x15 + 1))))) else (none)) else (none)) else (some x5)
def order_without.f (k : Nat) (l0 : List (S33)) (a1 : Int) : Option ((List (S33))) := (order_copied.f l0).bind fun t172 => ((api_Order_52.f t172 a1 (wrap64 (a1 + 1))).bind fun t175 => (order_without.l0 k a1 t175 (t175.length : Int) 0))
theorem order_without.mono_l : ∀ k, (∀ y0 y1 y2 y3, LeO (order_without.l0 k y0 y1 y2 y3) (order_without.l0 (k + 1) y0 y1 y2 y3))
 | 0 => fun _ _ _ _ r h => by simp [order_without.l0] at h
 | k + 1 => by
  have ih0:=order_without.mono_l k
  ·intro y0 y1 y2 y3
   unfold order_without.l0
   repeat' first
   | (with_reducible exact ih0 _ _ _ _)
   | (with_reducible exact LeO.refl _)
   | (with_reducible exact LeO.none _)
   | (with_reducible refine LeO.ite ?_ ?_)
   | (with_reducible refine LeO.bind ?_ (fun _ => ?_))
   | exact ih0 _ _ _ _
   | exact LeO.none _
   | refine LeO.ite ?_ ?_
   | refine LeO.bind ?_ (fun _ => ?_)
theorem order_without.mono : ∀ a0 a1 k, LeO (order_without.f k a0 a1) (order_without.f (k + 1) a0 a1) := by
 intro a0 a1 k
 have ih0:=order_without.mono_l k
 unfold order_without.f
 repeat' first
   | (with_reducible exact ih0 _ _ _ _)
   | (with_reducible exact LeO.refl _)
   | (with_reducible exact LeO.none _)
   | (with_reducible refine LeO.ite ?_ ?_)
   | (with_reducible refine LeO.bind ?_ (fun _ => ?_))
   | exact ih0 _ _ _ _
   | exact LeO.none _
   | refine LeO.ite ?_ ?_
   | refine LeO.bind ?_ (fun _ => ?_)
set_option maxHeartbeats 8000000 in
set_option maxRecDepth 100000 in
theorem order_without.calls (k : Nat) (A0 : Option Addr) (c0 : Nat) (l0 : List (S33)) (a1 : Int) (r : List (S33)) (w : World) (hr0 : Kd.C k33 w A0 l0.length l0) (hc0 : l0.length ≤ c0) (h : order_without.f k l0 a1 = some r) :
  Calls Try.prog 47 #[.slice A0 l0.length c0,.int .i64 a1] w fun e w' => ∃ v0_ : Value,e = .returned (v0_) ∧ Kd.R k33 33 w' w.heap.size (fun _ => True) v0_ r ∧ Below w.heap.size w w':=by
 have HR0:=Aside0.mk hr0
 have HC0:=Aside0.mk hc0
 clear hr0 hc0
 have HB:=Aside0.mk (Below.refl w.heap.size w)
 have H : ((order_copied.f l0).bind fun t172 => ((api_Order_52.f t172 a1 (wrap64 (a1 + 1))).bind fun t175 => (order_without.l0 k a1 t175 (t175.length : Int) 0))) = some r:=h
 clear h
 replace H:=Option.bind_eq_some_iff.mp H
 obtain ⟨t172,A30,H⟩:=H
 replace H : ((api_Order_52.f t172 a1 (wrap64 (a1 + 1))).bind fun t175 => (order_without.l0 k a1 t175 (t175.length : Int) 0)) = some r:=H
 have A3:=Aside0.mk A30
 clear A30
 replace H:=Option.bind_eq_some_iff.mp H
 obtain ⟨t175,A40,H⟩:=H
 replace H : (order_without.l0 k a1 t175 (t175.length : Int) 0) = some r:=H
 have A4:=Aside0.mk A40
 clear A40
 have H':=Aside0.mk H
 clear H
 go_enter Try.func47,Try.ntmps47
 go_wp2_with (first|((with_reducible refine gate_callee (f:=48) rfl ?_);refine goesL_ (some 8) rfl rfl Try.func48 (by kernel_rfl) rfl #[.slice A0 l0.length c0] rfl (by (try simp only [List.map_toArray,List.map_cons,List.map_nil]);first|done|rfl|(simp only [List.length_drop,List.length_take];rfl)) ?_;(with_reducible refine (order_copied.calls _ _ l0 t172 _ ?side1 ?side2 A3.out).mono ?_);(case side1 => repeat (first|exact HR0.out|(with_reducible refine Kd.C_alloc ?_ _)|(with_reducible refine Kd.C_drewN ?_ _)|(with_reducible refine Kd.C_drew ?_)));(case side2 => exact HC0.out);rintro e w5 ⟨v173,rfl,ho0,hb⟩;refine ⟨_,rfl,?_⟩;have n0_:=Aside0.mk (Kd.R_lower ho0 (below_size (by repeat (first|(with_reducible first|exact HB.out|apply below_alloc|apply pw_below_drewN|apply below_drew1)|exact HB.out))));have n1_:=Aside0.mk (below_step (by repeat (first|(with_reducible first|exact HB.out|apply below_alloc|apply pw_below_drewN|apply below_drew1)|exact HB.out)) hb);clear HB;have HO174:=n0_;have HB:=n1_;clear n0_ n1_;(try clear hb);(try clear hb2);(try clear hk);(try clear hi);(try clear ho0);obtain ⟨Ao6,co6,eo6⟩:=Kd.R_slice HO174.out;subst eo6)|((with_reducible refine gate_callee (f:=52) rfl ?_);refine goesL_ (some 12) rfl rfl Try.func52 (by kernel_rfl) rfl #[.slice Ao6 t172.length co6,.int .i64 a1,.int .i64 (wrap64 (a1 + 1))] rfl (by (try simp only [List.map_toArray,List.map_cons,List.map_nil]);first|done|rfl|(simp only [List.length_drop,List.length_take];rfl)) ?_;(with_reducible refine (api_Order_52.calls (fun k_ => some k_ = (.slice Ao6 t172.length co6 : Value).ownBlock) (.slice Ao6 t172.length co6) t172 a1 (wrap64 (a1 + 1)) t175 w _ ?side1 ?side2 A4.out).mono ?_);(case side1 => repeat (first|(with_reducible first|exact HB.out|apply below_alloc|apply pw_below_drewN|apply below_drew1)|exact HB.out));(case side2 => exact Kd.R_tight rfl HO174.out);rintro e w7 ⟨v176,rfl,ho0,hb,hkp⟩;refine ⟨_,rfl,?_⟩;have n0_:=Aside0.mk (Kd.R_mono (ok':=fun k_ => True) ho0 (fun k_ hk_ => trivial));have n1_:=Aside0.mk (hb);clear HB;clear HO174;have HO177:=n0_;have HB:=n1_;clear n0_ n1_;(try clear hb);(try clear hkp);(try clear ho0);obtain ⟨Ao8,co8,eo8⟩:=Kd.R_slice HO177.out;subst eo8))
 go_loopg [15] k (fun kq v15 w' => ∃ (x5_1 : List (S33)) (x15_1 : Int),v15 = .int .i64 x15_1 ∧ Aside0 (order_without.l0 kq a1 x5_1 (t175.length : Int) x15_1 = some r) ∧ Aside0 (kq ≤ k) ∧ Aside0 (Kd.R k33 33 w' w.heap.size (fun _ => True) (.slice Ao8 t175.length co8) x5_1) ∧ Aside0 (Below w.heap.size w w'))
 case atStart => exact ⟨(t175),(0),(by first|rfl|(simp;done)|(simp [*];done)),H',⟨Nat.le_refl _⟩,⟨by (with_reducible repeat (first|apply Kd.R_alloc|apply Kd.R_drewN|apply Kd.R_drew));exact HO177.out⟩,⟨by repeat (first|(with_reducible first|exact HB.out|apply below_alloc|apply pw_below_drewN|apply below_drew1)|exact HB.out)⟩⟩
 case round =>
  clear H'
  try clear p2
  try clear c4
  try clear c5
  try clear p6
  obtain ⟨x5_1,x15_1,rfl,HA,HK1,HO_5,HB⟩:=hrel
  have hl5_1:=(Kd.R_reads' HO_5.out).1
  rw [hl5_1] at HO_5
  (try simp only [hl5_1])
  cases gk with
  | zero => exact absurd HA.out (by simp [order_without.l0])
  | succ k1 =>
   have H:=HA.out
   clear HA
   simp only [order_without.l0] at H
   by_cases c9 : x15_1 < (t175.length : Int)
   ·rw [if_pos c9] at H
    have c9b0 : decide (x15_1 < (t175.length : Int)) = true:=decide_eq_true c9
    (try simp only [hl5_1] at c9b0)
    clear c9
    by_cases c10 : 0 ≤ x15_1
    ·rw [if_pos c10] at H
     have c10b0 : decide (0 ≤ x15_1) = true:=decide_eq_true c10
     clear c10
     by_cases c11 : x15_1 < (x5_1.length : Int)
     ·rw [if_pos c11] at H
      have c11b0 : decide (x15_1 < (x5_1.length : Int)) = true:=decide_eq_true c11
      (try simp only [hl5_1] at c11b0)
      clear c11
      by_cases c12 : ((rd_T33 x5_1 x15_1).f6) > a1
      ·rw [if_pos c12] at H
       have c12b0 : decide (a1 < ((rd_T33 x5_1 x15_1).f6)) = true:=decide_eq_true c12
       clear c12
       obtain ⟨y180,hy180⟩ : ∃ y_ : List (S33),y_ = (x5_1.set (x15_1 : Int).toNat (⟨(rd_T33 x5_1 x15_1).f0,(rd_T33 x5_1 x15_1).f1,(rd_T33 x5_1 x15_1).f2,(rd_T33 x5_1 x15_1).f3,(rd_T33 x5_1 x15_1).f4,(rd_T33 x5_1 x15_1).f5,wrap64 (((rd_T33 x5_1 x15_1).f6) - 1),(rd_T33 x5_1 x15_1).f7,(rd_T33 x5_1 x15_1).f8⟩ : S33)):=⟨_,rfl⟩
       replace H : (order_without.l0 k1 a1 y180 (t175.length : Int) (wrap64 (x15_1 + 1))) = some r:=by first|(rw [hy180];with_reducible exact H)|(have H2_:=(Option.bind_some _ _).symm.trans H;rw [hy180];with_reducible exact H2_)|(have H2_:=(Option.bind_some _ _).symm.trans H;with_reducible exact H2_)|with_reducible exact H|(rw [hy180];exact H)|exact H
       have Ny180:=Aside0.mk hy180
       clear hy180
       have H':=Aside0.mk H
       clear H
       have p178 : 0 ≤ (x15_1 : Int):=of_decide_eq_true (by first|(with_reducible assumption)|assumption)
       have q178 : x15_1 < (x5_1.length : Int):=of_decide_eq_true (by first|(with_reducible assumption)|assumption)
       obtain ⟨ad178,e178,hx178_0,hx178_1,hx178_2,hx178_3,hx178_4,hx178_5,hx178_6,hx178_7,hx178_8⟩:=at_T33 (Kd.R_reads' HO_5.out).2.2 x15_1 p178 q178
       cases e178
       replace p178:=eq_true p178
       replace q178:=eq_true q178
       have p179 : 0 ≤ (x15_1 : Int):=of_decide_eq_true (by first|(with_reducible assumption)|assumption)
       have q179 : x15_1 < (x5_1.length : Int):=of_decide_eq_true (by first|(with_reducible assumption)|assumption)
       obtain ⟨ad179,e179,hx179_0,hx179_1,hx179_2,hx179_3,hx179_4,hx179_5,hx179_6,hx179_7,hx179_8⟩:=at_T33 (Kd.R_reads' HO_5.out).2.2 x15_1 p179 q179
       obtain rfl : ad178 = ad179:=(by injection e179)
       replace p179:=eq_true p179
       replace q179:=eq_true q179
       have p13 : 0 ≤ (x15_1 : Int):=of_decide_eq_true (by first|(with_reducible assumption)|assumption)
       have q13 : (x15_1 : Int) < ((x5_1.length : Int) : Int):=of_decide_eq_true (by first|(with_reducible assumption)|assumption)
       obtain ⟨go13,co13,eo13,gb13,gl13,cl13,HG13⟩:=Kd.R_form HO_5.out (by omega)
       (first|cases eo13|(injection eo13 with ea_ en_ ec_;(first|subst ea_|(injection ea_ with ea_;subst ea_));subst ec_;clear en_))
       have GB13:=Aside0.mk gb13
       have GG13:=Aside0.mk HG13
       clear gb13 gl13 HG13
       (first|simp only [add_plain] at hx178_0|skip)
       (first|simp only [add_plain] at hx178_1|skip)
       (first|simp only [add_plain] at hx178_2|skip)
       (first|simp only [add_plain] at hx178_3|skip)
       (first|simp only [add_plain] at hx178_4|skip)
       (first|simp only [add_plain] at hx178_5|skip)
       (first|simp only [add_plain] at hx178_6|skip)
       (first|simp only [add_plain] at hx178_7|skip)
       (first|simp only [add_plain] at hx178_8|skip)
       (first|simp only [add_plain] at hx179_0|skip)
       (first|simp only [add_plain] at hx179_1|skip)
       (first|simp only [add_plain] at hx179_2|skip)
       (first|simp only [add_plain] at hx179_3|skip)
       (first|simp only [add_plain] at hx179_4|skip)
       (first|simp only [add_plain] at hx179_5|skip)
       (first|simp only [add_plain] at hx179_6|skip)
       (first|simp only [add_plain] at hx179_7|skip)
       (first|simp only [add_plain] at hx179_8|skip)
       obtain ⟨ce13,hcl13,hM13,hcc13,hfr13⟩:=Kd.R_elem HO_5.out z33 (x15_1 : Int) p13 q13
       obtain rfl:=k33_openM hM13
       have hx13_0 : wr.cell? ⟨go13,(x15_1 : Int).toNat * 9,none⟩ = some (.int .i64 ((rd_T33 x5_1 x15_1).f0)):=hcc13 0 _ rfl
       have hx13_1 : wr.cell? ⟨go13,(x15_1 : Int).toNat * 9 + 1,none⟩ = some (.int .i64 ((rd_T33 x5_1 x15_1).f1)):=hcc13 1 _ rfl
       have hx13_2 : wr.cell? ⟨go13,(x15_1 : Int).toNat * 9 + 2,none⟩ = some (.int .i64 ((rd_T33 x5_1 x15_1).f2)):=hcc13 2 _ rfl
       have hx13_3 : wr.cell? ⟨go13,(x15_1 : Int).toNat * 9 + 3,none⟩ = some (.int .i64 ((rd_T33 x5_1 x15_1).f3)):=hcc13 3 _ rfl
       have hx13_4 : wr.cell? ⟨go13,(x15_1 : Int).toNat * 9 + 4,none⟩ = some (.int .i64 ((rd_T33 x5_1 x15_1).f4)):=hcc13 4 _ rfl
       have hx13_5 : wr.cell? ⟨go13,(x15_1 : Int).toNat * 9 + 5,none⟩ = some (.int .i64 ((rd_T33 x5_1 x15_1).f5)):=hcc13 5 _ rfl
       have hx13_6 : wr.cell? ⟨go13,(x15_1 : Int).toNat * 9 + 6,none⟩ = some (.int .i64 ((rd_T33 x5_1 x15_1).f6)):=hcc13 6 _ rfl
       have hx13_7 : wr.cell? ⟨go13,(x15_1 : Int).toNat * 9 + 7,none⟩ = some (.int .i64 ((rd_T33 x5_1 x15_1).f7)):=hcc13 7 _ rfl
       have hx13_8 : wr.cell? ⟨go13,(x15_1 : Int).toNat * 9 + 8,none⟩ = some (.int .i64 ((rd_T33 x5_1 x15_1).f8)):=hcc13 8 _ rfl
       have hf13_0 : wr.frozen? ⟨go13,(x15_1 : Int).toNat * 9,none⟩ = false:=hfr13 0
       have hf13_1 : wr.frozen? ⟨go13,(x15_1 : Int).toNat * 9 + 1,none⟩ = false:=hfr13 1
       have hf13_2 : wr.frozen? ⟨go13,(x15_1 : Int).toNat * 9 + 2,none⟩ = false:=hfr13 2
       have hf13_3 : wr.frozen? ⟨go13,(x15_1 : Int).toNat * 9 + 3,none⟩ = false:=hfr13 3
       have hf13_4 : wr.frozen? ⟨go13,(x15_1 : Int).toNat * 9 + 4,none⟩ = false:=hfr13 4
       have hf13_5 : wr.frozen? ⟨go13,(x15_1 : Int).toNat * 9 + 5,none⟩ = false:=hfr13 5
       have hf13_6 : wr.frozen? ⟨go13,(x15_1 : Int).toNat * 9 + 6,none⟩ = false:=hfr13 6
       have hf13_7 : wr.frozen? ⟨go13,(x15_1 : Int).toNat * 9 + 7,none⟩ = false:=hfr13 7
       have hf13_8 : wr.frozen? ⟨go13,(x15_1 : Int).toNat * 9 + 8,none⟩ = false:=hfr13 8
       clear hcl13 hcc13 hfr13 hM13
       replace p13:=eq_true p13
       replace q13:=eq_true q13
       have HX14:=Aside0.mk (show Kd.R k33 33 wr w.heap.size (fun _ => True) (.slice (some ⟨go13,0,none⟩) x5_1.length co8) x5_1 from (by (with_reducible repeat (first|apply Kd.R_alloc|apply Kd.R_drewN|apply Kd.R_drew));exact HO_5.out))
       obtain ⟨ce14,hcl14,hM14,hcc14,hfr14⟩:=Kd.R_elem HX14.out z33 (x15_1 : Int) (of_decide_eq_true (by first|(with_reducible assumption)|assumption)) (by have h_ : (x15_1 : Int) < ((x5_1.length : Int) : Int):=of_decide_eq_true (by first|(with_reducible assumption)|assumption);first|exact h_|(have e_:=(Kd.R_reads' HO_5.out).1;omega)|simpa using h_)
       obtain rfl:=k33_openM hM14
       have HP14:=Kd.R_seg HX14.out (x15_1 : Int) (of_decide_eq_true (by first|(with_reducible assumption)|assumption)) (by have h_ : (x15_1 : Int) < ((x5_1.length : Int) : Int):=of_decide_eq_true (by first|(with_reducible assumption)|assumption);first|exact h_|(have e_:=(Kd.R_reads' HO_5.out).1;omega)|simpa using h_) (seg:=[.int .i64 (wrap64 (((rd_T33 x5_1 x15_1).f6) - 1))]) (j:=6) hcl14 hcc14 (show 7 ≤ 9 from by decide) (x':=(⟨(rd_T33 x5_1 x15_1).f0,(rd_T33 x5_1 x15_1).f1,(rd_T33 x5_1 x15_1).f2,(rd_T33 x5_1 x15_1).f3,(rd_T33 x5_1 x15_1).f4,(rd_T33 x5_1 x15_1).f5,wrap64 (((rd_T33 x5_1 x15_1).f6) - 1),(rd_T33 x5_1 x15_1).f7,(rd_T33 x5_1 x15_1).f8⟩ : S33)) (k33_mkM _ _ _ (⟨(rd_T33 x5_1 x15_1).f0,(rd_T33 x5_1 x15_1).f1,(rd_T33 x5_1 x15_1).f2,(rd_T33 x5_1 x15_1).f3,(rd_T33 x5_1 x15_1).f4,(rd_T33 x5_1 x15_1).f5,wrap64 (((rd_T33 x5_1 x15_1).f6) - 1),(rd_T33 x5_1 x15_1).f7,(rd_T33 x5_1 x15_1).f8⟩ : S33) ) (fun _ hk => hk)
       have hx14_6:=hcc14 6 _ rfl
       (try simp only [show (k33).sz = 9 from rfl,Nat.mul_one,Nat.add_zero] at hx14_6)
       have hf14_6:=hfr14 6
       (try simp only [show (k33).sz = 9 from rfl,Nat.mul_one,Nat.add_zero] at hf14_6)
       clear hcl14 hcc14 hfr14 hM14
       go_wp2_with (first|((with_reducible refine gate_store (t:=3) (p:=32) rfl ?_);refine store_event (t:=3) (p:=32) (v:=?vo_w15) (w1:=(wr.setCell ⟨go13,(x15_1 : Int).toNat * 9 + 6,none⟩ (.int .i64 (wrap64 (((rd_T33 x5_1 x15_1).f6) - 1))))) ?hg ?ho ?hn ?hr ?_;(case ho => rfl);(case hg => rfl);(case hn => rfl);(case hr => first|(go_simp;done)|(go_simp;rfl));intro w15 hw;have hg : wr.grownBy w15 (some go13):=(by rw [hw];exact HP14.2);have hp_ : Kd.R k33 33 w15 w.heap.size (fun _ => True) (.slice (some ⟨go13,0,none⟩) x5_1.length co8) y180:=(by rw [hw,Ny180.out];exact HP14.1);clear HP14;have n0_:=Aside0.mk (hp_);have n1_:=Aside0.mk ((by rw [hw];exact below_set (HB.out) GB13.out : Below w.heap.size w w15));clear HO_5;clear HB;have HO_5:=n0_;have HB:=n1_;clear n0_ n1_;clear hg hw hp_))
       (try simp only [← hl5_1])
       go_roundg k1
       case measure => have:=HK1.out;omega
       case rel => exact ⟨(y180),(wrap64 (x15_1 + 1)),(by first|rfl|(simp;done)|(simp [*];done)),H',⟨by have:=HK1.out;omega⟩,⟨by (try simp only [hl5_1]);(with_reducible repeat (first|apply Kd.R_alloc|apply Kd.R_drewN|apply Kd.R_drew));exact HO_5.out⟩,⟨by repeat (first|(with_reducible first|exact HB.out|apply below_alloc|apply pw_below_drewN|apply below_drew1)|exact HB.out)⟩⟩
      ·rw [if_neg c12] at H
       have c12b0 : decide (a1 < ((rd_T33 x5_1 x15_1).f6)) = false:=decide_eq_false c12
       clear c12
       by_cases c16 : ((rd_T33 x5_1 x15_1).f6) = a1
       ·rw [if_pos c16] at H
        have c16b0 : (((rd_T33 x5_1 x15_1).f6) == a1) = true:=beq_iff_eq.mpr c16
        have c16b1 : (((rd_T33 x5_1 x15_1).f6) != a1) = false:=bne_eq_false_iff_eq.mpr c16
        clear c16
        by_cases c17 : a1 ≥ (x5_1.length : Int)
        ·rw [if_pos c17] at H
         have c17b0 : decide ((x5_1.length : Int) ≤ a1) = true:=decide_eq_true c17
         (try simp only [hl5_1] at c17b0)
         clear c17
         obtain ⟨y182,hy182⟩ : ∃ y_ : List (S33),y_ = (x5_1.set (x15_1 : Int).toNat (⟨(rd_T33 x5_1 x15_1).f0,(rd_T33 x5_1 x15_1).f1,(rd_T33 x5_1 x15_1).f2,(rd_T33 x5_1 x15_1).f3,(rd_T33 x5_1 x15_1).f4,(rd_T33 x5_1 x15_1).f5,0,(rd_T33 x5_1 x15_1).f7,(rd_T33 x5_1 x15_1).f8⟩ : S33)):=⟨_,rfl⟩
         replace H : (order_without.l0 k1 a1 y182 (t175.length : Int) (wrap64 (x15_1 + 1))) = some r:=by first|(rw [hy182];with_reducible exact H)|(have H2_:=(Option.bind_some _ _).symm.trans H;rw [hy182];with_reducible exact H2_)|(have H2_:=(Option.bind_some _ _).symm.trans H;with_reducible exact H2_)|with_reducible exact H|(rw [hy182];exact H)|exact H
         have Ny182:=Aside0.mk hy182
         clear hy182
         have H':=Aside0.mk H
         clear H
         have p178 : 0 ≤ (x15_1 : Int):=of_decide_eq_true (by first|(with_reducible assumption)|assumption)
         have q178 : x15_1 < (x5_1.length : Int):=of_decide_eq_true (by first|(with_reducible assumption)|assumption)
         obtain ⟨ad178,e178,hx178_0,hx178_1,hx178_2,hx178_3,hx178_4,hx178_5,hx178_6,hx178_7,hx178_8⟩:=at_T33 (Kd.R_reads' HO_5.out).2.2 x15_1 p178 q178
         cases e178
         replace p178:=eq_true p178
         replace q178:=eq_true q178
         have p181 : 0 ≤ (x15_1 : Int):=of_decide_eq_true (by first|(with_reducible assumption)|assumption)
         have q181 : x15_1 < (x5_1.length : Int):=of_decide_eq_true (by first|(with_reducible assumption)|assumption)
         obtain ⟨ad181,e181,hx181_0,hx181_1,hx181_2,hx181_3,hx181_4,hx181_5,hx181_6,hx181_7,hx181_8⟩:=at_T33 (Kd.R_reads' HO_5.out).2.2 x15_1 p181 q181
         obtain rfl : ad178 = ad181:=(by injection e181)
         replace p181:=eq_true p181
         replace q181:=eq_true q181
         have p18 : 0 ≤ (x15_1 : Int):=of_decide_eq_true (by first|(with_reducible assumption)|assumption)
         have q18 : (x15_1 : Int) < ((x5_1.length : Int) : Int):=of_decide_eq_true (by first|(with_reducible assumption)|assumption)
         obtain ⟨go18,co18,eo18,gb18,gl18,cl18,HG18⟩:=Kd.R_form HO_5.out (by omega)
         (first|cases eo18|(injection eo18 with ea_ en_ ec_;(first|subst ea_|(injection ea_ with ea_;subst ea_));subst ec_;clear en_))
         have GB18:=Aside0.mk gb18
         have GG18:=Aside0.mk HG18
         clear gb18 gl18 HG18
         (first|simp only [add_plain] at hx178_0|skip)
         (first|simp only [add_plain] at hx178_1|skip)
         (first|simp only [add_plain] at hx178_2|skip)
         (first|simp only [add_plain] at hx178_3|skip)
         (first|simp only [add_plain] at hx178_4|skip)
         (first|simp only [add_plain] at hx178_5|skip)
         (first|simp only [add_plain] at hx178_6|skip)
         (first|simp only [add_plain] at hx178_7|skip)
         (first|simp only [add_plain] at hx178_8|skip)
         (first|simp only [add_plain] at hx181_0|skip)
         (first|simp only [add_plain] at hx181_1|skip)
         (first|simp only [add_plain] at hx181_2|skip)
         (first|simp only [add_plain] at hx181_3|skip)
         (first|simp only [add_plain] at hx181_4|skip)
         (first|simp only [add_plain] at hx181_5|skip)
         (first|simp only [add_plain] at hx181_6|skip)
         (first|simp only [add_plain] at hx181_7|skip)
         (first|simp only [add_plain] at hx181_8|skip)
         obtain ⟨ce18,hcl18,hM18,hcc18,hfr18⟩:=Kd.R_elem HO_5.out z33 (x15_1 : Int) p18 q18
         obtain rfl:=k33_openM hM18
         have hx18_0 : wr.cell? ⟨go18,(x15_1 : Int).toNat * 9,none⟩ = some (.int .i64 ((rd_T33 x5_1 x15_1).f0)):=hcc18 0 _ rfl
         have hx18_1 : wr.cell? ⟨go18,(x15_1 : Int).toNat * 9 + 1,none⟩ = some (.int .i64 ((rd_T33 x5_1 x15_1).f1)):=hcc18 1 _ rfl
         have hx18_2 : wr.cell? ⟨go18,(x15_1 : Int).toNat * 9 + 2,none⟩ = some (.int .i64 ((rd_T33 x5_1 x15_1).f2)):=hcc18 2 _ rfl
         have hx18_3 : wr.cell? ⟨go18,(x15_1 : Int).toNat * 9 + 3,none⟩ = some (.int .i64 ((rd_T33 x5_1 x15_1).f3)):=hcc18 3 _ rfl
         have hx18_4 : wr.cell? ⟨go18,(x15_1 : Int).toNat * 9 + 4,none⟩ = some (.int .i64 ((rd_T33 x5_1 x15_1).f4)):=hcc18 4 _ rfl
         have hx18_5 : wr.cell? ⟨go18,(x15_1 : Int).toNat * 9 + 5,none⟩ = some (.int .i64 ((rd_T33 x5_1 x15_1).f5)):=hcc18 5 _ rfl
         have hx18_6 : wr.cell? ⟨go18,(x15_1 : Int).toNat * 9 + 6,none⟩ = some (.int .i64 ((rd_T33 x5_1 x15_1).f6)):=hcc18 6 _ rfl
         have hx18_7 : wr.cell? ⟨go18,(x15_1 : Int).toNat * 9 + 7,none⟩ = some (.int .i64 ((rd_T33 x5_1 x15_1).f7)):=hcc18 7 _ rfl
         have hx18_8 : wr.cell? ⟨go18,(x15_1 : Int).toNat * 9 + 8,none⟩ = some (.int .i64 ((rd_T33 x5_1 x15_1).f8)):=hcc18 8 _ rfl
         have hf18_0 : wr.frozen? ⟨go18,(x15_1 : Int).toNat * 9,none⟩ = false:=hfr18 0
         have hf18_1 : wr.frozen? ⟨go18,(x15_1 : Int).toNat * 9 + 1,none⟩ = false:=hfr18 1
         have hf18_2 : wr.frozen? ⟨go18,(x15_1 : Int).toNat * 9 + 2,none⟩ = false:=hfr18 2
         have hf18_3 : wr.frozen? ⟨go18,(x15_1 : Int).toNat * 9 + 3,none⟩ = false:=hfr18 3
         have hf18_4 : wr.frozen? ⟨go18,(x15_1 : Int).toNat * 9 + 4,none⟩ = false:=hfr18 4
         have hf18_5 : wr.frozen? ⟨go18,(x15_1 : Int).toNat * 9 + 5,none⟩ = false:=hfr18 5
         have hf18_6 : wr.frozen? ⟨go18,(x15_1 : Int).toNat * 9 + 6,none⟩ = false:=hfr18 6
         have hf18_7 : wr.frozen? ⟨go18,(x15_1 : Int).toNat * 9 + 7,none⟩ = false:=hfr18 7
         have hf18_8 : wr.frozen? ⟨go18,(x15_1 : Int).toNat * 9 + 8,none⟩ = false:=hfr18 8
         clear hcl18 hcc18 hfr18 hM18
         replace p18:=eq_true p18
         replace q18:=eq_true q18
         have HX19:=Aside0.mk (show Kd.R k33 33 wr w.heap.size (fun _ => True) (.slice (some ⟨go18,0,none⟩) x5_1.length co8) x5_1 from (by (with_reducible repeat (first|apply Kd.R_alloc|apply Kd.R_drewN|apply Kd.R_drew));exact HO_5.out))
         obtain ⟨ce19,hcl19,hM19,hcc19,hfr19⟩:=Kd.R_elem HX19.out z33 (x15_1 : Int) (of_decide_eq_true (by first|(with_reducible assumption)|assumption)) (by have h_ : (x15_1 : Int) < ((x5_1.length : Int) : Int):=of_decide_eq_true (by first|(with_reducible assumption)|assumption);first|exact h_|(have e_:=(Kd.R_reads' HO_5.out).1;omega)|simpa using h_)
         obtain rfl:=k33_openM hM19
         have HP19:=Kd.R_seg HX19.out (x15_1 : Int) (of_decide_eq_true (by first|(with_reducible assumption)|assumption)) (by have h_ : (x15_1 : Int) < ((x5_1.length : Int) : Int):=of_decide_eq_true (by first|(with_reducible assumption)|assumption);first|exact h_|(have e_:=(Kd.R_reads' HO_5.out).1;omega)|simpa using h_) (seg:=[.int .i64 0]) (j:=6) hcl19 hcc19 (show 7 ≤ 9 from by decide) (x':=(⟨(rd_T33 x5_1 x15_1).f0,(rd_T33 x5_1 x15_1).f1,(rd_T33 x5_1 x15_1).f2,(rd_T33 x5_1 x15_1).f3,(rd_T33 x5_1 x15_1).f4,(rd_T33 x5_1 x15_1).f5,0,(rd_T33 x5_1 x15_1).f7,(rd_T33 x5_1 x15_1).f8⟩ : S33)) (k33_mkM _ _ _ (⟨(rd_T33 x5_1 x15_1).f0,(rd_T33 x5_1 x15_1).f1,(rd_T33 x5_1 x15_1).f2,(rd_T33 x5_1 x15_1).f3,(rd_T33 x5_1 x15_1).f4,(rd_T33 x5_1 x15_1).f5,0,(rd_T33 x5_1 x15_1).f7,(rd_T33 x5_1 x15_1).f8⟩ : S33) ) (fun _ hk => hk)
         have hx19_6:=hcc19 6 _ rfl
         (try simp only [show (k33).sz = 9 from rfl,Nat.mul_one,Nat.add_zero] at hx19_6)
         have hf19_6:=hfr19 6
         (try simp only [show (k33).sz = 9 from rfl,Nat.mul_one,Nat.add_zero] at hf19_6)
         clear hcl19 hcc19 hfr19 hM19
         go_wp2_with (first|((with_reducible refine gate_store (t:=3) (p:=49) rfl ?_);refine store_event (t:=3) (p:=49) (v:=?vo_w20) (w1:=(wr.setCell ⟨go18,(x15_1 : Int).toNat * 9 + 6,none⟩ (.int .i64 0))) ?hg ?ho ?hn ?hr ?_;(case ho => rfl);(case hg => rfl);(case hn => rfl);(case hr => first|(go_simp;done)|(go_simp;rfl));intro w20 hw;have hg : wr.grownBy w20 (some go18):=(by rw [hw];exact HP19.2);have hp_ : Kd.R k33 33 w20 w.heap.size (fun _ => True) (.slice (some ⟨go18,0,none⟩) x5_1.length co8) y182:=(by rw [hw,Ny182.out];exact HP19.1);clear HP19;have n0_:=Aside0.mk (hp_);have n1_:=Aside0.mk ((by rw [hw];exact below_set (HB.out) GB18.out : Below w.heap.size w w20));clear HO_5;clear HB;have HO_5:=n0_;have HB:=n1_;clear n0_ n1_;clear hg hw hp_))
         (try simp only [← hl5_1])
         go_roundg k1
         case measure => have:=HK1.out;omega
         case rel => exact ⟨(y182),(wrap64 (x15_1 + 1)),(by first|rfl|(simp;done)|(simp [*];done)),H',⟨by have:=HK1.out;omega⟩,⟨by (try simp only [hl5_1]);(with_reducible repeat (first|apply Kd.R_alloc|apply Kd.R_drewN|apply Kd.R_drew));exact HO_5.out⟩,⟨by repeat (first|(with_reducible first|exact HB.out|apply below_alloc|apply pw_below_drewN|apply below_drew1)|exact HB.out)⟩⟩
        ·rw [if_neg c17] at H
         have c17b0 : decide ((x5_1.length : Int) ≤ a1) = false:=decide_eq_false c17
         (try simp only [hl5_1] at c17b0)
         clear c17
         have H':=Aside0.mk H
         clear H
         have p178 : 0 ≤ (x15_1 : Int):=of_decide_eq_true (by first|(with_reducible assumption)|assumption)
         have q178 : x15_1 < (x5_1.length : Int):=of_decide_eq_true (by first|(with_reducible assumption)|assumption)
         obtain ⟨ad178,e178,hx178_0,hx178_1,hx178_2,hx178_3,hx178_4,hx178_5,hx178_6,hx178_7,hx178_8⟩:=at_T33 (Kd.R_reads' HO_5.out).2.2 x15_1 p178 q178
         cases e178
         replace p178:=eq_true p178
         replace q178:=eq_true q178
         have p181 : 0 ≤ (x15_1 : Int):=of_decide_eq_true (by first|(with_reducible assumption)|assumption)
         have q181 : x15_1 < (x5_1.length : Int):=of_decide_eq_true (by first|(with_reducible assumption)|assumption)
         obtain ⟨ad181,e181,hx181_0,hx181_1,hx181_2,hx181_3,hx181_4,hx181_5,hx181_6,hx181_7,hx181_8⟩:=at_T33 (Kd.R_reads' HO_5.out).2.2 x15_1 p181 q181
         obtain rfl : ad178 = ad181:=(by injection e181)
         replace p181:=eq_true p181
         replace q181:=eq_true q181
         go_wp2
         (try simp only [← hl5_1])
         go_roundg k1
         case measure => have:=HK1.out;omega
         case rel => exact ⟨(x5_1),(wrap64 (x15_1 + 1)),(by first|rfl|(simp;done)|(simp [*];done)),H',⟨by have:=HK1.out;omega⟩,⟨by (try simp only [hl5_1]);(with_reducible repeat (first|apply Kd.R_alloc|apply Kd.R_drewN|apply Kd.R_drew));exact HO_5.out⟩,⟨by repeat (first|(with_reducible first|exact HB.out|apply below_alloc|apply pw_below_drewN|apply below_drew1)|exact HB.out)⟩⟩
       ·rw [if_neg c16] at H
        have c16b0 : (((rd_T33 x5_1 x15_1).f6) == a1) = false:=beq_eq_false_iff_ne.mpr c16
        have c16b1 : (((rd_T33 x5_1 x15_1).f6) != a1) = true:=bne_iff_ne.mpr c16
        have H':=Aside0.mk H
        clear H
        have p178 : 0 ≤ (x15_1 : Int):=of_decide_eq_true (by first|(with_reducible assumption)|assumption)
        have q178 : x15_1 < (x5_1.length : Int):=of_decide_eq_true (by first|(with_reducible assumption)|assumption)
        obtain ⟨ad178,e178,hx178_0,hx178_1,hx178_2,hx178_3,hx178_4,hx178_5,hx178_6,hx178_7,hx178_8⟩:=at_T33 (Kd.R_reads' HO_5.out).2.2 x15_1 p178 q178
        cases e178
        replace p178:=eq_true p178
        replace q178:=eq_true q178
        have p181 : 0 ≤ (x15_1 : Int):=of_decide_eq_true (by first|(with_reducible assumption)|assumption)
        have q181 : x15_1 < (x5_1.length : Int):=of_decide_eq_true (by first|(with_reducible assumption)|assumption)
        obtain ⟨ad181,e181,hx181_0,hx181_1,hx181_2,hx181_3,hx181_4,hx181_5,hx181_6,hx181_7,hx181_8⟩:=at_T33 (Kd.R_reads' HO_5.out).2.2 x15_1 p181 q181
        obtain rfl : ad178 = ad181:=(by injection e181)
        replace p181:=eq_true p181
        replace q181:=eq_true q181
        go_wp2
        (try simp only [← hl5_1])
        go_roundg k1
        case measure => have:=HK1.out;omega
        case rel => exact ⟨(x5_1),(wrap64 (x15_1 + 1)),(by first|rfl|(simp;done)|(simp [*];done)),H',⟨by have:=HK1.out;omega⟩,⟨by (try simp only [hl5_1]);(with_reducible repeat (first|apply Kd.R_alloc|apply Kd.R_drewN|apply Kd.R_drew));exact HO_5.out⟩,⟨by repeat (first|(with_reducible first|exact HB.out|apply below_alloc|apply pw_below_drewN|apply below_drew1)|exact HB.out)⟩⟩
     ·rw [if_neg c11] at H
      exact absurd H (by simp)
    ·rw [if_neg c10] at H
     exact absurd H (by simp)
   ·rw [if_neg c9] at H
    have c9b0 : decide (x15_1 < (t175.length : Int)) = false:=decide_eq_false c9
    (try simp only [hl5_1] at c9b0)
    clear c9
    obtain rfl:=Option.some.inj H
    go_wp2
    go_ret
    exact ⟨_,by first|rfl|(simp [errW_none,errW_some] <;> rfl)|(simp [*,errW_none,errW_some] <;> rfl),by (with_reducible repeat (first|apply Kd.R_alloc|apply Kd.R_drewN|apply Kd.R_drew));exact HO_5.out,by repeat (first|(with_reducible first|exact HB.out|apply below_alloc|apply pw_below_drewN|apply below_drew1)|exact HB.out)⟩

/-! ### order_Remove: function 29 -/
def order_Remove.f (k : Nat) (l0 : List (S33)) (a1 : Int) : Option ((List (S33)) × Int) := (order_Validate.f k l0).bind fun t183 => (if t183 = 0 then ((order_within.f a1 (wrap64 ((l0.length : Int) - 1))).bind fun t184 => (if t184 = true then ((order_without.f k l0 a1).bind fun t185 => (some (t185, 0))) else (some (([] : List (S33)), 2)))) else (some (([] : List (S33)), t183)))
theorem order_Remove.mono : ∀ a0 a1 k, LeO (order_Remove.f k a0 a1) (order_Remove.f (k + 1) a0 a1) := by
 intro a0 a1 k
 unfold order_Remove.f
 repeat' first
   | (with_reducible exact order_Validate.mono _ _)
   | (with_reducible exact order_without.mono _ _ _)
   | (with_reducible exact LeO.refl _)
   | (with_reducible exact LeO.none _)
   | (with_reducible refine LeO.ite ?_ ?_)
   | (with_reducible refine LeO.bind ?_ (fun _ => ?_))
   | exact order_Validate.mono _ _
   | exact order_without.mono _ _ _
   | exact LeO.none _
   | refine LeO.ite ?_ ?_
   | refine LeO.bind ?_ (fun _ => ?_)
set_option maxHeartbeats 8000000 in
set_option maxRecDepth 100000 in
theorem order_Remove.calls (k : Nat) (A0 : Option Addr) (c0 : Nat) (l0 : List (S33)) (a1 : Int) (r1 : List (S33)) (r2 : Int) (w : World) (hr0 : Kd.C k33 w A0 l0.length l0) (hc0 : l0.length ≤ c0) (h : order_Remove.f k l0 a1 = some (r1, r2)) :
  Calls Try.prog 29 #[.slice A0 l0.length c0,.int .i64 a1] w fun e w' => ∃ v0_ : Value,e = .returned (.tuple #[v0_,.int .i64 r2]) ∧ Kd.R k33 33 w' w.heap.size (fun _ => True) v0_ r1 ∧ Below w.heap.size w w':=by
 have HR0:=Aside0.mk hr0
 have HC0:=Aside0.mk hc0
 clear hr0 hc0
 have HB:=Aside0.mk (Below.refl w.heap.size w)
 have H : ((order_Validate.f k l0).bind fun t183 => (if t183 = 0 then ((order_within.f a1 (wrap64 ((l0.length : Int) - 1))).bind fun t184 => (if t184 = true then ((order_without.f k l0 a1).bind fun t185 => (some (t185,0))) else (some (([] : List (S33)),2)))) else (some (([] : List (S33)),t183)))) = some (r1,r2):=h
 clear h
 replace H:=Option.bind_eq_some_iff.mp H
 obtain ⟨t183,A30,H⟩:=H
 replace H : (if t183 = 0 then ((order_within.f a1 (wrap64 ((l0.length : Int) - 1))).bind fun t184 => (if t184 = true then ((order_without.f k l0 a1).bind fun t185 => (some (t185,0))) else (some (([] : List (S33)),2)))) else (some (([] : List (S33)),t183))) = some (r1,r2):=H
 have A3:=Aside0.mk A30
 clear A30
 by_cases c4 : t183 = 0
 ·rw [if_pos c4] at H
  have c4b0 : (t183 == 0) = true:=beq_iff_eq.mpr c4
  have c4b1 : (t183 != 0) = false:=bne_eq_false_iff_eq.mpr c4
  clear c4
  replace H:=Option.bind_eq_some_iff.mp H
  obtain ⟨t184,A50,H⟩:=H
  replace H : (if t184 = true then ((order_without.f k l0 a1).bind fun t185 => (some (t185,0))) else (some (([] : List (S33)),2))) = some (r1,r2):=H
  have A5:=Aside0.mk A50
  clear A50
  by_cases c6 : t184 = true
  ·subst c6
   have H1 : ((order_without.f k l0 a1).bind fun t185 => (some (t185,0))) = some (r1,r2):=by rw [if_pos rfl] at H;exact H
   clear H
   have H:=H1
   clear H1
   replace H:=Option.bind_eq_some_iff.mp H
   obtain ⟨t185,A70,H⟩:=H
   replace H : (some (t185,0)) = some (r1,r2):=H
   have A7:=Aside0.mk A70
   clear A70
   simp only [Option.some.injEq,Prod.mk.injEq] at H
   obtain ⟨rfl,rfl⟩:=H
   go_enter Try.func29,Try.ntmps29
   go_wp2_with (first|((with_reducible refine gate_callee (f:=18) rfl ?_);refine goesL_ (some 8) rfl rfl Try.func18 (by kernel_rfl) rfl #[.slice A0 l0.length c0] rfl (by (try simp only [List.map_toArray,List.map_cons,List.map_nil]);first|done|rfl|(simp only [List.length_drop,List.length_take];rfl)) ?_;(with_reducible refine (order_Validate.calls k _ _ l0 t183 _ ?side1 ?side2 A3.out).mono ?_);(case side1 => repeat (first|exact HR0.out|(with_reducible refine Kd.C_alloc ?_ _)|(with_reducible refine Kd.C_drewN ?_ _)|(with_reducible refine Kd.C_drew ?_)));(case side2 => exact HC0.out);rintro e w8 ⟨rfl,hb⟩;refine ⟨_,rfl,?_⟩;have n0_:=Aside0.mk (below_step (by repeat (first|(with_reducible first|exact HB.out|apply below_alloc|apply pw_below_drewN|apply below_drew1)|exact HB.out)) hb);clear HB;have HB:=n0_;clear n0_;(try clear hb);(try clear hb2);(try clear hk);(try clear hi))|((with_reducible refine gate_callee (f:=39) rfl ?_);refine goesL_ (some 16) rfl rfl Try.func39 (by kernel_rfl) rfl #[.int .i64 a1,.int .i64 (wrap64 ((l0.length : Int) - 1))] rfl (by (try simp only [List.map_toArray,List.map_cons,List.map_nil]);first|done|rfl|(simp only [List.length_drop,List.length_take];rfl)) ?_;(with_reducible refine (order_within.calls a1 (wrap64 ((l0.length : Int) - 1)) true _ A5.out).mono ?_);rintro e w' ⟨rfl,⟨nd,rfl⟩⟩;refine ⟨_,rfl,?_⟩)|((with_reducible refine gate_callee (f:=47) rfl ?_);refine goesL_ (some 20) rfl rfl Try.func47 (by kernel_rfl) rfl #[.slice A0 l0.length c0,.int .i64 a1] rfl (by (try simp only [List.map_toArray,List.map_cons,List.map_nil]);first|done|rfl|(simp only [List.length_drop,List.length_take];rfl)) ?_;(with_reducible refine (order_without.calls k _ _ l0 a1 t185 _ ?side1 ?side2 A7.out).mono ?_);(case side1 => repeat (first|exact (Kd.C_below HR0.out (by repeat (first|(with_reducible first|exact HB.out|apply below_alloc|apply pw_below_drewN|apply below_drew1)|exact HB.out)))|(with_reducible refine Kd.C_alloc ?_ _)|(with_reducible refine Kd.C_drewN ?_ _)|(with_reducible refine Kd.C_drew ?_)));(case side2 => exact HC0.out);rintro e w9 ⟨v186,rfl,ho0,hb⟩;refine ⟨_,rfl,?_⟩;have n0_:=Aside0.mk (Kd.R_lower ho0 (below_size (by repeat (first|(with_reducible first|exact HB.out|apply below_alloc|apply pw_below_drewN|apply below_drew1)|exact HB.out))));have n1_:=Aside0.mk (below_step (by repeat (first|(with_reducible first|exact HB.out|apply below_alloc|apply pw_below_drewN|apply below_drew1)|exact HB.out)) hb);clear HB;have HO187:=n0_;have HB:=n1_;clear n0_ n1_;(try clear hb);(try clear hb2);(try clear hk);(try clear hi);(try clear ho0)))
   go_ret2
   exact ⟨_,by first|rfl|(simp [errW_none,errW_some] <;> rfl)|(simp [*,errW_none,errW_some] <;> rfl),by (with_reducible repeat (first|apply Kd.R_alloc|apply Kd.R_drewN|apply Kd.R_drew));exact HO187.out,by repeat (first|(with_reducible first|exact HB.out|apply below_alloc|apply pw_below_drewN|apply below_drew1)|exact HB.out)⟩
  ·replace c6:=Bool.eq_false_iff.mpr c6
   subst c6
   have H1 : (some (([] : List (S33)),2)) = some (r1,r2):=by rw [if_neg (show ¬ (false = true) by decide)] at H;exact H
   clear H
   have H:=H1
   clear H1
   simp only [Option.some.injEq,Prod.mk.injEq] at H
   obtain ⟨rfl,rfl⟩:=H
   go_enter Try.func29,Try.ntmps29
   go_wp2_with (first|((with_reducible refine gate_callee (f:=18) rfl ?_);refine goesL_ (some 8) rfl rfl Try.func18 (by kernel_rfl) rfl #[.slice A0 l0.length c0] rfl (by (try simp only [List.map_toArray,List.map_cons,List.map_nil]);first|done|rfl|(simp only [List.length_drop,List.length_take];rfl)) ?_;(with_reducible refine (order_Validate.calls k _ _ l0 t183 _ ?side1 ?side2 A3.out).mono ?_);(case side1 => repeat (first|exact HR0.out|(with_reducible refine Kd.C_alloc ?_ _)|(with_reducible refine Kd.C_drewN ?_ _)|(with_reducible refine Kd.C_drew ?_)));(case side2 => exact HC0.out);rintro e w10 ⟨rfl,hb⟩;refine ⟨_,rfl,?_⟩;have n0_:=Aside0.mk (below_step (by repeat (first|(with_reducible first|exact HB.out|apply below_alloc|apply pw_below_drewN|apply below_drew1)|exact HB.out)) hb);clear HB;have HB:=n0_;clear n0_;(try clear hb);(try clear hb2);(try clear hk);(try clear hi))|((with_reducible refine gate_callee (f:=39) rfl ?_);refine goesL_ (some 16) rfl rfl Try.func39 (by kernel_rfl) rfl #[.int .i64 a1,.int .i64 (wrap64 ((l0.length : Int) - 1))] rfl (by (try simp only [List.map_toArray,List.map_cons,List.map_nil]);first|done|rfl|(simp only [List.length_drop,List.length_take];rfl)) ?_;(with_reducible refine (order_within.calls a1 (wrap64 ((l0.length : Int) - 1)) false _ A5.out).mono ?_);rintro e w' ⟨rfl,⟨nd,rfl⟩⟩;refine ⟨_,rfl,?_⟩))
   go_ret2
   exact ⟨_,by first|rfl|(simp [errW_none,errW_some] <;> rfl)|(simp [*,errW_none,errW_some] <;> rfl),by first|exact Kd.R_nil _ _ _ _ _|exact Kd.N_nil _ _ _ _ _|exact Kd.V_nil _ _ _ _ _|exact Kd.Q_nil _ _ _ _ _|exact Kd.S_nil _ _ _ _ _,by repeat (first|(with_reducible first|exact HB.out|apply below_alloc|apply pw_below_drewN|apply below_drew1)|exact HB.out)⟩
 ·rw [if_neg c4] at H
  have c4b0 : (t183 == 0) = false:=beq_eq_false_iff_ne.mpr c4
  have c4b1 : (t183 != 0) = true:=bne_iff_ne.mpr c4
  simp only [Option.some.injEq,Prod.mk.injEq] at H
  obtain ⟨rfl,rfl⟩:=H
  go_enter Try.func29,Try.ntmps29
  go_wp2_with (first|((with_reducible refine gate_callee (f:=18) rfl ?_);refine goesL_ (some 8) rfl rfl Try.func18 (by kernel_rfl) rfl #[.slice A0 l0.length c0] rfl (by (try simp only [List.map_toArray,List.map_cons,List.map_nil]);first|done|rfl|(simp only [List.length_drop,List.length_take];rfl)) ?_;(with_reducible refine (order_Validate.calls k _ _ l0 t183 _ ?side1 ?side2 A3.out).mono ?_);(case side1 => repeat (first|exact HR0.out|(with_reducible refine Kd.C_alloc ?_ _)|(with_reducible refine Kd.C_drewN ?_ _)|(with_reducible refine Kd.C_drew ?_)));(case side2 => exact HC0.out);rintro e w11 ⟨rfl,hb⟩;refine ⟨_,rfl,?_⟩;have n0_:=Aside0.mk (below_step (by repeat (first|(with_reducible first|exact HB.out|apply below_alloc|apply pw_below_drewN|apply below_drew1)|exact HB.out)) hb);clear HB;have HB:=n0_;clear n0_;(try clear hb);(try clear hb2);(try clear hk);(try clear hi)))
  go_ret2
  exact ⟨_,by first|rfl|(simp [errW_none,errW_some] <;> rfl)|(simp [*,errW_none,errW_some] <;> rfl),by first|exact Kd.R_nil _ _ _ _ _|exact Kd.N_nil _ _ _ _ _|exact Kd.V_nil _ _ _ _ _|exact Kd.Q_nil _ _ _ _ _|exact Kd.S_nil _ _ _ _ _,by repeat (first|(with_reducible first|exact HB.out|apply below_alloc|apply pw_below_drewN|apply below_drew1)|exact HB.out)⟩

/-! ### api_Order_30: function 30 -/
def api_Order_30.l0 : Nat → List (S33) → List (S33) → Int → Option (Bool)
 | 0,_,_,_ => none
 | k + 1,x0,x1,x5 => if x5 < (x0.length : Int) then (if 0 ≤ x5 then (if x5 < (x1.length : Int) then (if (!(((rd_T33 x0 x5).f0) == ((rd_T33 x1 x5).f0)) || (!(((rd_T33 x0 x5).f1) == ((rd_T33 x1 x5).f1)) || (!(((rd_T33 x0 x5).f2) == ((rd_T33 x1 x5).f2)) || (!(((rd_T33 x0 x5).f3) == ((rd_T33 x1 x5).f3)) || (!(((rd_T33 x0 x5).f4) == ((rd_T33 x1 x5).f4)) || (!(((rd_T33 x0 x5).f5) == ((rd_T33 x1 x5).f5)) || (!(((rd_T33 x0 x5).f6) == ((rd_T33 x1 x5).f6)) || (!(((rd_T33 x0 x5).f7) == ((rd_T33 x1 x5).f7)) || (!(((rd_T33 x0 x5).f8) == ((rd_T33 x1 x5).f8))))))))))) = true then (some false) else (api_Order_30.l0 k x0 x1 (wrap64 (x5 + 1)))) else (none)) else (none)) else (some true)
def api_Order_30.f (k : Nat) (l0 : List (S33)) (l1 : List (S33)) : Option (Bool) := if (l0.length : Int) = (l1.length : Int) then (api_Order_30.l0 k l0 l1 0) else (some false)
theorem api_Order_30.mono_l : ∀ k, (∀ y0 y1 y2, LeO (api_Order_30.l0 k y0 y1 y2) (api_Order_30.l0 (k + 1) y0 y1 y2))
 | 0 => fun _ _ _ r h => by simp [api_Order_30.l0] at h
 | k + 1 => by
  have ih0:=api_Order_30.mono_l k
  ·intro y0 y1 y2
   unfold api_Order_30.l0
   repeat' first
   | (with_reducible exact ih0 _ _ _)
   | (with_reducible exact LeO.refl _)
   | (with_reducible exact LeO.none _)
   | (with_reducible refine LeO.ite ?_ ?_)
   | (with_reducible refine LeO.bind ?_ (fun _ => ?_))
   | exact ih0 _ _ _
   | exact LeO.none _
   | refine LeO.ite ?_ ?_
   | refine LeO.bind ?_ (fun _ => ?_)
theorem api_Order_30.mono : ∀ a0 a1 k, LeO (api_Order_30.f k a0 a1) (api_Order_30.f (k + 1) a0 a1) := by
 intro a0 a1 k
 have ih0:=api_Order_30.mono_l k
 unfold api_Order_30.f
 repeat' first
   | (with_reducible exact ih0 _ _ _)
   | (with_reducible exact LeO.refl _)
   | (with_reducible exact LeO.none _)
   | (with_reducible refine LeO.ite ?_ ?_)
   | (with_reducible refine LeO.bind ?_ (fun _ => ?_))
   | exact ih0 _ _ _
   | exact LeO.none _
   | refine LeO.ite ?_ ?_
   | refine LeO.bind ?_ (fun _ => ?_)
set_option maxHeartbeats 8000000 in
set_option maxRecDepth 100000 in
theorem api_Order_30.calls (k : Nat) (A0 : Option Addr) (c0 : Nat) (l0 : List (S33)) (A1 : Option Addr) (c1 : Nat) (l1 : List (S33)) (r : Bool) (w : World) (hr0 : Kd.C k33 w A0 l0.length l0) (hc0 : l0.length ≤ c0) (hr1 : Kd.C k33 w A1 l1.length l1) (hc1 : l1.length ≤ c1) (h : api_Order_30.f k l0 l1 = some r) :
  Calls Try.prog 30 #[.slice A0 l0.length c0,.slice A1 l1.length c1] w fun e w' => e = .returned (.bool r) ∧ Drawn0 w w':=by
 have hu33:=Try.underlying33
 have HR0:=Aside0.mk hr0
 have HC0:=Aside0.mk hc0
 clear hr0 hc0
 have HR1:=Aside0.mk hr1
 have HC1:=Aside0.mk hc1
 clear hr1 hc1
 have H : (if (l0.length : Int) = (l1.length : Int) then (api_Order_30.l0 k l0 l1 0) else (some false)) = some r:=h
 clear h
 by_cases c3 : (l0.length : Int) = (l1.length : Int)
 ·rw [if_pos c3] at H
  have c3b0 : ((l0.length : Int) == (l1.length : Int)) = true:=beq_iff_eq.mpr c3
  have c3b1 : ((l0.length : Int) != (l1.length : Int)) = false:=bne_eq_false_iff_eq.mpr c3
  have c3b2 : (l0.length == l1.length) = true:=by first|simpa using c3|(simp at c3 ⊢;omega)
  clear c3
  have H':=Aside0.mk H
  clear H
  go_enter Try.func30,Try.ntmps30
  go_wp2
  repeat (go_quiet (fail);try go_wp2)
  go_loopg [5] k (fun kq v5 w' => ∃ (x5_1 : Int),v5 = .int .i64 x5_1 ∧ Aside0 (api_Order_30.l0 kq l0 l1 x5_1 = some r) ∧ Aside0 (kq ≤ k) ∧ Drawn0 w w')
  case atStart => exact ⟨(0),(by first|rfl|(simp;done)|(simp [*];done)),H',⟨Nat.le_refl _⟩,by repeat (first|exact Drawn0.refl _|apply Drawn0.step)⟩
  case round =>
   clear H'
   try clear c1
   try clear p2
   try clear c3
   try clear c3b0
   try clear c3b1
   try clear c3b2
   obtain ⟨x5_1,rfl,HA,HK1,⟨m1,rfl⟩⟩:=hrel
   cases gk with
   | zero => exact absurd HA.out (by simp [api_Order_30.l0])
   | succ k1 =>
    have H:=HA.out
    clear HA
    simp only [api_Order_30.l0] at H
    by_cases c4 : x5_1 < (l0.length : Int)
    ·rw [if_pos c4] at H
     have c4b0 : decide (x5_1 < (l0.length : Int)) = true:=decide_eq_true c4
     clear c4
     by_cases c5 : 0 ≤ x5_1
     ·rw [if_pos c5] at H
      have c5b0 : decide (0 ≤ x5_1) = true:=decide_eq_true c5
      clear c5
      by_cases c6 : x5_1 < (l1.length : Int)
      ·rw [if_pos c6] at H
       have c6b0 : decide (x5_1 < (l1.length : Int)) = true:=decide_eq_true c6
       clear c6
       by_cases c7 : (!(((rd_T33 l0 x5_1).f0) == ((rd_T33 l1 x5_1).f0)) || (!(((rd_T33 l0 x5_1).f1) == ((rd_T33 l1 x5_1).f1)) || (!(((rd_T33 l0 x5_1).f2) == ((rd_T33 l1 x5_1).f2)) || (!(((rd_T33 l0 x5_1).f3) == ((rd_T33 l1 x5_1).f3)) || (!(((rd_T33 l0 x5_1).f4) == ((rd_T33 l1 x5_1).f4)) || (!(((rd_T33 l0 x5_1).f5) == ((rd_T33 l1 x5_1).f5)) || (!(((rd_T33 l0 x5_1).f6) == ((rd_T33 l1 x5_1).f6)) || (!(((rd_T33 l0 x5_1).f7) == ((rd_T33 l1 x5_1).f7)) || (!(((rd_T33 l0 x5_1).f8) == ((rd_T33 l1 x5_1).f8))))))))))) = true
       ·rw [if_pos c7] at H
        have c7b0 : (!(((rd_T33 l0 x5_1).f0) == ((rd_T33 l1 x5_1).f0)) || (!(((rd_T33 l0 x5_1).f1) == ((rd_T33 l1 x5_1).f1)) || (!(((rd_T33 l0 x5_1).f2) == ((rd_T33 l1 x5_1).f2)) || (!(((rd_T33 l0 x5_1).f3) == ((rd_T33 l1 x5_1).f3)) || (!(((rd_T33 l0 x5_1).f4) == ((rd_T33 l1 x5_1).f4)) || (!(((rd_T33 l0 x5_1).f5) == ((rd_T33 l1 x5_1).f5)) || (!(((rd_T33 l0 x5_1).f6) == ((rd_T33 l1 x5_1).f6)) || (!(((rd_T33 l0 x5_1).f7) == ((rd_T33 l1 x5_1).f7)) || (!(((rd_T33 l0 x5_1).f8) == ((rd_T33 l1 x5_1).f8))))))))))) = true:=c7
        clear c7
        obtain rfl:=Option.some.inj H
        have p188 : 0 ≤ (x5_1 : Int):=of_decide_eq_true (by first|(with_reducible assumption)|assumption)
        have q188 : x5_1 < (l0.length : Int):=of_decide_eq_true (by first|(with_reducible assumption)|assumption)
        obtain ⟨ad188,e188,hx188_0,hx188_1,hx188_2,hx188_3,hx188_4,hx188_5,hx188_6,hx188_7,hx188_8⟩:=at_T33 HR0.out x5_1 p188 q188
        cases e188
        replace p188:=eq_true p188
        replace q188:=eq_true q188
        have p189 : 0 ≤ (x5_1 : Int):=of_decide_eq_true (by first|(with_reducible assumption)|assumption)
        have q189 : x5_1 < (l1.length : Int):=of_decide_eq_true (by first|(with_reducible assumption)|assumption)
        obtain ⟨ad189,e189,hx189_0,hx189_1,hx189_2,hx189_3,hx189_4,hx189_5,hx189_6,hx189_7,hx189_8⟩:=at_T33 HR1.out x5_1 p189 q189
        cases e189
        replace p189:=eq_true p189
        replace q189:=eq_true q189
        go_wp2
        repeat (go_quiet (fail);try go_wp2)
        go_ret
        exact ⟨by first|rfl|(simp;done)|(simp [*];done),by repeat (first|exact Drawn0.refl _|apply Drawn0.step)⟩
       ·rw [if_neg c7] at H
        have c7b0 : (!(((rd_T33 l0 x5_1).f0) == ((rd_T33 l1 x5_1).f0)) || (!(((rd_T33 l0 x5_1).f1) == ((rd_T33 l1 x5_1).f1)) || (!(((rd_T33 l0 x5_1).f2) == ((rd_T33 l1 x5_1).f2)) || (!(((rd_T33 l0 x5_1).f3) == ((rd_T33 l1 x5_1).f3)) || (!(((rd_T33 l0 x5_1).f4) == ((rd_T33 l1 x5_1).f4)) || (!(((rd_T33 l0 x5_1).f5) == ((rd_T33 l1 x5_1).f5)) || (!(((rd_T33 l0 x5_1).f6) == ((rd_T33 l1 x5_1).f6)) || (!(((rd_T33 l0 x5_1).f7) == ((rd_T33 l1 x5_1).f7)) || (!(((rd_T33 l0 x5_1).f8) == ((rd_T33 l1 x5_1).f8))))))))))) = false:=by simpa using c7
        clear c7
        have H':=Aside0.mk H
        clear H
        have p188 : 0 ≤ (x5_1 : Int):=of_decide_eq_true (by first|(with_reducible assumption)|assumption)
        have q188 : x5_1 < (l0.length : Int):=of_decide_eq_true (by first|(with_reducible assumption)|assumption)
        obtain ⟨ad188,e188,hx188_0,hx188_1,hx188_2,hx188_3,hx188_4,hx188_5,hx188_6,hx188_7,hx188_8⟩:=at_T33 HR0.out x5_1 p188 q188
        cases e188
        replace p188:=eq_true p188
        replace q188:=eq_true q188
        have p189 : 0 ≤ (x5_1 : Int):=of_decide_eq_true (by first|(with_reducible assumption)|assumption)
        have q189 : x5_1 < (l1.length : Int):=of_decide_eq_true (by first|(with_reducible assumption)|assumption)
        obtain ⟨ad189,e189,hx189_0,hx189_1,hx189_2,hx189_3,hx189_4,hx189_5,hx189_6,hx189_7,hx189_8⟩:=at_T33 HR1.out x5_1 p189 q189
        cases e189
        replace p189:=eq_true p189
        replace q189:=eq_true q189
        go_wp2
        repeat (go_quiet (fail);try go_wp2)
        go_roundg k1
        case measure => have:=HK1.out;omega
        case rel => exact ⟨(wrap64 (x5_1 + 1)),(by first|rfl|(simp;done)|(simp [*];done)),H',⟨by have:=HK1.out;omega⟩,by repeat (first|exact Drawn0.refl _|apply Drawn0.step)⟩
      ·rw [if_neg c6] at H
       exact absurd H (by simp)
     ·rw [if_neg c5] at H
      exact absurd H (by simp)
    ·rw [if_neg c4] at H
     have c4b0 : decide (x5_1 < (l0.length : Int)) = false:=decide_eq_false c4
     clear c4
     obtain rfl:=Option.some.inj H
     go_wp2
     repeat (go_quiet (fail);try go_wp2)
     go_ret
     exact ⟨by first|rfl|(simp;done)|(simp [*];done),by repeat (first|exact Drawn0.refl _|apply Drawn0.step)⟩
 ·rw [if_neg c3] at H
  have c3b0 : ((l0.length : Int) == (l1.length : Int)) = false:=beq_eq_false_iff_ne.mpr c3
  have c3b1 : ((l0.length : Int) != (l1.length : Int)) = true:=bne_iff_ne.mpr c3
  have c3b2 : (l0.length == l1.length) = false:=by first|simpa using c3|(simp at c3 ⊢;omega)
  obtain rfl:=Option.some.inj H
  go_enter Try.func30,Try.ntmps30
  go_wp2
  repeat (go_quiet (fail);try go_wp2)
  go_ret
  exact ⟨by first|rfl|(simp;done)|(simp [*];done),by repeat (first|exact Drawn0.refl _|apply Drawn0.step)⟩

end Go.Proofs.Ythbjchicpebglaa.P
