/- Functions of this seat as plain Lean functions, with proofs that the Go code comes to just their answers, or what stands between them and a law's statement; no conditions. (Laid by a program of this session, out of the kit's print.) -/
import Derived.Test.YthbjchicpebglaaPx0
import Derived.Test.YthbjchicpebglaaPx2
import Derived.Test.YthbjchicpebglaaPx7
import Derived.Test.YthbjchicpebglaaPx13
namespace Go.Proofs.Ythbjchicpebglaa.P
open Go.RowKit Go.Proofs.YthbjchicpebglaaW.PrintWords Go.Proofs.YthbjchicpebglaaW.PrintLast Go.Proofs.YthbjchicpebglaaW.PrintMore
attribute [local go_sem] max2_int min2_int max_two min_two max_three min_three max_four min_four   -- for this text's walks alone
set_option linter.unusedVariables false
set_option linter.unusedSimpArgs false

/-! ### order_without: function 47 -/
def order_without.l0 : Nat → Int → List (S33) → Int → Int → Option ((List (S33)))
 | 0,_,_,_,_ => none
 | k + 1,x1,x5,x14,x15 => if x15 < x14 then (if 0 ≤ x15 then (if x15 < (x5.length : Int) then (if ((rd_T33 x5 x15).f6) > x1 then (order_without.l0 k x1 (x5.set (x15 : Int).toNat (⟨(rd_T33 x5 x15).f0,(rd_T33 x5 x15).f1,(rd_T33 x5 x15).f2,(rd_T33 x5 x15).f3,(rd_T33 x5 x15).f4,(rd_T33 x5 x15).f5,wrap64 (((rd_T33 x5 x15).f6) - 1),(rd_T33 x5 x15).f7,(rd_T33 x5 x15).f8⟩ : S33)) x14 (wrap64 (x15 + 1))) else (if ((rd_T33 x5 x15).f6) = x1 then (if x1 ≥ (x5.length : Int) then (order_without.l0 k x1 (x5.set (x15 : Int).toNat (⟨(rd_T33 x5 x15).f0,(rd_T33 x5 x15).f1,(rd_T33 x5 x15).f2,(rd_T33 x5 x15).f3,(rd_T33 x5 x15).f4,(rd_T33 x5 x15).f5,0,(rd_T33 x5 x15).f7,(rd_T33 x5 x15).f8⟩ : S33)) x14 (wrap64 (x15 + 1))) else (order_without.l0 k x1 x5 x14 (wrap64 (x15 + 1)))) else (order_without.l0 k x1 x5 x14 (wrap64 (x15 + 1))))) else (none)) else (none)) else (some x5)
def order_without.f (k : Nat) (l0 : List (S33)) (a1 : Int) : Option ((List (S33))) := (order_copied.f l0).bind fun t220 => ((api_Order_52.f t220 a1 (wrap64 (a1 + 1))).bind fun t223 => (order_without.l0 k a1 t223 (t223.length : Int) 0))
theorem order_without.mono_l : ∀ k, (∀ y0 y1 y2 y3, LeO (order_without.l0 k y0 y1 y2 y3) (order_without.l0 (k + 1) y0 y1 y2 y3))
 | 0 => fun _ _ _ _ r h => by simp [order_without.l0] at h
 | k + 1 => by
  have ih0:=order_without.mono_l k
  ·intro y0 y1 y2 y3
   unfold order_without.l0
   repeat' first
   | (with_reducible exact ih0 _ _ _ _)
   | (with_reducible exact LeO.refl _)
   | (with_reducible exact LeO.none _)
   | (with_reducible refine LeO.ite ?_ ?_)
   | (with_reducible refine LeO.bind ?_ (fun _ => ?_))
   | exact ih0 _ _ _ _
   | exact LeO.none _
   | refine LeO.ite ?_ ?_
   | refine LeO.bind ?_ (fun _ => ?_)
theorem order_without.mono : ∀ a0 a1 k, LeO (order_without.f k a0 a1) (order_without.f (k + 1) a0 a1) := by
 intro a0 a1 k
 have ih0:=order_without.mono_l k
 unfold order_without.f
 repeat' first
   | (with_reducible exact ih0 _ _ _ _)
   | (with_reducible exact LeO.refl _)
   | (with_reducible exact LeO.none _)
   | (with_reducible refine LeO.ite ?_ ?_)
   | (with_reducible refine LeO.bind ?_ (fun _ => ?_))
   | exact ih0 _ _ _ _
   | exact LeO.none _
   | refine LeO.ite ?_ ?_
   | refine LeO.bind ?_ (fun _ => ?_)
set_option maxHeartbeats 8000000 in
set_option maxRecDepth 100000 in
theorem order_without.calls (k : Nat) (A0 : Option Addr) (c0 : Nat) (l0 : List (S33)) (a1 : Int) (r : List (S33)) (w : World) (hr0 : Kd.C k33 w A0 l0.length l0) (hc0 : l0.length ≤ c0) (h : order_without.f k l0 a1 = some r) :
  Calls Try.prog 47 #[.slice A0 l0.length c0,.int .i64 a1] w fun e w' => ∃ v0_ : Value,e = .returned (v0_) ∧ Kd.R k33 33 w' w.heap.size (fun _ => True) v0_ r ∧ Below w.heap.size w w':=by
 have HR0:=Aside0.mk hr0
 have HC0:=Aside0.mk hc0
 clear hr0 hc0
 have HB:=Aside0.mk (Below.refl w.heap.size w)
 have H : ((order_copied.f l0).bind fun t220 => ((api_Order_52.f t220 a1 (wrap64 (a1 + 1))).bind fun t223 => (order_without.l0 k a1 t223 (t223.length : Int) 0))) = some r:=h
 clear h
 replace H:=Option.bind_eq_some_iff.mp H
 obtain ⟨t220,A30,H⟩:=H
 replace H : ((api_Order_52.f t220 a1 (wrap64 (a1 + 1))).bind fun t223 => (order_without.l0 k a1 t223 (t223.length : Int) 0)) = some r:=H
 have A3:=Aside0.mk A30
 clear A30
 replace H:=Option.bind_eq_some_iff.mp H
 obtain ⟨t223,A40,H⟩:=H
 replace H : (order_without.l0 k a1 t223 (t223.length : Int) 0) = some r:=H
 have A4:=Aside0.mk A40
 clear A40
 have H':=Aside0.mk H
 clear H
 go_enter Try.func47,Try.ntmps47
 go_wp2_with (first|((with_reducible refine gate_callee (f:=48) rfl ?_);refine goesL_ (some 8) rfl rfl Try.func48 (by kernel_rfl) rfl #[.slice A0 l0.length c0] rfl (by (try simp only [List.map_toArray,List.map_cons,List.map_nil]);first|done|rfl|(simp only [List.length_drop,List.length_take];rfl)) ?_;(with_reducible refine (order_copied.calls _ _ l0 t220 _ ?side1 ?side2 A3.out).mono ?_);(case side1 => exact Kd.C_up HR0.out);(case side2 => exact HC0.out);rintro e w5 ⟨v221,rfl,ho0,hb⟩;refine ⟨_,rfl,?_⟩;have HO222:=rlo ho0;replace HB:=Aside0.mk (below_step (hb_) hb);obtain ⟨Ao6,co6,eo6⟩:=Kd.R_slice HO222.out;subst eo6)|((with_reducible refine gate_callee (f:=52) rfl ?_);refine goesL_ (some 12) rfl rfl Try.func52 (by kernel_rfl) rfl #[.slice Ao6 t220.length co6,.int .i64 a1,.int .i64 (wrap64 (a1 + 1))] rfl (by (try simp only [List.map_toArray,List.map_cons,List.map_nil]);first|done|rfl|(simp only [List.length_drop,List.length_take];rfl)) ?_;(with_reducible refine (api_Order_52.calls (fun k_ => some k_ = (.slice Ao6 t220.length co6 : Value).ownBlock) (.slice Ao6 t220.length co6) t220 a1 (wrap64 (a1 + 1)) t223 w _ ?side1 ?side2 A4.out).mono ?_);(case side1 => repeat (first|(with_reducible first|exact HB.out|apply below_alloc|apply pw_below_drewN|apply below_drew1)|exact HB.out));(case side2 => exact Kd.R_tight rfl HO222.out);rintro e w7 ⟨v224,rfl,ho0,hb,hkp⟩;refine ⟨_,rfl,?_⟩;have HO225:=Aside0.mk (Kd.R_mono (ok':=fun k_ => True) ho0 (fun k_ hk_ => trivial));replace HB:=Aside0.mk (hb);clear HO222;obtain ⟨Ao8,co8,eo8⟩:=Kd.R_slice HO225.out;subst eo8))
 go_loopg [15] k (fun kq v15 w' => ∃ (x5_1 : List (S33)) (x15_1 : Int),v15 = .int .i64 x15_1 ∧ Aside0 (order_without.l0 kq a1 x5_1 (t223.length : Int) x15_1 = some r) ∧ Aside0 (kq ≤ k) ∧ Aside0 (Kd.R k33 33 w' w.heap.size (fun _ => True) (.slice Ao8 t223.length co8) x5_1) ∧ Aside0 (Below w.heap.size w w'))
 case atStart => exact ⟨(t223),(0),(by first|rfl|(simp;done)|(simp [*];done)),H',⟨Nat.le_refl _⟩,⟨Kd.R_up HO225.out⟩,⟨hb_⟩⟩
 case round =>
  clear H'
  obtain ⟨x5_1,x15_1,rfl,HA,HK1,HO_5,HB⟩:=hrel
  have hl5_1:=(Kd.R_reads' HO_5.out).1
  rw [hl5_1] at HO_5
  (try simp only [hl5_1])
  cases gk with
  | zero => exact absurd HA.out (by simp [order_without.l0])
  | succ k1 =>
   have H:=HA.out
   clear HA
   simp only [order_without.l0] at H
   by_cases c9 : x15_1 < (t223.length : Int)
   rotate_left
   ·rw [if_neg c9] at H
    have c9b0 : decide (x15_1 < (t223.length : Int)) = false:=decide_eq_false c9
    (try simp only [hl5_1] at c9b0)
    clear c9
    obtain rfl:=Option.some.inj H
    go_wp2
    go_ret
    exact ⟨_,by first|rfl|(simp [errW_none,errW_some] <;> rfl)|(simp [*,errW_none,errW_some] <;> rfl),Kd.R_up HO_5.out,hb_⟩
   rw [if_pos c9] at H
   have c9b0 : decide (x15_1 < (t223.length : Int)) = true:=decide_eq_true c9
   (try simp only [hl5_1] at c9b0)
   clear c9
   replace H:=ifp_ H;obtain ⟨c10,H⟩:=H
   have c10b0 : decide (0 ≤ x15_1) = true:=decide_eq_true c10
   clear c10
   replace H:=ifp_ H;obtain ⟨c11,H⟩:=H
   have c11b0 : decide (x15_1 < (x5_1.length : Int)) = true:=decide_eq_true c11
   (try simp only [hl5_1] at c11b0)
   clear c11
   by_cases c12 : ((rd_T33 x5_1 x15_1).f6) > a1
   ·rw [if_pos c12] at H
    have c12b0 : decide (a1 < ((rd_T33 x5_1 x15_1).f6)) = true:=decide_eq_true c12
    clear c12
    obtain ⟨y228,hy228⟩ : ∃ y_ : List (S33),y_ = (x5_1.set (x15_1 : Int).toNat (⟨(rd_T33 x5_1 x15_1).f0,(rd_T33 x5_1 x15_1).f1,(rd_T33 x5_1 x15_1).f2,(rd_T33 x5_1 x15_1).f3,(rd_T33 x5_1 x15_1).f4,(rd_T33 x5_1 x15_1).f5,wrap64 (((rd_T33 x5_1 x15_1).f6) - 1),(rd_T33 x5_1 x15_1).f7,(rd_T33 x5_1 x15_1).f8⟩ : S33)):=⟨_,rfl⟩
    replace H : (order_without.l0 k1 a1 y228 (t223.length : Int) (wrap64 (x15_1 + 1))) = some r:=by first|(rw [hy228];with_reducible exact H)|(have H2_:=(Option.bind_some _ _).symm.trans H;rw [hy228];with_reducible exact H2_)|(have H2_:=(Option.bind_some _ _).symm.trans H;with_reducible exact H2_)|with_reducible exact H|(rw [hy228];exact H)|exact H
    have Ny228:=Aside0.mk hy228
    clear hy228
    have H':=Aside0.mk H
    clear H
    have p226 : 0 ≤ (x15_1 : Int):=of_decide_eq_true (by first|(with_reducible assumption)|assumption)
    have q226 : x15_1 < (x5_1.length : Int):=of_decide_eq_true (by first|(with_reducible assumption)|assumption)
    obtain ⟨ad226,e226,hx226_0,hx226_1,hx226_2,hx226_3,hx226_4,hx226_5,hx226_6,hx226_7,hx226_8⟩:=at_T33 (Kd.R_reads' HO_5.out).2.2 x15_1 p226 q226
    cases e226
    replace p226:=eq_true p226
    replace q226:=eq_true q226
    have p227 : 0 ≤ (x15_1 : Int):=of_decide_eq_true (by first|(with_reducible assumption)|assumption)
    have q227 : x15_1 < (x5_1.length : Int):=of_decide_eq_true (by first|(with_reducible assumption)|assumption)
    obtain ⟨ad227,e227,hx227_0,hx227_1,hx227_2,hx227_3,hx227_4,hx227_5,hx227_6,hx227_7,hx227_8⟩:=at_T33 (Kd.R_reads' HO_5.out).2.2 x15_1 p227 q227
    obtain rfl : ad226 = ad227:=(by injection e227)
    replace p227:=eq_true p227
    replace q227:=eq_true q227
    have p13 : 0 ≤ (x15_1 : Int):=of_decide_eq_true (by first|(with_reducible assumption)|assumption)
    have q13 : (x15_1 : Int) < ((x5_1.length : Int) : Int):=of_decide_eq_true (by first|(with_reducible assumption)|assumption)
    obtain ⟨go13,co13,eo13,gb13,gl13,cl13,HG13⟩:=Kd.R_form HO_5.out (by omega)
    (first|cases eo13|(injection eo13 with ea_ en_ ec_;(first|subst ea_|(injection ea_ with ea_;subst ea_));subst ec_;clear en_))
    have GB13:=Aside0.mk gb13
    have GG13:=Aside0.mk HG13
    clear gb13 gl13 HG13
    (first|simp only [add_plain] at hx226_0|skip)
    (first|simp only [add_plain] at hx226_1|skip)
    (first|simp only [add_plain] at hx226_2|skip)
    (first|simp only [add_plain] at hx226_3|skip)
    (first|simp only [add_plain] at hx226_4|skip)
    (first|simp only [add_plain] at hx226_5|skip)
    (first|simp only [add_plain] at hx226_6|skip)
    (first|simp only [add_plain] at hx226_7|skip)
    (first|simp only [add_plain] at hx226_8|skip)
    (first|simp only [add_plain] at hx227_0|skip)
    (first|simp only [add_plain] at hx227_1|skip)
    (first|simp only [add_plain] at hx227_2|skip)
    (first|simp only [add_plain] at hx227_3|skip)
    (first|simp only [add_plain] at hx227_4|skip)
    (first|simp only [add_plain] at hx227_5|skip)
    (first|simp only [add_plain] at hx227_6|skip)
    (first|simp only [add_plain] at hx227_7|skip)
    (first|simp only [add_plain] at hx227_8|skip)
    obtain ⟨ce13,hcl13,hM13,hcc13,hfr13⟩:=Kd.R_elem HO_5.out z33 (x15_1 : Int) p13 q13
    obtain rfl:=k33_openM hM13
    have hx13_0 : wr.cell? ⟨go13,(x15_1 : Int).toNat * 9,none⟩ = some (.int .i64 ((rd_T33 x5_1 x15_1).f0)):=hcc13 0 _ rfl
    have hx13_1 : wr.cell? ⟨go13,(x15_1 : Int).toNat * 9 + 1,none⟩ = some (.int .i64 ((rd_T33 x5_1 x15_1).f1)):=hcc13 1 _ rfl
    have hx13_2 : wr.cell? ⟨go13,(x15_1 : Int).toNat * 9 + 2,none⟩ = some (.int .i64 ((rd_T33 x5_1 x15_1).f2)):=hcc13 2 _ rfl
    have hx13_3 : wr.cell? ⟨go13,(x15_1 : Int).toNat * 9 + 3,none⟩ = some (.int .i64 ((rd_T33 x5_1 x15_1).f3)):=hcc13 3 _ rfl
    have hx13_4 : wr.cell? ⟨go13,(x15_1 : Int).toNat * 9 + 4,none⟩ = some (.int .i64 ((rd_T33 x5_1 x15_1).f4)):=hcc13 4 _ rfl
    have hx13_5 : wr.cell? ⟨go13,(x15_1 : Int).toNat * 9 + 5,none⟩ = some (.int .i64 ((rd_T33 x5_1 x15_1).f5)):=hcc13 5 _ rfl
    have hx13_6 : wr.cell? ⟨go13,(x15_1 : Int).toNat * 9 + 6,none⟩ = some (.int .i64 ((rd_T33 x5_1 x15_1).f6)):=hcc13 6 _ rfl
    have hx13_7 : wr.cell? ⟨go13,(x15_1 : Int).toNat * 9 + 7,none⟩ = some (.int .i64 ((rd_T33 x5_1 x15_1).f7)):=hcc13 7 _ rfl
    have hx13_8 : wr.cell? ⟨go13,(x15_1 : Int).toNat * 9 + 8,none⟩ = some (.int .i64 ((rd_T33 x5_1 x15_1).f8)):=hcc13 8 _ rfl
    have hf13_0 : wr.frozen? ⟨go13,(x15_1 : Int).toNat * 9,none⟩ = false:=hfr13 0
    have hf13_1 : wr.frozen? ⟨go13,(x15_1 : Int).toNat * 9 + 1,none⟩ = false:=hfr13 1
    have hf13_2 : wr.frozen? ⟨go13,(x15_1 : Int).toNat * 9 + 2,none⟩ = false:=hfr13 2
    have hf13_3 : wr.frozen? ⟨go13,(x15_1 : Int).toNat * 9 + 3,none⟩ = false:=hfr13 3
    have hf13_4 : wr.frozen? ⟨go13,(x15_1 : Int).toNat * 9 + 4,none⟩ = false:=hfr13 4
    have hf13_5 : wr.frozen? ⟨go13,(x15_1 : Int).toNat * 9 + 5,none⟩ = false:=hfr13 5
    have hf13_6 : wr.frozen? ⟨go13,(x15_1 : Int).toNat * 9 + 6,none⟩ = false:=hfr13 6
    have hf13_7 : wr.frozen? ⟨go13,(x15_1 : Int).toNat * 9 + 7,none⟩ = false:=hfr13 7
    have hf13_8 : wr.frozen? ⟨go13,(x15_1 : Int).toNat * 9 + 8,none⟩ = false:=hfr13 8
    clear hcl13 hcc13 hfr13 hM13
    replace p13:=eq_true p13
    replace q13:=eq_true q13
    have HX14:=Aside0.mk (show Kd.R k33 33 wr w.heap.size (fun _ => True) (.slice (some ⟨go13,0,none⟩) x5_1.length co8) x5_1 from (Kd.R_up HO_5.out))
    obtain ⟨ce14,hcl14,hM14,hcc14,hfr14⟩:=Kd.R_elem HX14.out z33 (x15_1 : Int) (of_decide_eq_true (by first|(with_reducible assumption)|assumption)) (by have h_ : (x15_1 : Int) < ((x5_1.length : Int) : Int):=of_decide_eq_true (by first|(with_reducible assumption)|assumption);first|exact h_|(have e_:=(Kd.R_reads' HO_5.out).1;omega)|simpa using h_)
    obtain rfl:=k33_openM hM14
    have HP14:=Kd.R_seg HX14.out (x15_1 : Int) (of_decide_eq_true (by first|(with_reducible assumption)|assumption)) (by have h_ : (x15_1 : Int) < ((x5_1.length : Int) : Int):=of_decide_eq_true (by first|(with_reducible assumption)|assumption);first|exact h_|(have e_:=(Kd.R_reads' HO_5.out).1;omega)|simpa using h_) (seg:=[.int .i64 (wrap64 (((rd_T33 x5_1 x15_1).f6) - 1))]) (j:=6) hcl14 hcc14 (show 7 ≤ 9 from by decide) (x':=(⟨(rd_T33 x5_1 x15_1).f0,(rd_T33 x5_1 x15_1).f1,(rd_T33 x5_1 x15_1).f2,(rd_T33 x5_1 x15_1).f3,(rd_T33 x5_1 x15_1).f4,(rd_T33 x5_1 x15_1).f5,wrap64 (((rd_T33 x5_1 x15_1).f6) - 1),(rd_T33 x5_1 x15_1).f7,(rd_T33 x5_1 x15_1).f8⟩ : S33)) (k33_mkM _ _ _ (⟨(rd_T33 x5_1 x15_1).f0,(rd_T33 x5_1 x15_1).f1,(rd_T33 x5_1 x15_1).f2,(rd_T33 x5_1 x15_1).f3,(rd_T33 x5_1 x15_1).f4,(rd_T33 x5_1 x15_1).f5,wrap64 (((rd_T33 x5_1 x15_1).f6) - 1),(rd_T33 x5_1 x15_1).f7,(rd_T33 x5_1 x15_1).f8⟩ : S33) ) (fun _ hk => hk)
    have hx14_6:=hcc14 6 _ rfl
    (try simp only [show (k33).sz = 9 from rfl,Nat.mul_one,Nat.add_zero] at hx14_6)
    have hf14_6:=hfr14 6
    (try simp only [show (k33).sz = 9 from rfl,Nat.mul_one,Nat.add_zero] at hf14_6)
    clear hcl14 hcc14 hfr14 hM14
    go_wp2_with (first|((with_reducible refine gate_store (t:=3) (p:=32) rfl ?_);refine store_event (t:=3) (p:=32) (v:=?vo_w15) (w1:=(wr.setCell ⟨go13,(x15_1 : Int).toNat * 9 + 6,none⟩ (.int .i64 (wrap64 (((rd_T33 x5_1 x15_1).f6) - 1))))) ?hg ?ho ?hn ?hr ?_;(case ho => rfl);(case hg => rfl);(case hn => rfl);(case hr => first|(go_simp;done)|(go_simp;rfl));intro w15 hw;have hg : wr.grownBy w15 (some go13):=(by rw [hw];exact HP14.2);have hp_ : Kd.R k33 33 w15 w.heap.size (fun _ => True) (.slice (some ⟨go13,0,none⟩) x5_1.length co8) y228:=(by rw [hw,Ny228.out];exact HP14.1);clear HP14;replace HO_5:=Aside0.mk (hp_);replace HB:=Aside0.mk ((by rw [hw];exact below_set (HB.out) GB13.out : Below w.heap.size w w15));clear hg hw hp_))
    (try simp only [← hl5_1])
    go_roundg k1
    case measure => have:=HK1.out;omega
    case rel => exact ⟨(y228),(wrap64 (x15_1 + 1)),(by first|rfl|(simp;done)|(simp [*];done)),H',⟨by have:=HK1.out;omega⟩,⟨by (try simp only [hl5_1]);(with_reducible repeat (first|apply Kd.R_alloc|apply Kd.R_drewN|apply Kd.R_drew));exact HO_5.out⟩,⟨hb_⟩⟩
   rw [if_neg c12] at H
   have c12b0 : decide (a1 < ((rd_T33 x5_1 x15_1).f6)) = false:=decide_eq_false c12
   clear c12
   by_cases c16 : ((rd_T33 x5_1 x15_1).f6) = a1
   rotate_left
   ·rw [if_neg c16] at H
    have c16b0 : (((rd_T33 x5_1 x15_1).f6) == a1) = false:=beq_eq_false_iff_ne.mpr c16
    have c16b1 : (((rd_T33 x5_1 x15_1).f6) != a1) = true:=bne_iff_ne.mpr c16
    have H':=Aside0.mk H
    clear H
    have p226 : 0 ≤ (x15_1 : Int):=of_decide_eq_true (by first|(with_reducible assumption)|assumption)
    have q226 : x15_1 < (x5_1.length : Int):=of_decide_eq_true (by first|(with_reducible assumption)|assumption)
    obtain ⟨ad226,e226,hx226_0,hx226_1,hx226_2,hx226_3,hx226_4,hx226_5,hx226_6,hx226_7,hx226_8⟩:=at_T33 (Kd.R_reads' HO_5.out).2.2 x15_1 p226 q226
    cases e226
    replace p226:=eq_true p226
    replace q226:=eq_true q226
    have p229 : 0 ≤ (x15_1 : Int):=of_decide_eq_true (by first|(with_reducible assumption)|assumption)
    have q229 : x15_1 < (x5_1.length : Int):=of_decide_eq_true (by first|(with_reducible assumption)|assumption)
    obtain ⟨ad229,e229,hx229_0,hx229_1,hx229_2,hx229_3,hx229_4,hx229_5,hx229_6,hx229_7,hx229_8⟩:=at_T33 (Kd.R_reads' HO_5.out).2.2 x15_1 p229 q229
    obtain rfl : ad226 = ad229:=(by injection e229)
    replace p229:=eq_true p229
    replace q229:=eq_true q229
    go_wp2
    (try simp only [← hl5_1])
    go_roundg k1
    case measure => have:=HK1.out;omega
    case rel => exact ⟨(x5_1),(wrap64 (x15_1 + 1)),(by first|rfl|(simp;done)|(simp [*];done)),H',⟨by have:=HK1.out;omega⟩,⟨by (try simp only [hl5_1]);(with_reducible repeat (first|apply Kd.R_alloc|apply Kd.R_drewN|apply Kd.R_drew));exact HO_5.out⟩,⟨hb_⟩⟩
   rw [if_pos c16] at H
   have c16b0 : (((rd_T33 x5_1 x15_1).f6) == a1) = true:=beq_iff_eq.mpr c16
   have c16b1 : (((rd_T33 x5_1 x15_1).f6) != a1) = false:=bne_eq_false_iff_eq.mpr c16
   clear c16
   by_cases c17 : a1 ≥ (x5_1.length : Int)
   rotate_left
   ·rw [if_neg c17] at H
    have c17b0 : decide ((x5_1.length : Int) ≤ a1) = false:=decide_eq_false c17
    (try simp only [hl5_1] at c17b0)
    clear c17
    have H':=Aside0.mk H
    clear H
    have p226 : 0 ≤ (x15_1 : Int):=of_decide_eq_true (by first|(with_reducible assumption)|assumption)
    have q226 : x15_1 < (x5_1.length : Int):=of_decide_eq_true (by first|(with_reducible assumption)|assumption)
    obtain ⟨ad226,e226,hx226_0,hx226_1,hx226_2,hx226_3,hx226_4,hx226_5,hx226_6,hx226_7,hx226_8⟩:=at_T33 (Kd.R_reads' HO_5.out).2.2 x15_1 p226 q226
    cases e226
    replace p226:=eq_true p226
    replace q226:=eq_true q226
    have p229 : 0 ≤ (x15_1 : Int):=of_decide_eq_true (by first|(with_reducible assumption)|assumption)
    have q229 : x15_1 < (x5_1.length : Int):=of_decide_eq_true (by first|(with_reducible assumption)|assumption)
    obtain ⟨ad229,e229,hx229_0,hx229_1,hx229_2,hx229_3,hx229_4,hx229_5,hx229_6,hx229_7,hx229_8⟩:=at_T33 (Kd.R_reads' HO_5.out).2.2 x15_1 p229 q229
    obtain rfl : ad226 = ad229:=(by injection e229)
    replace p229:=eq_true p229
    replace q229:=eq_true q229
    go_wp2
    (try simp only [← hl5_1])
    go_roundg k1
    case measure => have:=HK1.out;omega
    case rel => exact ⟨(x5_1),(wrap64 (x15_1 + 1)),(by first|rfl|(simp;done)|(simp [*];done)),H',⟨by have:=HK1.out;omega⟩,⟨by (try simp only [hl5_1]);(with_reducible repeat (first|apply Kd.R_alloc|apply Kd.R_drewN|apply Kd.R_drew));exact HO_5.out⟩,⟨hb_⟩⟩
   rw [if_pos c17] at H
   have c17b0 : decide ((x5_1.length : Int) ≤ a1) = true:=decide_eq_true c17
   (try simp only [hl5_1] at c17b0)
   clear c17
   obtain ⟨y230,hy230⟩ : ∃ y_ : List (S33),y_ = (x5_1.set (x15_1 : Int).toNat (⟨(rd_T33 x5_1 x15_1).f0,(rd_T33 x5_1 x15_1).f1,(rd_T33 x5_1 x15_1).f2,(rd_T33 x5_1 x15_1).f3,(rd_T33 x5_1 x15_1).f4,(rd_T33 x5_1 x15_1).f5,0,(rd_T33 x5_1 x15_1).f7,(rd_T33 x5_1 x15_1).f8⟩ : S33)):=⟨_,rfl⟩
   replace H : (order_without.l0 k1 a1 y230 (t223.length : Int) (wrap64 (x15_1 + 1))) = some r:=by first|(rw [hy230];with_reducible exact H)|(have H2_:=(Option.bind_some _ _).symm.trans H;rw [hy230];with_reducible exact H2_)|(have H2_:=(Option.bind_some _ _).symm.trans H;with_reducible exact H2_)|with_reducible exact H|(rw [hy230];exact H)|exact H
   have Ny230:=Aside0.mk hy230
   clear hy230
   have H':=Aside0.mk H
   clear H
   have p226 : 0 ≤ (x15_1 : Int):=of_decide_eq_true (by first|(with_reducible assumption)|assumption)
   have q226 : x15_1 < (x5_1.length : Int):=of_decide_eq_true (by first|(with_reducible assumption)|assumption)
   obtain ⟨ad226,e226,hx226_0,hx226_1,hx226_2,hx226_3,hx226_4,hx226_5,hx226_6,hx226_7,hx226_8⟩:=at_T33 (Kd.R_reads' HO_5.out).2.2 x15_1 p226 q226
   cases e226
   replace p226:=eq_true p226
   replace q226:=eq_true q226
   have p229 : 0 ≤ (x15_1 : Int):=of_decide_eq_true (by first|(with_reducible assumption)|assumption)
   have q229 : x15_1 < (x5_1.length : Int):=of_decide_eq_true (by first|(with_reducible assumption)|assumption)
   obtain ⟨ad229,e229,hx229_0,hx229_1,hx229_2,hx229_3,hx229_4,hx229_5,hx229_6,hx229_7,hx229_8⟩:=at_T33 (Kd.R_reads' HO_5.out).2.2 x15_1 p229 q229
   obtain rfl : ad226 = ad229:=(by injection e229)
   replace p229:=eq_true p229
   replace q229:=eq_true q229
   have p18 : 0 ≤ (x15_1 : Int):=of_decide_eq_true (by first|(with_reducible assumption)|assumption)
   have q18 : (x15_1 : Int) < ((x5_1.length : Int) : Int):=of_decide_eq_true (by first|(with_reducible assumption)|assumption)
   obtain ⟨go18,co18,eo18,gb18,gl18,cl18,HG18⟩:=Kd.R_form HO_5.out (by omega)
   (first|cases eo18|(injection eo18 with ea_ en_ ec_;(first|subst ea_|(injection ea_ with ea_;subst ea_));subst ec_;clear en_))
   have GB18:=Aside0.mk gb18
   have GG18:=Aside0.mk HG18
   clear gb18 gl18 HG18
   (first|simp only [add_plain] at hx226_0|skip)
   (first|simp only [add_plain] at hx226_1|skip)
   (first|simp only [add_plain] at hx226_2|skip)
   (first|simp only [add_plain] at hx226_3|skip)
   (first|simp only [add_plain] at hx226_4|skip)
   (first|simp only [add_plain] at hx226_5|skip)
   (first|simp only [add_plain] at hx226_6|skip)
   (first|simp only [add_plain] at hx226_7|skip)
   (first|simp only [add_plain] at hx226_8|skip)
   (first|simp only [add_plain] at hx229_0|skip)
   (first|simp only [add_plain] at hx229_1|skip)
   (first|simp only [add_plain] at hx229_2|skip)
   (first|simp only [add_plain] at hx229_3|skip)
   (first|simp only [add_plain] at hx229_4|skip)
   (first|simp only [add_plain] at hx229_5|skip)
   (first|simp only [add_plain] at hx229_6|skip)
   (first|simp only [add_plain] at hx229_7|skip)
   (first|simp only [add_plain] at hx229_8|skip)
   obtain ⟨ce18,hcl18,hM18,hcc18,hfr18⟩:=Kd.R_elem HO_5.out z33 (x15_1 : Int) p18 q18
   obtain rfl:=k33_openM hM18
   have hx18_0 : wr.cell? ⟨go18,(x15_1 : Int).toNat * 9,none⟩ = some (.int .i64 ((rd_T33 x5_1 x15_1).f0)):=hcc18 0 _ rfl
   have hx18_1 : wr.cell? ⟨go18,(x15_1 : Int).toNat * 9 + 1,none⟩ = some (.int .i64 ((rd_T33 x5_1 x15_1).f1)):=hcc18 1 _ rfl
   have hx18_2 : wr.cell? ⟨go18,(x15_1 : Int).toNat * 9 + 2,none⟩ = some (.int .i64 ((rd_T33 x5_1 x15_1).f2)):=hcc18 2 _ rfl
   have hx18_3 : wr.cell? ⟨go18,(x15_1 : Int).toNat * 9 + 3,none⟩ = some (.int .i64 ((rd_T33 x5_1 x15_1).f3)):=hcc18 3 _ rfl
   have hx18_4 : wr.cell? ⟨go18,(x15_1 : Int).toNat * 9 + 4,none⟩ = some (.int .i64 ((rd_T33 x5_1 x15_1).f4)):=hcc18 4 _ rfl
   have hx18_5 : wr.cell? ⟨go18,(x15_1 : Int).toNat * 9 + 5,none⟩ = some (.int .i64 ((rd_T33 x5_1 x15_1).f5)):=hcc18 5 _ rfl
   have hx18_6 : wr.cell? ⟨go18,(x15_1 : Int).toNat * 9 + 6,none⟩ = some (.int .i64 ((rd_T33 x5_1 x15_1).f6)):=hcc18 6 _ rfl
   have hx18_7 : wr.cell? ⟨go18,(x15_1 : Int).toNat * 9 + 7,none⟩ = some (.int .i64 ((rd_T33 x5_1 x15_1).f7)):=hcc18 7 _ rfl
   have hx18_8 : wr.cell? ⟨go18,(x15_1 : Int).toNat * 9 + 8,none⟩ = some (.int .i64 ((rd_T33 x5_1 x15_1).f8)):=hcc18 8 _ rfl
   have hf18_0 : wr.frozen? ⟨go18,(x15_1 : Int).toNat * 9,none⟩ = false:=hfr18 0
   have hf18_1 : wr.frozen? ⟨go18,(x15_1 : Int).toNat * 9 + 1,none⟩ = false:=hfr18 1
   have hf18_2 : wr.frozen? ⟨go18,(x15_1 : Int).toNat * 9 + 2,none⟩ = false:=hfr18 2
   have hf18_3 : wr.frozen? ⟨go18,(x15_1 : Int).toNat * 9 + 3,none⟩ = false:=hfr18 3
   have hf18_4 : wr.frozen? ⟨go18,(x15_1 : Int).toNat * 9 + 4,none⟩ = false:=hfr18 4
   have hf18_5 : wr.frozen? ⟨go18,(x15_1 : Int).toNat * 9 + 5,none⟩ = false:=hfr18 5
   have hf18_6 : wr.frozen? ⟨go18,(x15_1 : Int).toNat * 9 + 6,none⟩ = false:=hfr18 6
   have hf18_7 : wr.frozen? ⟨go18,(x15_1 : Int).toNat * 9 + 7,none⟩ = false:=hfr18 7
   have hf18_8 : wr.frozen? ⟨go18,(x15_1 : Int).toNat * 9 + 8,none⟩ = false:=hfr18 8
   clear hcl18 hcc18 hfr18 hM18
   replace p18:=eq_true p18
   replace q18:=eq_true q18
   have HX19:=Aside0.mk (show Kd.R k33 33 wr w.heap.size (fun _ => True) (.slice (some ⟨go18,0,none⟩) x5_1.length co8) x5_1 from (Kd.R_up HO_5.out))
   obtain ⟨ce19,hcl19,hM19,hcc19,hfr19⟩:=Kd.R_elem HX19.out z33 (x15_1 : Int) (of_decide_eq_true (by first|(with_reducible assumption)|assumption)) (by have h_ : (x15_1 : Int) < ((x5_1.length : Int) : Int):=of_decide_eq_true (by first|(with_reducible assumption)|assumption);first|exact h_|(have e_:=(Kd.R_reads' HO_5.out).1;omega)|simpa using h_)
   obtain rfl:=k33_openM hM19
   have HP19:=Kd.R_seg HX19.out (x15_1 : Int) (of_decide_eq_true (by first|(with_reducible assumption)|assumption)) (by have h_ : (x15_1 : Int) < ((x5_1.length : Int) : Int):=of_decide_eq_true (by first|(with_reducible assumption)|assumption);first|exact h_|(have e_:=(Kd.R_reads' HO_5.out).1;omega)|simpa using h_) (seg:=[.int .i64 0]) (j:=6) hcl19 hcc19 (show 7 ≤ 9 from by decide) (x':=(⟨(rd_T33 x5_1 x15_1).f0,(rd_T33 x5_1 x15_1).f1,(rd_T33 x5_1 x15_1).f2,(rd_T33 x5_1 x15_1).f3,(rd_T33 x5_1 x15_1).f4,(rd_T33 x5_1 x15_1).f5,0,(rd_T33 x5_1 x15_1).f7,(rd_T33 x5_1 x15_1).f8⟩ : S33)) (k33_mkM _ _ _ (⟨(rd_T33 x5_1 x15_1).f0,(rd_T33 x5_1 x15_1).f1,(rd_T33 x5_1 x15_1).f2,(rd_T33 x5_1 x15_1).f3,(rd_T33 x5_1 x15_1).f4,(rd_T33 x5_1 x15_1).f5,0,(rd_T33 x5_1 x15_1).f7,(rd_T33 x5_1 x15_1).f8⟩ : S33) ) (fun _ hk => hk)
   have hx19_6:=hcc19 6 _ rfl
   (try simp only [show (k33).sz = 9 from rfl,Nat.mul_one,Nat.add_zero] at hx19_6)
   have hf19_6:=hfr19 6
   (try simp only [show (k33).sz = 9 from rfl,Nat.mul_one,Nat.add_zero] at hf19_6)
   clear hcl19 hcc19 hfr19 hM19
   go_wp2_with (first|((with_reducible refine gate_store (t:=3) (p:=49) rfl ?_);refine store_event (t:=3) (p:=49) (v:=?vo_w20) (w1:=(wr.setCell ⟨go18,(x15_1 : Int).toNat * 9 + 6,none⟩ (.int .i64 0))) ?hg ?ho ?hn ?hr ?_;(case ho => rfl);(case hg => rfl);(case hn => rfl);(case hr => first|(go_simp;done)|(go_simp;rfl));intro w20 hw;have hg : wr.grownBy w20 (some go18):=(by rw [hw];exact HP19.2);have hp_ : Kd.R k33 33 w20 w.heap.size (fun _ => True) (.slice (some ⟨go18,0,none⟩) x5_1.length co8) y230:=(by rw [hw,Ny230.out];exact HP19.1);clear HP19;replace HO_5:=Aside0.mk (hp_);replace HB:=Aside0.mk ((by rw [hw];exact below_set (HB.out) GB18.out : Below w.heap.size w w20));clear hg hw hp_))
   (try simp only [← hl5_1])
   go_roundg k1
   case measure => have:=HK1.out;omega
   case rel => exact ⟨(y230),(wrap64 (x15_1 + 1)),(by first|rfl|(simp;done)|(simp [*];done)),H',⟨by have:=HK1.out;omega⟩,⟨by (try simp only [hl5_1]);(with_reducible repeat (first|apply Kd.R_alloc|apply Kd.R_drewN|apply Kd.R_drew));exact HO_5.out⟩,⟨hb_⟩⟩

/-! ### order_Remove: function 29 -/
def order_Remove.f (k : Nat) (l0 : List (S33)) (a1 : Int) : Option ((List (S33)) × Int) := (order_Validate.f k l0).bind fun t231 => (if t231 = 0 then ((order_within.f a1 (wrap64 ((l0.length : Int) - 1))).bind fun t232 => (if t232 = true then ((order_without.f k l0 a1).bind fun t233 => (some (t233, 0))) else (some (([] : List (S33)), 2)))) else (some (([] : List (S33)), t231)))
theorem order_Remove.mono : ∀ a0 a1 k, LeO (order_Remove.f k a0 a1) (order_Remove.f (k + 1) a0 a1) := by
 intro a0 a1 k
 unfold order_Remove.f
 repeat' first
   | (with_reducible exact order_Validate.mono _ _)
   | (with_reducible exact order_without.mono _ _ _)
   | (with_reducible exact LeO.refl _)
   | (with_reducible exact LeO.none _)
   | (with_reducible refine LeO.ite ?_ ?_)
   | (with_reducible refine LeO.bind ?_ (fun _ => ?_))
   | exact order_Validate.mono _ _
   | exact order_without.mono _ _ _
   | exact LeO.none _
   | refine LeO.ite ?_ ?_
   | refine LeO.bind ?_ (fun _ => ?_)
set_option maxHeartbeats 8000000 in
set_option maxRecDepth 100000 in
theorem order_Remove.calls (k : Nat) (A0 : Option Addr) (c0 : Nat) (l0 : List (S33)) (a1 : Int) (r1 : List (S33)) (r2 : Int) (w : World) (hr0 : Kd.C k33 w A0 l0.length l0) (hc0 : l0.length ≤ c0) (h : order_Remove.f k l0 a1 = some (r1, r2)) :
  Calls Try.prog 29 #[.slice A0 l0.length c0,.int .i64 a1] w fun e w' => ∃ v0_ : Value,e = .returned (.tuple #[v0_,.int .i64 r2]) ∧ Kd.R k33 33 w' w.heap.size (fun _ => True) v0_ r1 ∧ Below w.heap.size w w':=by
 have HR0:=Aside0.mk hr0
 have HC0:=Aside0.mk hc0
 clear hr0 hc0
 have HB:=Aside0.mk (Below.refl w.heap.size w)
 have H : ((order_Validate.f k l0).bind fun t231 => (if t231 = 0 then ((order_within.f a1 (wrap64 ((l0.length : Int) - 1))).bind fun t232 => (if t232 = true then ((order_without.f k l0 a1).bind fun t233 => (some (t233,0))) else (some (([] : List (S33)),2)))) else (some (([] : List (S33)),t231)))) = some (r1,r2):=h
 clear h
 replace H:=Option.bind_eq_some_iff.mp H
 obtain ⟨t231,A30,H⟩:=H
 replace H : (if t231 = 0 then ((order_within.f a1 (wrap64 ((l0.length : Int) - 1))).bind fun t232 => (if t232 = true then ((order_without.f k l0 a1).bind fun t233 => (some (t233,0))) else (some (([] : List (S33)),2)))) else (some (([] : List (S33)),t231))) = some (r1,r2):=H
 have A3:=Aside0.mk A30
 clear A30
 by_cases c4 : t231 = 0
 rotate_left
 ·rw [if_neg c4] at H
  have c4b0 : (t231 == 0) = false:=beq_eq_false_iff_ne.mpr c4
  have c4b1 : (t231 != 0) = true:=bne_iff_ne.mpr c4
  simp only [Option.some.injEq,Prod.mk.injEq] at H
  obtain ⟨rfl,rfl⟩:=H
  go_enter Try.func29,Try.ntmps29
  go_wp2_with (first|((with_reducible refine gate_callee (f:=18) rfl ?_);refine goesL_ (some 8) rfl rfl Try.func18 (by kernel_rfl) rfl #[.slice A0 l0.length c0] rfl (by (try simp only [List.map_toArray,List.map_cons,List.map_nil]);first|done|rfl|(simp only [List.length_drop,List.length_take];rfl)) ?_;(with_reducible refine (order_Validate.calls k _ _ l0 t231 _ ?side1 ?side2 A3.out).mono ?_);(case side1 => exact Kd.C_up HR0.out);(case side2 => exact HC0.out);rintro e w11 ⟨rfl,hb⟩;refine ⟨_,rfl,?_⟩;replace HB:=Aside0.mk (below_step (hb_) hb)))
  go_ret2
  exact ⟨_,by first|rfl|(simp [errW_none,errW_some] <;> rfl)|(simp [*,errW_none,errW_some] <;> rfl),by first|exact Kd.R_nil _ _ _ _ _|exact Kd.N_nil _ _ _ _ _|exact Kd.V_nil _ _ _ _ _|exact Kd.Q_nil _ _ _ _ _|exact Kd.S_nil _ _ _ _ _,hb_⟩
 rw [if_pos c4] at H
 have c4b0 : (t231 == 0) = true:=beq_iff_eq.mpr c4
 have c4b1 : (t231 != 0) = false:=bne_eq_false_iff_eq.mpr c4
 clear c4
 replace H:=Option.bind_eq_some_iff.mp H
 obtain ⟨t232,A50,H⟩:=H
 replace H : (if t232 = true then ((order_without.f k l0 a1).bind fun t233 => (some (t233,0))) else (some (([] : List (S33)),2))) = some (r1,r2):=H
 have A5:=Aside0.mk A50
 clear A50
 by_cases c6 : t232 = true
 ·subst c6
  have H1 : ((order_without.f k l0 a1).bind fun t233 => (some (t233,0))) = some (r1,r2):=by rw [if_pos rfl] at H;exact H
  clear H
  have H:=H1
  clear H1
  replace H:=Option.bind_eq_some_iff.mp H
  obtain ⟨t233,A70,H⟩:=H
  replace H : (some (t233,0)) = some (r1,r2):=H
  have A7:=Aside0.mk A70
  clear A70
  simp only [Option.some.injEq,Prod.mk.injEq] at H
  obtain ⟨rfl,rfl⟩:=H
  go_enter Try.func29,Try.ntmps29
  go_wp2_with (first|((with_reducible refine gate_callee (f:=18) rfl ?_);refine goesL_ (some 8) rfl rfl Try.func18 (by kernel_rfl) rfl #[.slice A0 l0.length c0] rfl (by (try simp only [List.map_toArray,List.map_cons,List.map_nil]);first|done|rfl|(simp only [List.length_drop,List.length_take];rfl)) ?_;(with_reducible refine (order_Validate.calls k _ _ l0 t231 _ ?side1 ?side2 A3.out).mono ?_);(case side1 => exact Kd.C_up HR0.out);(case side2 => exact HC0.out);rintro e w8 ⟨rfl,hb⟩;refine ⟨_,rfl,?_⟩;replace HB:=Aside0.mk (below_step (hb_) hb))|((with_reducible refine gate_callee (f:=39) rfl ?_);refine goesL_ (some 16) rfl rfl Try.func39 (by kernel_rfl) rfl #[.int .i64 a1,.int .i64 (wrap64 ((l0.length : Int) - 1))] rfl (by (try simp only [List.map_toArray,List.map_cons,List.map_nil]);first|done|rfl|(simp only [List.length_drop,List.length_take];rfl)) ?_;(with_reducible refine (order_within.calls a1 (wrap64 ((l0.length : Int) - 1)) true _ A5.out).mono ?_);rintro e w' ⟨rfl,⟨nd,rfl⟩⟩;refine ⟨_,rfl,?_⟩)|((with_reducible refine gate_callee (f:=47) rfl ?_);refine goesL_ (some 20) rfl rfl Try.func47 (by kernel_rfl) rfl #[.slice A0 l0.length c0,.int .i64 a1] rfl (by (try simp only [List.map_toArray,List.map_cons,List.map_nil]);first|done|rfl|(simp only [List.length_drop,List.length_take];rfl)) ?_;(with_reducible refine (order_without.calls k _ _ l0 a1 t233 _ ?side1 ?side2 A7.out).mono ?_);(case side1 => repeat (first|exact (Kd.C_below HR0.out (hb_))|(with_reducible refine Kd.C_alloc ?_ _)|(with_reducible refine Kd.C_drewN ?_ _)|(with_reducible refine Kd.C_drew ?_)));(case side2 => exact HC0.out);rintro e w9 ⟨v234,rfl,ho0,hb⟩;refine ⟨_,rfl,?_⟩;have HO235:=rlo ho0;replace HB:=Aside0.mk (below_step (hb_) hb)))
  go_ret2
  exact ⟨_,by first|rfl|(simp [errW_none,errW_some] <;> rfl)|(simp [*,errW_none,errW_some] <;> rfl),Kd.R_up HO235.out,hb_⟩
 ·replace c6:=Bool.eq_false_iff.mpr c6
  subst c6
  have H1 : (some (([] : List (S33)),2)) = some (r1,r2):=by rw [if_neg (show ¬ (false = true) by decide)] at H;exact H
  clear H
  have H:=H1
  clear H1
  simp only [Option.some.injEq,Prod.mk.injEq] at H
  obtain ⟨rfl,rfl⟩:=H
  go_enter Try.func29,Try.ntmps29
  go_wp2_with (first|((with_reducible refine gate_callee (f:=18) rfl ?_);refine goesL_ (some 8) rfl rfl Try.func18 (by kernel_rfl) rfl #[.slice A0 l0.length c0] rfl (by (try simp only [List.map_toArray,List.map_cons,List.map_nil]);first|done|rfl|(simp only [List.length_drop,List.length_take];rfl)) ?_;(with_reducible refine (order_Validate.calls k _ _ l0 t231 _ ?side1 ?side2 A3.out).mono ?_);(case side1 => exact Kd.C_up HR0.out);(case side2 => exact HC0.out);rintro e w10 ⟨rfl,hb⟩;refine ⟨_,rfl,?_⟩;replace HB:=Aside0.mk (below_step (hb_) hb))|((with_reducible refine gate_callee (f:=39) rfl ?_);refine goesL_ (some 16) rfl rfl Try.func39 (by kernel_rfl) rfl #[.int .i64 a1,.int .i64 (wrap64 ((l0.length : Int) - 1))] rfl (by (try simp only [List.map_toArray,List.map_cons,List.map_nil]);first|done|rfl|(simp only [List.length_drop,List.length_take];rfl)) ?_;(with_reducible refine (order_within.calls a1 (wrap64 ((l0.length : Int) - 1)) false _ A5.out).mono ?_);rintro e w' ⟨rfl,⟨nd,rfl⟩⟩;refine ⟨_,rfl,?_⟩))
  go_ret2
  exact ⟨_,by first|rfl|(simp [errW_none,errW_some] <;> rfl)|(simp [*,errW_none,errW_some] <;> rfl),by first|exact Kd.R_nil _ _ _ _ _|exact Kd.N_nil _ _ _ _ _|exact Kd.V_nil _ _ _ _ _|exact Kd.Q_nil _ _ _ _ _|exact Kd.S_nil _ _ _ _ _,hb_⟩

end Go.Proofs.Ythbjchicpebglaa.P
