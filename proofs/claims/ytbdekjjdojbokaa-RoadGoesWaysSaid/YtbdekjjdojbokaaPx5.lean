/- Functions of this seat as plain Lean functions, with proofs that the Go code comes to just their answers, or what stands between them and a law's statement; no conditions. (Laid by a program of this session, out of the kit's print.) -/
import Derived.Test.YtbdekjjdojbokaaPx0
import Derived.Test.YtbdekjjdojbokaaPx1
import Derived.Test.YtbdekjjdojbokaaPx2
namespace Go.Proofs.Ytbdekjjdojbokaa.P
open Go.RowKit Go.Proofs.YtbdekjjdojbokaaW.PrintWords Go.Proofs.YtbdekjjdojbokaaW.PrintLast Go.Proofs.YtbdekjjdojbokaaW.PrintMore
attribute [local go_sem] max2_int min2_int max_two min_two max_three min_three max_four min_four   -- for this text's walks alone
set_option linter.unusedVariables false
set_option linter.unusedSimpArgs false

/-! ### road_Parts: function 36 -/
mutual
def road_Parts.l0 : Nat → List Int → Int → Int → Int → Int → List Int → List Int → Option (List Int × Int)
 | 0,_,_,_,_,_,_,_ => none
 | k + 1,x5,x23,x24,x164000,x164001,x164002,x164003 => if x24 < x23 then (if 0 ≤ x24 then (if x24 < (x5.length : Int) then (road_Parts.l0 k (x5.set (x24 : Int).toNat (-1)) x23 (wrap64 (x24 + 1)) x164000 x164001 x164002 x164003) else (none)) else (none)) else (road_Parts.l1 k x5 x164002 (x164002.length : Int) 0 x164000 x164001 x164002 x164003)
def road_Parts.l1 : Nat → List Int → List Int → Int → Int → Int → Int → List Int → List Int → Option (List Int × Int)
 | 0,_,_,_,_,_,_,_,_ => none
 | k + 1,x5,x32,x33,x34,x164000,x164001,x164002,x164003 => if x34 < x33 then (if 0 ≤ x34 then (if x34 < (x32.length : Int) then (if (rd x32 x34) = 0 then (road_Parts.j2 k x5 x34 x32 x33 x34 true x164000 x164001 x164002 x164003) else (if x34 < (x5.length : Int) then (road_Parts.j2 k x5 x34 x32 x33 x34 (decide ((rd x5 x34) ≥ 0)) x164000 x164001 x164002 x164003) else (none))) else (none)) else (none)) else (some (x5,0))
def road_Parts.j2 : Nat → List Int → Int → List Int → Int → Int → Bool → Int → Int → List Int → List Int → Option (List Int × Int)
 | 0,_,_,_,_,_,_,_,_,_,_ => none
 | k + 1,x5,x7,x32,x33,x34,x47,x164000,x164001,x164002,x164003 => if x47 = true then (road_Parts.l1 k x5 x32 x33 (wrap64 (x34 + 1)) x164000 x164001 x164002 x164003) else (if 0 ≤ x7 then (if x7 < (x5.length : Int) then (road_Parts.l2 k (x5.set (x7 : Int).toNat x7) x7 (([x7] : List Int)) x32 x33 x34 x164000 x164001 x164002 x164003) else (none)) else (none))
def road_Parts.l2 : Nat → List Int → Int → List Int → List Int → Int → Int → Int → Int → List Int → List Int → Option (List Int × Int)
 | 0,_,_,_,_,_,_,_,_,_,_ => none
 | k + 1,x5,x7,x9,x32,x33,x34,x164000,x164001,x164002,x164003 => if (x9.length : Int) > 0 then (if 0 < (x9.length : Int) then (if 1 ≤ (x9.length : Int) then (road_Parts.l3 k x5 x7 (x9.drop (1 : Int).toNat) (rd x9 0) x32 x33 x34 0 x164000 x164001 x164002 x164003) else (none)) else (none)) else (road_Parts.l1 k x5 x32 x33 (wrap64 (x34 + 1)) x164000 x164001 x164002 x164003)
def road_Parts.l3 : Nat → List Int → Int → List Int → Int → List Int → Int → Int → Int → Int → Int → List Int → List Int → Option (List Int × Int)
 | 0,_,_,_,_,_,_,_,_,_,_,_,_ => none
 | k + 1,x5,x7,x9,x10,x32,x33,x34,x62,x164000,x164001,x164002,x164003 => if x62 < 4 then ((road_joined.f x164000 x164001 x164002 x164003 x10 x62).bind fun t179 => (if t179 = true then ((road_beyond.f x164000 x164001 x164002 x164003 x10 x62).bind fun t180 => (if 0 ≤ t180 then (if t180 < (x5.length : Int) then (if (rd x5 t180) < 0 then (if x9.length < 17592186044416 then (road_Parts.l3 k (x5.set (t180 : Int).toNat x7) x7 (x9 ++ [t180]) x10 x32 x33 x34 (wrap64 (x62 + 1)) x164000 x164001 x164002 x164003) else (none)) else (road_Parts.l3 k x5 x7 x9 x10 x32 x33 x34 (wrap64 (x62 + 1)) x164000 x164001 x164002 x164003)) else (none)) else (none))) else (road_Parts.l3 k x5 x7 x9 x10 x32 x33 x34 (wrap64 (x62 + 1)) x164000 x164001 x164002 x164003))) else (road_Parts.l2 k x5 x7 x9 x32 x33 x34 x164000 x164001 x164002 x164003)
end
def road_Parts.f (k : Nat) (a0_0 : Int) (a0_1 : Int) (l0_2 : List Int) (l0_3 : List Int) : Option (List Int × Int) := (road_Validate.f k a0_0 a0_1 l0_2 l0_3).bind fun t164 => (if t164 = 0 then (if 0 ≤ (l0_2.length : Int) then (if ((l0_2.length : Int) : Int).toNat ≤ 35184372088832 then ((some (List.replicate ((l0_2.length : Int) : Int).toNat 0 : List Int)).bind fun y165 => (road_Parts.l0 k y165 (y165.length : Int) 0 a0_0 a0_1 l0_2 l0_3)) else (none)) else (none)) else (some (([] : List Int), t164)))
theorem road_Parts.mono_l : ∀ k, (∀ y0 y1 y2 y3 y4 y5 y6, LeO (road_Parts.l0 k y0 y1 y2 y3 y4 y5 y6) (road_Parts.l0 (k + 1) y0 y1 y2 y3 y4 y5 y6)) ∧ (∀ y0 y1 y2 y3 y4 y5 y6 y7, LeO (road_Parts.l1 k y0 y1 y2 y3 y4 y5 y6 y7) (road_Parts.l1 (k + 1) y0 y1 y2 y3 y4 y5 y6 y7)) ∧ (∀ y0 y1 y2 y3 y4 y5 y6 y7 y8 y9, LeO (road_Parts.j2 k y0 y1 y2 y3 y4 y5 y6 y7 y8 y9) (road_Parts.j2 (k + 1) y0 y1 y2 y3 y4 y5 y6 y7 y8 y9)) ∧ (∀ y0 y1 y2 y3 y4 y5 y6 y7 y8 y9, LeO (road_Parts.l2 k y0 y1 y2 y3 y4 y5 y6 y7 y8 y9) (road_Parts.l2 (k + 1) y0 y1 y2 y3 y4 y5 y6 y7 y8 y9)) ∧ (∀ y0 y1 y2 y3 y4 y5 y6 y7 y8 y9 y10 y11, LeO (road_Parts.l3 k y0 y1 y2 y3 y4 y5 y6 y7 y8 y9 y10 y11) (road_Parts.l3 (k + 1) y0 y1 y2 y3 y4 y5 y6 y7 y8 y9 y10 y11))
 | 0 => ⟨fun _ _ _ _ _ _ _ r h => by simp [road_Parts.l0] at h,fun _ _ _ _ _ _ _ _ r h => by simp [road_Parts.l1] at h,fun _ _ _ _ _ _ _ _ _ _ r h => by simp [road_Parts.j2] at h,fun _ _ _ _ _ _ _ _ _ _ r h => by simp [road_Parts.l2] at h,fun _ _ _ _ _ _ _ _ _ _ _ _ r h => by simp [road_Parts.l3] at h⟩
 | k + 1 => by
  obtain ⟨ih0,ih1,ih2,ih3,ih4⟩:=road_Parts.mono_l k
  refine ⟨?_,?_,?_,?_,?_⟩
  ·intro y0 y1 y2 y3 y4 y5 y6
   unfold road_Parts.l0
   repeat' first
   | (with_reducible exact ih0 _ _ _ _ _ _ _)
   | (with_reducible exact ih1 _ _ _ _ _ _ _ _)
   | (with_reducible exact ih2 _ _ _ _ _ _ _ _ _ _)
   | (with_reducible exact ih3 _ _ _ _ _ _ _ _ _ _)
   | (with_reducible exact ih4 _ _ _ _ _ _ _ _ _ _ _ _)
   | (with_reducible exact road_Validate.mono _ _ _ _ _)
   | (with_reducible exact LeO.refl _)
   | (with_reducible exact LeO.none _)
   | (with_reducible refine LeO.ite ?_ ?_)
   | (with_reducible refine LeO.bind ?_ (fun _ => ?_))
   | exact ih0 _ _ _ _ _ _ _
   | exact ih1 _ _ _ _ _ _ _ _
   | exact ih2 _ _ _ _ _ _ _ _ _ _
   | exact ih3 _ _ _ _ _ _ _ _ _ _
   | exact ih4 _ _ _ _ _ _ _ _ _ _ _ _
   | exact road_Validate.mono _ _ _ _ _
   | exact LeO.none _
   | refine LeO.ite ?_ ?_
   | refine LeO.bind ?_ (fun _ => ?_)
  ·intro y0 y1 y2 y3 y4 y5 y6 y7
   unfold road_Parts.l1
   repeat' first
   | (with_reducible exact ih0 _ _ _ _ _ _ _)
   | (with_reducible exact ih1 _ _ _ _ _ _ _ _)
   | (with_reducible exact ih2 _ _ _ _ _ _ _ _ _ _)
   | (with_reducible exact ih3 _ _ _ _ _ _ _ _ _ _)
   | (with_reducible exact ih4 _ _ _ _ _ _ _ _ _ _ _ _)
   | (with_reducible exact road_Validate.mono _ _ _ _ _)
   | (with_reducible exact LeO.refl _)
   | (with_reducible exact LeO.none _)
   | (with_reducible refine LeO.ite ?_ ?_)
   | (with_reducible refine LeO.bind ?_ (fun _ => ?_))
   | exact ih0 _ _ _ _ _ _ _
   | exact ih1 _ _ _ _ _ _ _ _
   | exact ih2 _ _ _ _ _ _ _ _ _ _
   | exact ih3 _ _ _ _ _ _ _ _ _ _
   | exact ih4 _ _ _ _ _ _ _ _ _ _ _ _
   | exact road_Validate.mono _ _ _ _ _
   | exact LeO.none _
   | refine LeO.ite ?_ ?_
   | refine LeO.bind ?_ (fun _ => ?_)
  ·intro y0 y1 y2 y3 y4 y5 y6 y7 y8 y9
   unfold road_Parts.j2
   repeat' first
   | (with_reducible exact ih0 _ _ _ _ _ _ _)
   | (with_reducible exact ih1 _ _ _ _ _ _ _ _)
   | (with_reducible exact ih2 _ _ _ _ _ _ _ _ _ _)
   | (with_reducible exact ih3 _ _ _ _ _ _ _ _ _ _)
   | (with_reducible exact ih4 _ _ _ _ _ _ _ _ _ _ _ _)
   | (with_reducible exact road_Validate.mono _ _ _ _ _)
   | (with_reducible exact LeO.refl _)
   | (with_reducible exact LeO.none _)
   | (with_reducible refine LeO.ite ?_ ?_)
   | (with_reducible refine LeO.bind ?_ (fun _ => ?_))
   | exact ih0 _ _ _ _ _ _ _
   | exact ih1 _ _ _ _ _ _ _ _
   | exact ih2 _ _ _ _ _ _ _ _ _ _
   | exact ih3 _ _ _ _ _ _ _ _ _ _
   | exact ih4 _ _ _ _ _ _ _ _ _ _ _ _
   | exact road_Validate.mono _ _ _ _ _
   | exact LeO.none _
   | refine LeO.ite ?_ ?_
   | refine LeO.bind ?_ (fun _ => ?_)
  ·intro y0 y1 y2 y3 y4 y5 y6 y7 y8 y9
   unfold road_Parts.l2
   repeat' first
   | (with_reducible exact ih0 _ _ _ _ _ _ _)
   | (with_reducible exact ih1 _ _ _ _ _ _ _ _)
   | (with_reducible exact ih2 _ _ _ _ _ _ _ _ _ _)
   | (with_reducible exact ih3 _ _ _ _ _ _ _ _ _ _)
   | (with_reducible exact ih4 _ _ _ _ _ _ _ _ _ _ _ _)
   | (with_reducible exact road_Validate.mono _ _ _ _ _)
   | (with_reducible exact LeO.refl _)
   | (with_reducible exact LeO.none _)
   | (with_reducible refine LeO.ite ?_ ?_)
   | (with_reducible refine LeO.bind ?_ (fun _ => ?_))
   | exact ih0 _ _ _ _ _ _ _
   | exact ih1 _ _ _ _ _ _ _ _
   | exact ih2 _ _ _ _ _ _ _ _ _ _
   | exact ih3 _ _ _ _ _ _ _ _ _ _
   | exact ih4 _ _ _ _ _ _ _ _ _ _ _ _
   | exact road_Validate.mono _ _ _ _ _
   | exact LeO.none _
   | refine LeO.ite ?_ ?_
   | refine LeO.bind ?_ (fun _ => ?_)
  ·intro y0 y1 y2 y3 y4 y5 y6 y7 y8 y9 y10 y11
   unfold road_Parts.l3
   repeat' first
   | (with_reducible exact ih0 _ _ _ _ _ _ _)
   | (with_reducible exact ih1 _ _ _ _ _ _ _ _)
   | (with_reducible exact ih2 _ _ _ _ _ _ _ _ _ _)
   | (with_reducible exact ih3 _ _ _ _ _ _ _ _ _ _)
   | (with_reducible exact ih4 _ _ _ _ _ _ _ _ _ _ _ _)
   | (with_reducible exact road_Validate.mono _ _ _ _ _)
   | (with_reducible exact LeO.refl _)
   | (with_reducible exact LeO.none _)
   | (with_reducible refine LeO.ite ?_ ?_)
   | (with_reducible refine LeO.bind ?_ (fun _ => ?_))
   | exact ih0 _ _ _ _ _ _ _
   | exact ih1 _ _ _ _ _ _ _ _
   | exact ih2 _ _ _ _ _ _ _ _ _ _
   | exact ih3 _ _ _ _ _ _ _ _ _ _
   | exact ih4 _ _ _ _ _ _ _ _ _ _ _ _
   | exact road_Validate.mono _ _ _ _ _
   | exact LeO.none _
   | refine LeO.ite ?_ ?_
   | refine LeO.bind ?_ (fun _ => ?_)
theorem road_Parts.mono : ∀ a0 a1 a2 a3 k, LeO (road_Parts.f k a0 a1 a2 a3) (road_Parts.f (k + 1) a0 a1 a2 a3) := by
 intro a0 a1 a2 a3 k
 obtain ⟨ih0,ih1,ih2,ih3,ih4⟩:=road_Parts.mono_l k
 unfold road_Parts.f
 repeat' first
   | (with_reducible exact ih0 _ _ _ _ _ _ _)
   | (with_reducible exact ih1 _ _ _ _ _ _ _ _)
   | (with_reducible exact ih2 _ _ _ _ _ _ _ _ _ _)
   | (with_reducible exact ih3 _ _ _ _ _ _ _ _ _ _)
   | (with_reducible exact ih4 _ _ _ _ _ _ _ _ _ _ _ _)
   | (with_reducible exact road_Validate.mono _ _ _ _ _)
   | (with_reducible exact LeO.refl _)
   | (with_reducible exact LeO.none _)
   | (with_reducible refine LeO.ite ?_ ?_)
   | (with_reducible refine LeO.bind ?_ (fun _ => ?_))
   | exact ih0 _ _ _ _ _ _ _
   | exact ih1 _ _ _ _ _ _ _ _
   | exact ih2 _ _ _ _ _ _ _ _ _ _
   | exact ih3 _ _ _ _ _ _ _ _ _ _
   | exact ih4 _ _ _ _ _ _ _ _ _ _ _ _
   | exact road_Validate.mono _ _ _ _ _
   | exact LeO.none _
   | refine LeO.ite ?_ ?_
   | refine LeO.bind ?_ (fun _ => ?_)
set_option maxHeartbeats 8000000 in
set_option maxRecDepth 100000 in
theorem road_Parts.calls (k : Nat) (a0_0 : Int) (a0_1 : Int) (A0_2 : Option Addr) (c0_2 : Nat) (l0_2 : List Int) (A0_3 : Option Addr) (c0_3 : Nat) (l0_3 : List Int) (r1 : List Int) (r2 : Int) (w : World) (hr0_2 : Kd.C (Kd.int .i64) w A0_2 l0_2.length l0_2) (hc0_2 : l0_2.length ≤ c0_2) (hr0_3 : Kd.C (Kd.int .i64) w A0_3 l0_3.length l0_3) (hc0_3 : l0_3.length ≤ c0_3) (h : road_Parts.f k a0_0 a0_1 l0_2 l0_3 = some (r1, r2)) :
  Calls Try.prog 36 #[.agg #[.int .i64 a0_0,.int .i64 a0_1,.slice A0_2 l0_2.length c0_2,.slice A0_3 l0_3.length c0_3]] w fun e w' => ∃ v0_ : Value,e = .returned (.tuple #[v0_,.int .i64 r2]) ∧ Kd.R (Kd.int .i64) 3 w' w.heap.size (fun _ => True) v0_ r1 ∧ Below w.heap.size w w':=by
 have hu24:=Try.underlying24
 have HR0_2:=Aside0.mk hr0_2
 have HC0_2:=Aside0.mk hc0_2
 clear hr0_2 hc0_2
 have HR0_3:=Aside0.mk hr0_3
 have HC0_3:=Aside0.mk hc0_3
 clear hr0_3 hc0_3
 have HB:=Aside0.mk (Below.refl w.heap.size w)
 have H : ((road_Validate.f k a0_0 a0_1 l0_2 l0_3).bind fun t164 => (if t164 = 0 then (if 0 ≤ (l0_2.length : Int) then (if ((l0_2.length : Int) : Int).toNat ≤ 35184372088832 then ((some (List.replicate ((l0_2.length : Int) : Int).toNat 0 : List Int)).bind fun y165 => (road_Parts.l0 k y165 (y165.length : Int) 0 a0_0 a0_1 l0_2 l0_3)) else (none)) else (none)) else (some (([] : List Int),t164)))) = some (r1,r2):=h
 clear h
 replace H:=Option.bind_eq_some_iff.mp H
 obtain ⟨t164,A20,H⟩:=H
 replace H : (if t164 = 0 then (if 0 ≤ (l0_2.length : Int) then (if ((l0_2.length : Int) : Int).toNat ≤ 35184372088832 then ((some (List.replicate ((l0_2.length : Int) : Int).toNat 0 : List Int)).bind fun y165 => (road_Parts.l0 k y165 (y165.length : Int) 0 a0_0 a0_1 l0_2 l0_3)) else (none)) else (none)) else (some (([] : List Int),t164))) = some (r1,r2):=H
 have A2:=Aside0.mk A20
 clear A20
 by_cases c3 : t164 = 0
 rotate_left
 ·rw [if_neg c3] at H
  have c3b0 : (t164 == 0) = false:=beq_eq_false_iff_ne.mpr c3
  have c3b1 : (t164 != 0) = true:=bne_iff_ne.mpr c3
  simp only [Option.some.injEq,Prod.mk.injEq] at H
  obtain ⟨rfl,rfl⟩:=H
  go_enter Try.func36,Try.ntmps36
  go_wp2_with (first|((with_reducible refine gate_dst (N:=1) rfl ?_);refine box_ev (N:=1) (cs:=#[.int .i64 a0_0,.int .i64 a0_1,.slice A0_2 l0_2.length c0_2,.slice A0_3 l0_3.length c0_3]) (t:=24) ?_;intro gb163 hg w62 hbox hb;have BK163:=Aside0.mk (hbox);have GW163 : Aside0 (w.heap.size ≤ gb163):=gsz hg;have GE163:=GW163;replace HB:=Aside0.mk (below_step (hb_) hb);clear hb hbox hg;obtain ⟨hcz63_0,hcz63_1,hcz63_2,hcz63_3,hfz63_0,hfz63_1,hfz63_2,hfz63_3⟩:=cells4 BK163.out)|((with_reducible refine gate_callee (f:=17) rfl ?_);refine goesL_ (some 14) rfl rfl Try.func17 (by kernel_rfl) rfl #[.agg #[.int .i64 a0_0,.int .i64 a0_1,.slice A0_2 l0_2.length c0_2,.slice A0_3 l0_3.length c0_3]] rfl (by (try simp only [List.map_toArray,List.map_cons,List.map_nil]);first|done|rfl|(simp only [List.length_drop,List.length_take];rfl)) ?_;(with_reducible refine (road_Validate.calls k a0_0 a0_1 _ _ l0_2 _ _ l0_3 t164 _ ?side1 ?side2 ?side3 ?side4 A2.out).mono ?_);(case side1 => exact Kd.C_up (Kd.C_below HR0_2.out HB.out));(case side2 => exact HC0_2.out);(case side3 => exact Kd.C_up (Kd.C_below HR0_3.out HB.out));(case side4 => exact HC0_3.out);rintro e w64 ⟨rfl,hb⟩;refine ⟨_,rfl,?_⟩;replace BK163:=bkb BK163 hb;replace HB:=Aside0.mk (below_step (hb_) hb)))
  go_ret2
  exact ⟨_,by first|rfl|(simp [errW_none,errW_some] <;> rfl)|(simp [*,errW_none,errW_some] <;> rfl),by first|exact Kd.R_nil _ _ _ _ _|exact Kd.N_nil _ _ _ _ _|exact Kd.V_nil _ _ _ _ _|exact Kd.Q_nil _ _ _ _ _|exact Kd.S_nil _ _ _ _ _,hb_⟩
 rw [if_pos c3] at H
 have c3b0 : (t164 == 0) = true:=beq_iff_eq.mpr c3
 have c3b1 : (t164 != 0) = false:=bne_eq_false_iff_eq.mpr c3
 clear c3
 replace H:=ifp_ H;obtain ⟨c4,H⟩:=H
 have c4b0:=eq_true c4
 have c4b1 : decide (0 ≤ (l0_2.length : Int)) = true:=decide_eq_true c4
 clear c4
 replace H:=ifp_ H;obtain ⟨c5,H⟩:=H
 have c5b0:=eq_true c5
 have c5b1 : decide (((l0_2.length : Int) : Int).toNat ≤ 35184372088832) = true:=decide_eq_true c5
 clear c5
 obtain ⟨y165,hy165⟩ : ∃ y_ : List Int,y_ = (List.replicate ((l0_2.length : Int) : Int).toNat 0):=⟨_,rfl⟩
 replace H : (road_Parts.l0 k y165 (y165.length : Int) 0 a0_0 a0_1 l0_2 l0_3) = some (r1,r2):=by first|(rw [hy165];with_reducible exact H)|(have H2_:=(Option.bind_some _ _).symm.trans H;rw [hy165];with_reducible exact H2_)|(have H2_:=(Option.bind_some _ _).symm.trans H;with_reducible exact H2_)|with_reducible exact H|(rw [hy165];exact H)|exact H
 have Ny165:=Aside0.mk hy165
 clear hy165
 have H':=Aside0.mk H
 clear H
 go_enter Try.func36,Try.ntmps36
 go_wp2_with (first|((with_reducible refine gate_dst (N:=1) rfl ?_);refine box_ev (N:=1) (cs:=#[.int .i64 a0_0,.int .i64 a0_1,.slice A0_2 l0_2.length c0_2,.slice A0_3 l0_3.length c0_3]) (t:=24) ?_;intro gb163 hg w6 hbox hb;have BK163:=Aside0.mk (hbox);have GW163 : Aside0 (w.heap.size ≤ gb163):=gsz hg;have GE163:=GW163;replace HB:=Aside0.mk (below_step (hb_) hb);clear hb hbox hg;obtain ⟨hcz7_0,hcz7_1,hcz7_2,hcz7_3,hfz7_0,hfz7_1,hfz7_2,hfz7_3⟩:=cells4 BK163.out)|((with_reducible refine gate_callee (f:=17) rfl ?_);refine goesL_ (some 14) rfl rfl Try.func17 (by kernel_rfl) rfl #[.agg #[.int .i64 a0_0,.int .i64 a0_1,.slice A0_2 l0_2.length c0_2,.slice A0_3 l0_3.length c0_3]] rfl (by (try simp only [List.map_toArray,List.map_cons,List.map_nil]);first|done|rfl|(simp only [List.length_drop,List.length_take];rfl)) ?_;(with_reducible refine (road_Validate.calls k a0_0 a0_1 _ _ l0_2 _ _ l0_3 t164 _ ?side1 ?side2 ?side3 ?side4 A2.out).mono ?_);(case side1 => exact Kd.C_up (Kd.C_below HR0_2.out HB.out));(case side2 => exact HC0_2.out);(case side3 => exact Kd.C_up (Kd.C_below HR0_3.out HB.out));(case side4 => exact HC0_3.out);rintro e w8 ⟨rfl,hb⟩;refine ⟨_,rfl,?_⟩;replace BK163:=bkb BK163 hb;replace HB:=Aside0.mk (below_step (hb_) hb);obtain ⟨hcz9_0,hcz9_1,hcz9_2,hcz9_3,hfz9_0,hfz9_1,hfz9_2,hfz9_3⟩:=cells4 BK163.out)|((with_reducible refine gate_dst (N:=21) rfl ?_);refine Kd.R_make (Kd.int .i64) _ 3 rfl (N:=21) rfl 22 _ _ rfl (l0_2.length : Int) rfl rfl Try.underlying22 (.int .i64 0) 8 info3 rfl (by decide) (by omega) 0 (ok:=fun _ => True) (okp:=fun _ => True) rfl (fun _ hk => hk) trivial (of_decide_eq_true (by first|(with_reducible assumption)|assumption)) (Nat.le_trans (Nat.mul_le_mul_right _ (of_decide_eq_true (by first|(with_reducible assumption)|assumption) : (l0_2.length : Int).toNat ≤ 35184372088832)) (by omega)) (Below.refl _ _) (Nat.le_refl _) ?_;intro v166 w10 ho11 hb hg_ hnew_;clear hg_ hnew_;(first|rw [← Ny165.out] at ho11|(simp only [Int.reduceToNat] at ho11;rw [← Ny165.out] at ho11));have HO167:=rlo ho11;replace BK163:=bkb BK163 hb;replace HB:=Aside0.mk (below_step (hb_) hb);clear hb ho11;obtain ⟨Ao12,co12,eo12⟩:=Kd.R_slice HO167.out;subst eo12))
 go_loopg [24] k (fun kq v24 w' => ∃ (x5_1 : List Int) (x24_1 : Int),v24 = .int .i64 x24_1 ∧ Aside0 (road_Parts.l0 kq x5_1 (y165.length : Int) x24_1 a0_0 a0_1 l0_2 l0_3 = some (r1,r2)) ∧ Aside0 (kq ≤ k) ∧ Aside0 (Kd.R (Kd.int .i64) 3 w' w.heap.size (fun _ => True) (.slice Ao12 y165.length co12) x5_1) ∧ Aside0 (w'.heap[gb163]? = some (.cells #[.int .i64 a0_0,.int .i64 a0_1,(.slice A0_2 l0_2.length c0_2),(.slice A0_3 l0_3.length c0_3)] 24 (0,0))) ∧ Aside0 (Below w.heap.size w w'))
 case atStart => exact ⟨(y165),(0),(by first|rfl|(simp;done)|(simp [*];done)),H',⟨Nat.le_refl _⟩,⟨Kd.R_up HO167.out⟩,⟨blk_up BK163.out⟩,⟨hb_⟩⟩
 case round =>
  clear H'
  obtain ⟨x5_1,x24_1,rfl,HA,HK1,HO_5,BK163,HB⟩:=hrel
  have hl5_1:=(Kd.R_reads' HO_5.out).1
  rw [hl5_1] at HO_5
  (try simp only [hl5_1])
  (try simp only [hl5_1] at BK163)
  cases gk with
  | zero => exact absurd HA.out (by simp [road_Parts.l0])
  | succ k1 =>
   have H:=HA.out
   clear HA
   simp only [road_Parts.l0] at H
   by_cases c13 : x24_1 < (y165.length : Int)
   ·rw [if_pos c13] at H
    have c13b0 : decide (x24_1 < (y165.length : Int)) = true:=decide_eq_true c13
    (try simp only [hl5_1] at c13b0)
    clear c13
    replace H:=ifp_ H;obtain ⟨c14,H⟩:=H
    have c14b0 : decide (0 ≤ x24_1) = true:=decide_eq_true c14
    clear c14
    replace H:=ifp_ H;obtain ⟨c15,H⟩:=H
    have c15b0 : decide (x24_1 < (x5_1.length : Int)) = true:=decide_eq_true c15
    (try simp only [hl5_1] at c15b0)
    clear c15
    obtain ⟨y168,hy168⟩ : ∃ y_ : List Int,y_ = (x5_1.set (x24_1 : Int).toNat (-1)):=⟨_,rfl⟩
    replace H : (road_Parts.l0 k1 y168 (y165.length : Int) (wrap64 (x24_1 + 1)) a0_0 a0_1 l0_2 l0_3) = some (r1,r2):=by first|(rw [hy168];with_reducible exact H)|(have H2_:=(Option.bind_some _ _).symm.trans H;rw [hy168];with_reducible exact H2_)|(have H2_:=(Option.bind_some _ _).symm.trans H;with_reducible exact H2_)|with_reducible exact H|(rw [hy168];exact H)|exact H
    have Ny168:=Aside0.mk hy168
    clear hy168
    have H':=Aside0.mk H
    clear H
    have p16 : 0 ≤ (x24_1 : Int):=of_decide_eq_true (by first|(with_reducible assumption)|assumption)
    have q16 : (x24_1 : Int) < ((x5_1.length : Int) : Int):=of_decide_eq_true (by first|(with_reducible assumption)|assumption)
    obtain ⟨go16,co16,eo16,gb16,gl16,cl16,HG16⟩:=Kd.R_form HO_5.out (by omega)
    (first|cases eo16|(injection eo16 with ea_ en_ ec_;(first|subst ea_|(injection ea_ with ea_;subst ea_));subst ec_;clear en_))
    have GB16:=Aside0.mk gb16
    have GG16:=Aside0.mk HG16
    clear gb16 gl16 HG16
    obtain ⟨hx16_0,hf16_0⟩:=Kd.R_celln 0 HO_5.out (x24_1 : Int) p16 q16
    replace p16:=eq_true p16
    replace q16:=eq_true q16
    have HP17:=Kd.R_putg HO_5.out (x24_1 : Int) (-1)
    go_wp2_with (first|((with_reducible refine gate_store (t:=3) (p:=29) rfl ?_);refine store_event (t:=3) (p:=29) (v:=?vo_w18) (w1:=(wr.setCell ⟨go16,(x24_1 : Int).toNat,none⟩ (.int .i64 (-1)))) ?hg ?ho ?hn ?hr ?_;(case ho => rfl);(case hg => rfl);(case hn => rfl);(case hr => first|(go_simp;done)|(go_simp;rfl));intro w18 hw;have hg : wr.grownBy w18 (some go16):=(by rw [hw];exact HP17.2);have hp_ : Kd.R (Kd.int .i64) 3 w18 w.heap.size (fun _ => True) (.slice (some ⟨go16,0,none⟩) x5_1.length co12) y168:=(by rw [hw,Ny168.out];exact HP17.1);clear HP17;replace BK163:=Aside0.mk (blk_grown (blk_up BK163.out) hg (Kd.R_ne HO_5.out BK163.out (by decide)));replace HO_5:=Aside0.mk (hp_);replace HB:=Aside0.mk ((by rw [hw];exact below_set (HB.out) GB16.out : Below w.heap.size w w18));clear hg hw hp_))
    (try simp only [← hl5_1])
    go_roundg k1
    case measure => have:=HK1.out;omega
    case rel => exact ⟨(y168),(wrap64 (x24_1 + 1)),(by first|rfl|(simp;done)|(simp [*];done)),H',⟨by have:=HK1.out;omega⟩,⟨by (try simp only [hl5_1]);(with_reducible repeat (first|apply Kd.R_alloc|apply Kd.R_drewN|apply Kd.R_drew));exact HO_5.out⟩,⟨by (try simp only [hl5_1]);(with_reducible repeat (first|refine blk_drewN ?_ _|refine blk_drew ?_|refine blk_alloc ?_ _));exact BK163.out⟩,⟨hb_⟩⟩
   rw [if_neg c13] at H
   have c13b0 : decide (x24_1 < (y165.length : Int)) = false:=decide_eq_false c13
   (try simp only [hl5_1] at c13b0)
   clear c13
   have H':=Aside0.mk H
   clear H
   obtain ⟨hcz19_0,hcz19_1,hcz19_2,hcz19_3,hfz19_0,hfz19_1,hfz19_2,hfz19_3⟩:=cells4 BK163.out
   go_wp2
   go_loopg [34] k1 (fun kq v34 w' => ∃ (x5_2 : List Int) (x34_2 : Int),v34 = .int .i64 x34_2 ∧ Aside0 (road_Parts.l1 kq x5_2 l0_2 (l0_2.length : Int) x34_2 a0_0 a0_1 l0_2 l0_3 = some (r1,r2)) ∧ Aside0 (kq ≤ k1) ∧ Aside0 (Kd.R (Kd.int .i64) 3 w' w.heap.size (fun _ => True) (.slice Ao12 x5_1.length co12) x5_2) ∧ Aside0 (w'.heap[gb163]? = some (.cells #[.int .i64 a0_0,.int .i64 a0_1,(.slice A0_2 l0_2.length c0_2),(.slice A0_3 l0_3.length c0_3)] 24 (0,0))) ∧ Aside0 (Below w.heap.size w w'))
   case atStart => exact ⟨(x5_1),(0),(by first|rfl|(simp;done)|(simp [*];done)),H',⟨Nat.le_refl _⟩,⟨by (try simp only [hl5_1]);(with_reducible repeat (first|apply Kd.R_alloc|apply Kd.R_drewN|apply Kd.R_drew));exact HO_5.out⟩,⟨by (try simp only [hl5_1]);(with_reducible repeat (first|refine blk_drewN ?_ _|refine blk_drew ?_|refine blk_alloc ?_ _));exact BK163.out⟩,⟨hb_⟩⟩
   case round =>
    clear H'
    obtain ⟨x5_2,x34_2,rfl,HA,HK2,HO_5,BK163,HB⟩:=hrel
    have hl5_2:=(Kd.R_reads' HO_5.out).1
    rw [hl5_2] at HO_5
    (try simp only [hl5_2])
    (try simp only [hl5_2] at BK163)
    cases gk with
    | zero => exact absurd HA.out (by simp [road_Parts.l1])
    | succ k2 =>
     have H:=HA.out
     clear HA
     simp only [road_Parts.l1] at H
     by_cases c20 : x34_2 < (l0_2.length : Int)
     rotate_left
     ·rw [if_neg c20] at H
      have c20b0 : decide (x34_2 < (l0_2.length : Int)) = false:=decide_eq_false c20
      (try simp only [hl5_1] at c20b0)
      (try simp only [hl5_2] at c20b0)
      clear c20
      simp only [Option.some.injEq,Prod.mk.injEq] at H
      obtain ⟨rfl,rfl⟩:=H
      go_wp2
      go_ret2
      exact ⟨_,by first|rfl|(simp [errW_none,errW_some] <;> rfl)|(simp [*,errW_none,errW_some] <;> rfl),Kd.R_up HO_5.out,hb_⟩
     rw [if_pos c20] at H
     have c20b0 : decide (x34_2 < (l0_2.length : Int)) = true:=decide_eq_true c20
     (try simp only [hl5_1] at c20b0)
     (try simp only [hl5_2] at c20b0)
     clear c20
     replace H:=ifp_ H;obtain ⟨c21,H⟩:=H
     have c21b0 : decide (0 ≤ x34_2) = true:=decide_eq_true c21
     clear c21
     replace H:=ifp_ H;obtain ⟨c22,H⟩:=H
     have c22b0 : decide (x34_2 < (l0_2.length : Int)) = true:=decide_eq_true c22
     (try simp only [hl5_1] at c22b0)
     (try simp only [hl5_2] at c22b0)
     clear c22
     have HC23:=Aside0.mk H
     clear H
     have p169 : 0 ≤ (x34_2 : Int):=of_decide_eq_true (by first|(with_reducible assumption)|assumption)
     have q169 : x34_2 < (l0_2.length : Int):=of_decide_eq_true (by first|(with_reducible assumption)|assumption)
     obtain ⟨ad169,e169,hx169_0⟩:=Kd.at_int HR0_2.out x34_2 p169 q169
     cases e169
     replace hx169_0:=(HB.out.cell (World.block_lt_of_cell? w _ hx169_0)).trans hx169_0
     replace p169:=eq_true p169
     replace q169:=eq_true q169
     go_upto_region 13 with (fail)
     go_cut [47] (fun v47 wc => ∃ (kq : Nat) (x47_22 : Bool),v47 = .bool x47_22 ∧ Aside0 (road_Parts.j2 kq x5_2 x34_2 l0_2 (l0_2.length : Int) x34_2 x47_22 a0_0 a0_1 l0_2 l0_3 = some (r1,r2)) ∧ Aside0 (kq ≤ k2) ∧ Aside0 (Kd.R (Kd.int .i64) 3 wc w.heap.size (fun _ => True) (.slice Ao12 x5_2.length co12) x5_2) ∧ Aside0 (wc.heap[gb163]? = some (.cells #[.int .i64 a0_0,.int .i64 a0_1,(.slice (some ad169) l0_2.length c0_2),(.slice A0_3 l0_3.length c0_3)] 24 (0,0))) ∧ Aside0 (Below w.heap.size w wc))
     case first =>
      have H:=HC23.out
      clear HC23
      by_cases c24 : (rd l0_2 x34_2) = 0
      ·rw [if_pos c24] at H
       have c24b0 : ((rd l0_2 x34_2) == 0) = true:=beq_iff_eq.mpr c24
       have c24b1 : ((rd l0_2 x34_2) != 0) = false:=bne_eq_false_iff_eq.mpr c24
       clear c24
       (first|rw [c24b0]|(simp only [i64_w,i32_w];rw [c24b0])|skip)
       have H':=Aside0.mk H
       clear H
       go_wp2
       go_meet
       case rel => exact ⟨_,(true),(by first|rfl|(simp;done)|(simp [*];done)),H',⟨by have:=HK1.out;have:=HK2.out;first|omega|exact Nat.le_refl _⟩,⟨by (try simp only [hl5_1]);(try simp only [hl5_2]);(with_reducible repeat (first|apply Kd.R_alloc|apply Kd.R_drewN|apply Kd.R_drew));exact HO_5.out⟩,⟨by (try simp only [hl5_1]);(try simp only [hl5_2]);(with_reducible repeat (first|refine blk_drewN ?_ _|refine blk_drew ?_|refine blk_alloc ?_ _));exact BK163.out⟩,⟨hb_⟩⟩
      ·rw [if_neg c24] at H
       have c24b0 : ((rd l0_2 x34_2) == 0) = false:=beq_eq_false_iff_ne.mpr c24
       have c24b1 : ((rd l0_2 x34_2) != 0) = true:=bne_iff_ne.mpr c24
       (first|rw [c24b0]|(simp only [i64_w,i32_w];rw [c24b0])|skip)
       replace H:=ifp_ H;obtain ⟨c25,H⟩:=H
       have c25b0 : decide (x34_2 < (x5_2.length : Int)) = true:=decide_eq_true c25
       (try simp only [hl5_1] at c25b0)
       (try simp only [hl5_2] at c25b0)
       clear c25
       have H':=Aside0.mk H
       clear H
       have p170 : 0 ≤ (x34_2 : Int):=of_decide_eq_true (by first|(with_reducible assumption)|assumption)
       have q170 : x34_2 < (x5_2.length : Int):=of_decide_eq_true (by first|(with_reducible assumption)|assumption)
       obtain ⟨ad170,e170,hx170_0⟩:=Kd.at_int (Kd.R_reads' HO_5.out).2.2 x34_2 p170 q170
       cases e170
       replace p170:=eq_true p170
       replace q170:=eq_true q170
       go_wp2
       go_meet
       case rel => exact ⟨_,(decide ((rd x5_2 x34_2) ≥ 0)),(by first|rfl|(simp;done)|(simp [*];done)),H',⟨by have:=HK1.out;have:=HK2.out;first|omega|exact Nat.le_refl _⟩,⟨by (try simp only [hl5_1]);(try simp only [hl5_2]);(with_reducible repeat (first|apply Kd.R_alloc|apply Kd.R_drewN|apply Kd.R_drew));exact HO_5.out⟩,⟨by (try simp only [hl5_1]);(try simp only [hl5_2]);(with_reducible repeat (first|refine blk_drewN ?_ _|refine blk_drew ?_|refine blk_alloc ?_ _));exact BK163.out⟩,⟨hb_⟩⟩
     case rest =>
      clear HC23
      obtain ⟨kq,x47_22,rfl,HA,HJ22,HO_5,BK163,HB⟩:=hcut
      cases kq with
      | zero => exact absurd HA.out (by simp [road_Parts.j2])
      | succ kj22 =>
       have H:=HA.out
       clear HA
       simp only [road_Parts.j2] at H
       by_cases c26 : x47_22 = true
       ·subst c26
        have H1 : (road_Parts.l1 kj22 x5_2 l0_2 (l0_2.length : Int) (wrap64 (x34_2 + 1)) a0_0 a0_1 l0_2 l0_3) = some (r1,r2):=by rw [if_pos rfl] at H;exact H
        clear H
        have H:=H1
        clear H1
        have H':=Aside0.mk H
        clear H
        go_wp2
        (try simp only [← hl5_2])
        go_roundg kj22
        case measure => have:=HK1.out;have:=HK2.out;have:=HJ22.out;omega
        case rel => exact ⟨(x5_2),(wrap64 (x34_2 + 1)),(by first|rfl|(simp;done)|(simp [*];done)),H',⟨by have:=HK1.out;have:=HK2.out;have:=HJ22.out;omega⟩,⟨by (try simp only [hl5_1]);(try simp only [hl5_2]);(with_reducible repeat (first|apply Kd.R_alloc|apply Kd.R_drewN|apply Kd.R_drew));exact HO_5.out⟩,⟨by (try simp only [hl5_1]);(try simp only [hl5_2]);(with_reducible repeat (first|refine blk_drewN ?_ _|refine blk_drew ?_|refine blk_alloc ?_ _));exact BK163.out⟩,⟨hb_⟩⟩
       ·replace c26:=Bool.eq_false_iff.mpr c26
        subst c26
        have H1 : (if 0 ≤ x34_2 then (if x34_2 < (x5_2.length : Int) then (road_Parts.l2 kj22 (x5_2.set (x34_2 : Int).toNat x34_2) x34_2 (([x34_2] : List Int)) l0_2 (l0_2.length : Int) x34_2 a0_0 a0_1 l0_2 l0_3) else (none)) else (none)) = some (r1,r2):=by rw [if_neg (show ¬ (false = true) by decide)] at H;exact H
        clear H
        have H:=H1
        clear H1
        obtain ⟨y171,hy171⟩ : ∃ y_ : List Int,y_ = (([x34_2] : List Int)):=⟨_,rfl⟩
        replace H : (if 0 ≤ x34_2 then (if x34_2 < (x5_2.length : Int) then (road_Parts.l2 kj22 (x5_2.set (x34_2 : Int).toNat x34_2) x34_2 y171 l0_2 (l0_2.length : Int) x34_2 a0_0 a0_1 l0_2 l0_3) else (none)) else (none)) = some (r1,r2):=by first|(rw [hy171];with_reducible exact H)|(have H2_:=(Option.bind_some _ _).symm.trans H;rw [hy171];with_reducible exact H2_)|(have H2_:=(Option.bind_some _ _).symm.trans H;with_reducible exact H2_)|with_reducible exact H|(rw [hy171];exact H)|exact H
        have Ny171:=Aside0.mk hy171
        clear hy171
        replace H:=ifp_ H;obtain ⟨c27,H⟩:=H
        have c27b0 : decide (0 ≤ x34_2) = true:=decide_eq_true c27
        clear c27
        replace H:=ifp_ H;obtain ⟨c28,H⟩:=H
        have c28b0 : decide (x34_2 < (x5_2.length : Int)) = true:=decide_eq_true c28
        (try simp only [hl5_1] at c28b0)
        (try simp only [hl5_2] at c28b0)
        clear c28
        obtain ⟨y174,hy174⟩ : ∃ y_ : List Int,y_ = (x5_2.set (x34_2 : Int).toNat x34_2):=⟨_,rfl⟩
        replace H : (road_Parts.l2 kj22 y174 x34_2 y171 l0_2 (l0_2.length : Int) x34_2 a0_0 a0_1 l0_2 l0_3) = some (r1,r2):=by first|(rw [hy174];with_reducible exact H)|(have H2_:=(Option.bind_some _ _).symm.trans H;rw [hy174];with_reducible exact H2_)|(have H2_:=(Option.bind_some _ _).symm.trans H;with_reducible exact H2_)|with_reducible exact H|(rw [hy174];exact H)|exact H
        have Ny174:=Aside0.mk hy174
        clear hy174
        have H':=Aside0.mk H
        clear H
        go_wp2_with (first|((with_reducible refine gate_dst (N:=49) rfl ?_);refine Kd.R_lit (Kd.int .i64) _ 3 ?hg (N:=49) ?hd (xs:=([x34_2] : List Int)) (inner:=[.int .i64 x34_2]) (ok:=fun _ => True) (okp:=fun _ => True) ?hr ?hp (fun _ hk => hk) trivial (Below.refl _ _) (Nat.le_refl _) (by simp) ?_;(case hd => rfl);(case hg => rfl);(case hr => first|(go_simp;done)|(go_simp;rfl));(case hp => exact (Reps.one (show Kd.M (Kd.int .i64) _ _ _ x34_2 [.int .i64 x34_2] from rfl) (Reps.none _ _)));intro v172 w30 ho31 hb hg_ hnew_;clear hg_ hnew_;(first|rw [← Ny171.out] at ho31|(simp only [Int.reduceToNat] at ho31;rw [← Ny171.out] at ho31));have HO173:=Aside0.mk (Kd.R_lower (Kd.R_new' ho31 (Kd.R_lt (Kd.R_up HO_5.out))) (below_size (hb_)));replace HO_5:=Aside0.mk (Kd.R_elder' (Kd.R_up HO_5.out) (Kd.R_base ho31) hb);replace BK163:=bkb BK163 hb;replace HB:=Aside0.mk (below_step (hb_) hb);clear hb ho31;have p29 : 0 ≤ (x34_2 : Int):=of_decide_eq_true (by first|(with_reducible assumption)|assumption);have q29 : (x34_2 : Int) < ((x5_2.length : Int) : Int):=of_decide_eq_true (by first|(with_reducible assumption)|assumption);obtain ⟨go29,co29,eo29,gb29,gl29,cl29,HG29⟩:=Kd.R_form HO_5.out (by omega);(first|cases eo29|(injection eo29 with ea_ en_ ec_;(first|subst ea_|(injection ea_ with ea_;subst ea_));subst ec_;clear en_));have GB29:=Aside0.mk gb29;have GG29:=Aside0.mk HG29;clear gb29 gl29 HG29;obtain ⟨hx29_0,hf29_0⟩:=Kd.R_celln 0 HO_5.out (x34_2 : Int) p29 q29;replace p29:=eq_true p29;replace q29:=eq_true q29;have n_:=Aside0.mk (Kd.R_mono (ok':=(fun k_ => some k_ ≠ (v172 : Value).ownBlock)) HO_5.out (fun k_ hk => hk.2));clear HO_5;have HO_5:=n_;clear n_;obtain ⟨hy32_,hz32_⟩:=Kd.R_celln 0 HO_5.out (x34_2 : Int) (of_decide_eq_true (by first|(with_reducible assumption)|assumption)) (of_decide_eq_true (by first|(with_reducible assumption)|assumption));have HP32:=Kd.R_putg HO_5.out (x34_2 : Int) x34_2)|((with_reducible refine gate_store (t:=3) (p:=53) rfl ?_);refine store_event (t:=3) (p:=53) (v:=?vo_w33) (w1:=(w30.setCell ⟨go29,(x34_2 : Int).toNat,none⟩ (.int .i64 x34_2))) ?hg ?ho ?hn ?hr ?_;(case ho => rfl);(case hg => rfl);(case hn => rfl);(case hr => first|(go_simp;done)|(go_simp;rfl));intro w33 hw;have hg : w30.grownBy w33 (some go29):=(by rw [hw];exact HP32.2);have hp_ : Kd.R (Kd.int .i64) 3 w33 w.heap.size (fun k_ => some k_ ≠ (v172 : Value).ownBlock) (.slice (some ⟨go29,0,none⟩) x5_2.length co12) y174:=(by rw [hw,Ny174.out];exact HP32.1);clear HP32;replace BK163:=Aside0.mk (blk_grown (blk_up BK163.out) hg (Kd.R_ne HO_5.out BK163.out (by decide)));replace HO_5:=Aside0.mk (hp_);replace HO173:=Aside0.mk (Kd.R_after (v:=(.slice (some ⟨go29,0,none⟩) x5_2.length co12)) (v1:=(.slice (some ⟨go29,0,none⟩) x5_2.length co12)) (ok:=(fun _ => True)) (Kd.R_up HO173.out) hg (.inl rfl));replace HB:=Aside0.mk ((by rw [hw];exact below_set (HB.out) GB29.out : Below w.heap.size w w33));clear hg hw hp_))
        go_loopg [9] kj22 (fun kq v9 w' => ∃ (x5_4 : List Int) (x9_4 : List Int),Aside0 (road_Parts.l2 kq x5_4 x34_2 x9_4 l0_2 (l0_2.length : Int) x34_2 a0_0 a0_1 l0_2 l0_3 = some (r1,r2)) ∧ Aside0 (kq ≤ kj22) ∧ Aside0 (Kd.R (Kd.int .i64) 3 w' w.heap.size (fun k_ => some k_ ≠ (v9 : Value).ownBlock) (.slice (some ⟨go29,0,none⟩) x5_2.length co12) x5_4) ∧ Aside0 (Kd.Q (Kd.int .i64) 3 w' w.heap.size (fun k_ => some k_ ≠ ((.slice (some ⟨go29,0,none⟩) x5_2.length co12) : Value).ownBlock) v9 x9_4) ∧ Aside0 (w'.heap[gb163]? = some (.cells #[.int .i64 a0_0,.int .i64 a0_1,(.slice (some ad169) l0_2.length c0_2),(.slice A0_3 l0_3.length c0_3)] 24 (0,0))) ∧ Aside0 (Below w.heap.size w w'))
        case atStart => exact ⟨(y174),(y171),H',⟨Nat.le_refl _⟩,⟨by (try simp only [hl5_1]);(try simp only [hl5_2]);(with_reducible repeat (first|apply Kd.R_alloc|apply Kd.R_drewN|apply Kd.R_drew));exact HO_5.out⟩,⟨Kd.Q_of_R (by (try simp only [hl5_1]);(try simp only [hl5_2]);(with_reducible repeat (first|apply Kd.R_alloc|apply Kd.R_drewN|apply Kd.R_drew));exact Kd.R_mono HO173.out (fun _ hk => hk.2))⟩,⟨by (try simp only [hl5_1]);(try simp only [hl5_2]);(with_reducible repeat (first|refine blk_drewN ?_ _|refine blk_drew ?_|refine blk_alloc ?_ _));exact BK163.out⟩,⟨hb_⟩⟩
        case round =>
         clear H'
         obtain ⟨x5_4,x9_4,HA,HK4,HO_5,HO_9,BK163,HB⟩:=hrel
         have hl5_4:=(Kd.R_reads' HO_5.out).1
         rw [hl5_4] at HO_5
         (try simp only [hl5_4])
         (try simp only [hl5_4] at BK163)
         (try simp only [hl5_4] at HO_9)
         cases gk with
         | zero => exact absurd HA.out (by simp [road_Parts.l2])
         | succ k4 =>
          have H:=HA.out
          clear HA
          simp only [road_Parts.l2] at H
          by_cases c34 : (x9_4.length : Int) > 0
          rotate_left
          ·rw [if_neg c34] at H
           have c34b0 : decide (0 < (x9_4.length : Int)) = false:=decide_eq_false c34
           (try simp only [hl5_1] at c34b0)
           (try simp only [hl5_2] at c34b0)
           (try simp only [hl5_4] at c34b0)
           have c34b1 : decide (0 < x9_4.length) = false:=decide_eq_false (by omega)
           (try simp only [hl5_1] at c34b1)
           (try simp only [hl5_2] at c34b1)
           (try simp only [hl5_4] at c34b1)
           clear c34
           have H':=Aside0.mk H
           clear H
           obtain ⟨Ao61,co61,eo61,_⟩:=Kd.Q_slice HO_9.out
           subst eo61
           go_wp2
           (try simp only [← hl5_2,← hl5_4])
           go_roundg k4
           case measure => have:=HK1.out;have:=HK2.out;have:=HJ22.out;have:=HK4.out;omega
           case rel => exact ⟨(x5_4),(wrap64 (x34_2 + 1)),(by first|rfl|(simp;done)|(simp [*];done)),H',⟨by have:=HK1.out;have:=HK2.out;have:=HJ22.out;have:=HK4.out;omega⟩,⟨by (try simp only [hl5_1]);(try simp only [hl5_2]);(try simp only [hl5_4]);(with_reducible repeat (first|apply Kd.R_alloc|apply Kd.R_drewN|apply Kd.R_drew));exact Kd.R_mono HO_5.out (fun _ hk => trivial)⟩,⟨by (try simp only [hl5_1]);(try simp only [hl5_2]);(try simp only [hl5_4]);(with_reducible repeat (first|refine blk_drewN ?_ _|refine blk_drew ?_|refine blk_alloc ?_ _));exact BK163.out⟩,⟨hb_⟩⟩
          rw [if_pos c34] at H
          have c34b0 : decide (0 < (x9_4.length : Int)) = true:=decide_eq_true c34
          (try simp only [hl5_1] at c34b0)
          (try simp only [hl5_2] at c34b0)
          (try simp only [hl5_4] at c34b0)
          have c34b1 : decide (0 < x9_4.length) = true:=decide_eq_true (by omega)
          (try simp only [hl5_1] at c34b1)
          (try simp only [hl5_2] at c34b1)
          (try simp only [hl5_4] at c34b1)
          clear c34
          replace H:=ifp_ H;obtain ⟨c35,H⟩:=H
          have c35b0 : decide (0 < (x9_4.length : Int)) = true:=decide_eq_true c35
          (try simp only [hl5_1] at c35b0)
          (try simp only [hl5_2] at c35b0)
          (try simp only [hl5_4] at c35b0)
          have c35b1 : decide (0 < x9_4.length) = true:=decide_eq_true (by omega)
          (try simp only [hl5_1] at c35b1)
          (try simp only [hl5_2] at c35b1)
          (try simp only [hl5_4] at c35b1)
          clear c35
          replace H:=ifp_ H;obtain ⟨c36,H⟩:=H
          have c36b0:=eq_true c36
          have c36b1 : decide (1 ≤ (x9_4.length : Int)) = true:=decide_eq_true c36
          (try simp only [hl5_1] at c36b1)
          (try simp only [hl5_2] at c36b1)
          (try simp only [hl5_4] at c36b1)
          clear c36
          obtain ⟨y176,hy176⟩ : ∃ y_ : List Int,y_ = (x9_4.drop (1 : Int).toNat):=⟨_,rfl⟩
          replace H : (road_Parts.l3 k4 x5_4 x34_2 y176 (rd x9_4 0) l0_2 (l0_2.length : Int) x34_2 0 a0_0 a0_1 l0_2 l0_3) = some (r1,r2):=by first|(rw [hy176];with_reducible exact H)|(have H2_:=(Option.bind_some _ _).symm.trans H;rw [hy176];with_reducible exact H2_)|(have H2_:=(Option.bind_some _ _).symm.trans H;with_reducible exact H2_)|with_reducible exact H|(rw [hy176];exact H)|exact H
          have Ny176:=Aside0.mk hy176
          clear hy176
          have H':=Aside0.mk H
          clear H
          obtain ⟨Ao37,co37,eo37,_⟩:=Kd.Q_slice HO_9.out
          subst eo37
          have p175 : 0 ≤ (0 : Int):=(by omega)
          have q175 : 0 < (x9_4.length : Int):=of_decide_eq_true (by first|(with_reducible assumption)|assumption)
          obtain ⟨ad175,e175,hx175_0⟩:=Kd.at_int (Kd.Q_reads' HO_9.out).2.2 0 p175 q175
          cases e175
          have qi175 : (0 < x9_4.length) = True:=eq_true (by omega)
          (try rw [show ((0 : Int)).toNat = 0 from rfl] at hx175_0)
          (try rw [Addr.add_zero'] at hx175_0)
          replace p175:=eq_true p175
          replace q175:=eq_true q175
          have q38 : (1 : Int) ≤ ((x9_4.length : Int) : Int):=of_decide_eq_true (by first|(with_reducible assumption)|assumption)
          obtain ⟨i038,hi038,_,hsz38,_⟩:=info_parts info3
          have hcut38:=cut_from (P:=Try.prog) 22 3 .i64 Try.underlying22 hi038 1 hsz38 (some ad175) x9_4.length co37 1 (by omega) q38
          have hr38:=Kd.Q_drop (k:=(1 : Int).toNat) HO_9.out (by omega)
          obtain ⟨A38,hA38⟩ : ∃ A1,A1 = (if co37 = (1 : Int).toNat then (some ad175) else ((some ad175) : Option Addr).map (·.add ((1 : Int).toNat * 1))):=⟨_,rfl⟩
          obtain ⟨c38,hc38⟩ : ∃ c1,c1 = co37 - (1 : Int).toNat:=⟨_,rfl⟩
          have hy38 : y176.length = x9_4.length - (1 : Int).toNat:=(by rw [Ny176.out,List.length_drop])
          rw [← Ny176.out] at hr38
          rw [← hy38,← hA38,← hc38] at hcut38
          replace hr38 : Kd.Q (Kd.int .i64) 3 wr w.heap.size (fun k_ => some k_ ≠ (.slice (some ⟨go29,0,none⟩) x5_4.length co12 : Value).ownBlock) (.slice A38 y176.length c38) y176:=(by rw [hA38,hc38,hy38];exact hr38)
          have HE38 : Aside0 ((Value.slice A38 y176.length c38).ownBlock = (.slice (some ad175) x9_4.length co37 : Value).ownBlock):=⟨by rw [hA38];split <;> (cases ((some ad175) : Option Addr) <;> rfl)⟩
          clear hy38 hi038 hsz38 HO_9 hA38 hc38
          have HO178:=Aside0.mk hr38
          clear hr38
          replace q38:=eq_true q38
          have n_:=Aside0.mk (Kd.R_mono (ok':=fun k_ => some k_ ≠ (.slice A38 y176.length c38 : Value).ownBlock) HO_5.out (fun k_ hk => (by rw [HE38.out];exact hk)))
          clear HO_5
          have HO_5:=n_
          clear n_
          go_wp2
          go_loopg [9,62] k4 (fun kq v9 v62 w' => ∃ (x5_5 : List Int) (x9_5 : List Int) (x62_5 : Int),v62 = .int .i64 x62_5 ∧ Aside0 (road_Parts.l3 kq x5_5 x34_2 x9_5 (rd x9_4 0) l0_2 (l0_2.length : Int) x34_2 x62_5 a0_0 a0_1 l0_2 l0_3 = some (r1,r2)) ∧ Aside0 (kq ≤ k4) ∧ Aside0 (Kd.R (Kd.int .i64) 3 w' w.heap.size (fun k_ => some k_ ≠ (v9 : Value).ownBlock) (.slice (some ⟨go29,0,none⟩) x5_4.length co12) x5_5) ∧ Aside0 (Kd.Q (Kd.int .i64) 3 w' w.heap.size (fun k_ => some k_ ≠ ((.slice (some ⟨go29,0,none⟩) x5_4.length co12) : Value).ownBlock) v9 x9_5) ∧ Aside0 (w'.heap[gb163]? = some (.cells #[.int .i64 a0_0,.int .i64 a0_1,(.slice (some ad169) l0_2.length c0_2),(.slice A0_3 l0_3.length c0_3)] 24 (0,0))) ∧ Aside0 (Below w.heap.size w w'))
          case atStart => exact ⟨(x5_4),(y176),(0),(by first|rfl|(simp;done)|(simp [*];done)),H',⟨Nat.le_refl _⟩,⟨by (try simp only [hl5_1]);(try simp only [hl5_2]);(try simp only [hl5_4]);(with_reducible repeat (first|apply Kd.R_alloc|apply Kd.R_drewN|apply Kd.R_drew));exact HO_5.out⟩,⟨by (try simp only [hl5_1]);(try simp only [hl5_2]);(try simp only [hl5_4]);(with_reducible repeat (first|apply Kd.Q_alloc|apply Kd.Q_drewN|apply Kd.Q_drew));exact HO178.out⟩,⟨by (try simp only [hl5_1]);(try simp only [hl5_2]);(try simp only [hl5_4]);(with_reducible repeat (first|refine blk_drewN ?_ _|refine blk_drew ?_|refine blk_alloc ?_ _));exact BK163.out⟩,⟨hb_⟩⟩
          case round =>
           clear H'
           obtain ⟨x5_5,x9_5,x62_5,rfl,HA,HK5,HO_5,HO_9,BK163,HB⟩:=hrel
           have hl5_5:=(Kd.R_reads' HO_5.out).1
           rw [hl5_5] at HO_5
           (try simp only [hl5_5])
           (try simp only [hl5_5] at BK163)
           (try simp only [hl5_5] at HO_9)
           cases gk with
           | zero => exact absurd HA.out (by simp [road_Parts.l3])
           | succ k5 =>
            have H:=HA.out
            clear HA
            simp only [road_Parts.l3] at H
            by_cases c39 : x62_5 < 4
            ·rw [if_pos c39] at H
             have c39b0 : decide (x62_5 < 4) = true:=decide_eq_true c39
             clear c39
             replace H:=Option.bind_eq_some_iff.mp H
             obtain ⟨t179,A400,H⟩:=H
             replace H : (if t179 = true then ((road_beyond.f a0_0 a0_1 l0_2 l0_3 (rd x9_4 0) x62_5).bind fun t180 => (if 0 ≤ t180 then (if t180 < (x5_5.length : Int) then (if (rd x5_5 t180) < 0 then (if x9_5.length < 17592186044416 then (road_Parts.l3 k5 (x5_5.set (t180 : Int).toNat x34_2) x34_2 (x9_5 ++ [t180]) (rd x9_4 0) l0_2 (l0_2.length : Int) x34_2 (wrap64 (x62_5 + 1)) a0_0 a0_1 l0_2 l0_3) else (none)) else (road_Parts.l3 k5 x5_5 x34_2 x9_5 (rd x9_4 0) l0_2 (l0_2.length : Int) x34_2 (wrap64 (x62_5 + 1)) a0_0 a0_1 l0_2 l0_3)) else (none)) else (none))) else (road_Parts.l3 k5 x5_5 x34_2 x9_5 (rd x9_4 0) l0_2 (l0_2.length : Int) x34_2 (wrap64 (x62_5 + 1)) a0_0 a0_1 l0_2 l0_3)) = some (r1,r2):=H
             have A40:=Aside0.mk A400
             clear A400
             by_cases c41 : t179 = true
             ·subst c41
              have H1 : ((road_beyond.f a0_0 a0_1 l0_2 l0_3 (rd x9_4 0) x62_5).bind fun t180 => (if 0 ≤ t180 then (if t180 < (x5_5.length : Int) then (if (rd x5_5 t180) < 0 then (if x9_5.length < 17592186044416 then (road_Parts.l3 k5 (x5_5.set (t180 : Int).toNat x34_2) x34_2 (x9_5 ++ [t180]) (rd x9_4 0) l0_2 (l0_2.length : Int) x34_2 (wrap64 (x62_5 + 1)) a0_0 a0_1 l0_2 l0_3) else (none)) else (road_Parts.l3 k5 x5_5 x34_2 x9_5 (rd x9_4 0) l0_2 (l0_2.length : Int) x34_2 (wrap64 (x62_5 + 1)) a0_0 a0_1 l0_2 l0_3)) else (none)) else (none))) = some (r1,r2):=by rw [if_pos rfl] at H;exact H
              clear H
              have H:=H1
              clear H1
              replace H:=Option.bind_eq_some_iff.mp H
              obtain ⟨t180,A420,H⟩:=H
              replace H : (if 0 ≤ t180 then (if t180 < (x5_5.length : Int) then (if (rd x5_5 t180) < 0 then (if x9_5.length < 17592186044416 then (road_Parts.l3 k5 (x5_5.set (t180 : Int).toNat x34_2) x34_2 (x9_5 ++ [t180]) (rd x9_4 0) l0_2 (l0_2.length : Int) x34_2 (wrap64 (x62_5 + 1)) a0_0 a0_1 l0_2 l0_3) else (none)) else (road_Parts.l3 k5 x5_5 x34_2 x9_5 (rd x9_4 0) l0_2 (l0_2.length : Int) x34_2 (wrap64 (x62_5 + 1)) a0_0 a0_1 l0_2 l0_3)) else (none)) else (none)) = some (r1,r2):=H
              have A42:=Aside0.mk A420
              clear A420
              replace H:=ifp_ H;obtain ⟨c43,H⟩:=H
              have c43b0 : decide (0 ≤ t180) = true:=decide_eq_true c43
              clear c43
              replace H:=ifp_ H;obtain ⟨c44,H⟩:=H
              have c44b0 : decide (t180 < (x5_5.length : Int)) = true:=decide_eq_true c44
              (try simp only [hl5_1] at c44b0)
              (try simp only [hl5_2] at c44b0)
              (try simp only [hl5_4] at c44b0)
              (try simp only [hl5_5] at c44b0)
              clear c44
              by_cases c45 : (rd x5_5 t180) < 0
              ·rw [if_pos c45] at H
               have c45b0 : decide ((rd x5_5 t180) < 0) = true:=decide_eq_true c45
               clear c45
               obtain ⟨y182,hy182⟩ : ∃ y_ : List Int,y_ = (x5_5.set (t180 : Int).toNat x34_2):=⟨_,rfl⟩
               replace H : (if x9_5.length < 17592186044416 then (road_Parts.l3 k5 y182 x34_2 (x9_5 ++ [t180]) (rd x9_4 0) l0_2 (l0_2.length : Int) x34_2 (wrap64 (x62_5 + 1)) a0_0 a0_1 l0_2 l0_3) else (none)) = some (r1,r2):=by first|(rw [hy182];with_reducible exact H)|(have H2_:=(Option.bind_some _ _).symm.trans H;rw [hy182];with_reducible exact H2_)|(have H2_:=(Option.bind_some _ _).symm.trans H;with_reducible exact H2_)|with_reducible exact H|(rw [hy182];exact H)|exact H
               have Ny182:=Aside0.mk hy182
               clear hy182
               replace H:=ifp_ H;obtain ⟨c47,H⟩:=H
               have LMc47:=Aside0.mk c47
               clear c47
               obtain ⟨y183,hy183⟩ : ∃ y_ : List Int,y_ = (x9_5 ++ [t180]):=⟨_,rfl⟩
               replace H : (road_Parts.l3 k5 y182 x34_2 y183 (rd x9_4 0) l0_2 (l0_2.length : Int) x34_2 (wrap64 (x62_5 + 1)) a0_0 a0_1 l0_2 l0_3) = some (r1,r2):=by first|(rw [hy183];with_reducible exact H)|(have H2_:=(Option.bind_some _ _).symm.trans H;rw [hy183];with_reducible exact H2_)|(have H2_:=(Option.bind_some _ _).symm.trans H;with_reducible exact H2_)|with_reducible exact H|(rw [hy183];exact H)|exact H
               have Ny183:=Aside0.mk hy183
               clear hy183
               have H':=Aside0.mk H
               clear H
               obtain ⟨hcz48_0,hcz48_1,hcz48_2,hcz48_3,hfz48_0,hfz48_1,hfz48_2,hfz48_3⟩:=cells4 BK163.out
               go_wp2_with (first|((with_reducible refine gate_callee (f:=41) rfl ?_);refine goesL_ (some 68) rfl rfl Try.func41 (by kernel_rfl) rfl #[.agg #[.int .i64 a0_0,.int .i64 a0_1,.slice (some ad169) l0_2.length c0_2,.slice A0_3 l0_3.length c0_3],.int .i64 (rd x9_4 0),.int .i64 x62_5] rfl (by (try simp only [List.map_toArray,List.map_cons,List.map_nil]);first|done|rfl|(simp only [List.length_drop,List.length_take];rfl)) ?_;(with_reducible refine (road_joined.calls a0_0 a0_1 _ _ l0_2 _ _ l0_3 (rd x9_4 0) x62_5 true _ ?side1 ?side2 ?side3 ?side4 A40.out).mono ?_);(case side1 => exact Kd.C_up (Kd.C_below HR0_2.out HB.out));(case side2 => exact HC0_2.out);(case side3 => exact Kd.C_up (Kd.C_below HR0_3.out HB.out));(case side4 => exact HC0_3.out);rintro e w49 ⟨rfl,hb⟩;refine ⟨_,rfl,?_⟩;replace HO_5:=rbw HO_5 hb;replace HO_9:=Aside0.mk (Kd.Q_below (Kd.Q_up HO_9.out) hb);replace BK163:=bkb BK163 hb;replace HB:=Aside0.mk (below_step (hb_) hb);obtain ⟨hcz50_0,hcz50_1,hcz50_2,hcz50_3,hfz50_0,hfz50_1,hfz50_2,hfz50_3⟩:=cells4 BK163.out)|((with_reducible refine gate_callee (f:=51) rfl ?_);refine goesL_ (some 72) rfl rfl Try.func51 (by kernel_rfl) rfl #[.agg #[.int .i64 a0_0,.int .i64 a0_1,.slice (some ad169) l0_2.length c0_2,.slice A0_3 l0_3.length c0_3],.int .i64 (rd x9_4 0),.int .i64 x62_5] rfl (by (try simp only [List.map_toArray,List.map_cons,List.map_nil]);first|done|rfl|(simp only [List.length_drop,List.length_take];rfl)) ?_;(with_reducible refine (road_beyond.calls a0_0 a0_1 _ _ l0_2 _ _ l0_3 (rd x9_4 0) x62_5 t180 _ ?side1 ?side2 ?side3 ?side4 A42.out).mono ?_);(case side1 => exact Kd.C_up (Kd.C_below HR0_2.out HB.out));(case side2 => exact HC0_2.out);(case side3 => exact Kd.C_up (Kd.C_below HR0_3.out HB.out));(case side4 => exact HC0_3.out);rintro e w51 ⟨rfl,hb⟩;refine ⟨_,rfl,?_⟩;replace HO_5:=rbw HO_5 hb;replace HO_9:=Aside0.mk (Kd.Q_below (Kd.Q_up HO_9.out) hb);replace BK163:=bkb BK163 hb;replace HB:=Aside0.mk (below_step (hb_) hb);have p181 : 0 ≤ (t180 : Int):=of_decide_eq_true (by first|(with_reducible assumption)|assumption);have q181 : t180 < (x5_5.length : Int):=of_decide_eq_true (by first|(with_reducible assumption)|assumption);obtain ⟨ad181,e181,hx181_0⟩:=Kd.at_int (Kd.R_reads' HO_5.out).2.2 t180 p181 q181;obtain rfl : (⟨go29,0,none⟩ : Addr) = ad181:=(by injection e181);(first|simp only [add_plain] at hx181_0|simp only [add_at] at hx181_0|simp only [Addr.add,Nat.zero_add] at hx181_0|skip);replace p181:=eq_true p181;replace q181:=eq_true q181;have p46 : 0 ≤ (t180 : Int):=of_decide_eq_true (by first|(with_reducible assumption)|assumption);have q46 : (t180 : Int) < ((x5_5.length : Int) : Int):=of_decide_eq_true (by first|(with_reducible assumption)|assumption);obtain ⟨hx46_0,hf46_0⟩:=Kd.R_celln 0 HO_5.out (t180 : Int) p46 q46;replace p46:=eq_true p46;replace q46:=eq_true q46;obtain ⟨hy52_,hz52_⟩:=Kd.R_celln 0 HO_5.out (t180 : Int) (of_decide_eq_true (by first|(with_reducible assumption)|assumption)) (of_decide_eq_true (by first|(with_reducible assumption)|assumption));have HP52:=Kd.R_putg HO_5.out (t180 : Int) x34_2)|((with_reducible refine gate_store (t:=3) (p:=81) rfl ?_);refine store_event (t:=3) (p:=81) (v:=?vo_w53) (w1:=(w51.setCell ⟨go29,(t180 : Int).toNat,none⟩ (.int .i64 x34_2))) ?hg ?ho ?hn ?hr ?_;(case ho => rfl);(case hg => rfl);(case hn => rfl);(case hr => first|(go_simp;done)|(go_simp;rfl));intro w53 hw;have hg : w51.grownBy w53 (some go29):=(by rw [hw];exact HP52.2);have hp_ : Kd.R (Kd.int .i64) 3 w53 w.heap.size (fun k_ => some k_ ≠ (u9 : Value).ownBlock) (.slice (some ⟨go29,0,none⟩) x5_5.length co12) y182:=(by rw [hw,Ny182.out];exact HP52.1);clear HP52;replace HO_9:=Aside0.mk (Kd.Q_after (v:=(.slice (some ⟨go29,0,none⟩) x5_5.length co12)) (v1:=(.slice (some ⟨go29,0,none⟩) x5_5.length co12)) (ok:=(fun _ => True)) (by (with_reducible repeat (first|apply Kd.Q_alloc|apply Kd.Q_drewN|apply Kd.Q_drew));exact Kd.Q_mono HO_9.out (fun _ hk => ⟨trivial,hk⟩)) hg (.inl rfl));replace BK163:=Aside0.mk (blk_grown (blk_up BK163.out) hg (Kd.R_ne HO_5.out BK163.out (by decide)));replace HO_5:=Aside0.mk (hp_);replace HB:=Aside0.mk ((by rw [hw];exact below_set (HB.out) GB29.out : Below w.heap.size w w53));clear hg hw hp_)|((with_reducible refine gate_builtin (b:=.append) (xs:=#[.tmp 82,.tmp 84]) rfl ?_);at_builtin;refine Kd.Q_append (Kd.int .i64) (w0:=w) w.heap.size rfl (.tmp 82) (.tmp 84) 22 3 (.int .i64 0) 8 rfl Try.underlying22 info3 rfl (by decide) (by omega) u9 x9_5 t180 [.int .i64 t180] (fun k_ => some k_ ≠ (.slice (some ⟨go29,0,none⟩) x5_5.length co12 : Value).ownBlock) (fun _ => False) rfl rfl ?aP (fun _ hk => hk.elim) ?aF ?aO ?aB ?aS ?aL ?_;(case aP => exact rfl);(case aB => exact (hb_));(case aF => exact (fun k_ hk => Kd.fresh' (Kd.R_lt (Kd.R_up HO_5.out)) k_ hk));(case aO => exact (by (with_reducible repeat (first|apply Kd.Q_alloc|apply Kd.Q_drewN|apply Kd.Q_drew));exact Kd.Q_mono HO_9.out (fun _ hk => hk.2)));(case aS => exact (below_size (hb_)));(case aL => have:=LMc47.out;omega);intro v184 w54 ho hb hg hat;rw [← Ny183.out] at ho;have HO185:=Aside0.mk (ho);replace HO_5:=Aside0.mk (Kd.R_after (ok:=(fun _ => True)) (by (with_reducible repeat (first|apply Kd.R_alloc|apply Kd.R_drewN|apply Kd.R_drew));exact Kd.R_mono HO_5.out (fun _ hk => ⟨trivial,hk⟩)) hg hat);replace BK163:=Aside0.mk (blk_grown (blk_up BK163.out) hg (Kd.Q_ne HO_9.out BK163.out (by decide)));replace HB:=Aside0.mk (hb);clear HO_9;clear ho hb hg hat))
               (try simp only [← hl5_5])
               go_roundg k5
               case measure => have:=HK1.out;have:=HK2.out;have:=HJ22.out;have:=HK4.out;have:=HK5.out;omega
               case rel => exact ⟨(y182),(y183),(wrap64 (x62_5 + 1)),(by first|rfl|(simp;done)|(simp [*];done)),H',⟨by have:=HK1.out;have:=HK2.out;have:=HJ22.out;have:=HK4.out;have:=HK5.out;omega⟩,⟨by (try simp only [hl5_1]);(try simp only [hl5_2]);(try simp only [hl5_4]);(try simp only [hl5_5]);(with_reducible repeat (first|apply Kd.R_alloc|apply Kd.R_drewN|apply Kd.R_drew));exact Kd.R_mono HO_5.out (fun _ hk => hk.2)⟩,⟨by (try simp only [hl5_1]);(try simp only [hl5_2]);(try simp only [hl5_4]);(try simp only [hl5_5]);(with_reducible repeat (first|apply Kd.Q_alloc|apply Kd.Q_drewN|apply Kd.Q_drew));exact HO185.out⟩,⟨by (try simp only [hl5_1]);(try simp only [hl5_2]);(try simp only [hl5_4]);(try simp only [hl5_5]);(with_reducible repeat (first|refine blk_drewN ?_ _|refine blk_drew ?_|refine blk_alloc ?_ _));exact BK163.out⟩,⟨hb_⟩⟩
              ·rw [if_neg c45] at H
               have c45b0 : decide ((rd x5_5 t180) < 0) = false:=decide_eq_false c45
               clear c45
               have H':=Aside0.mk H
               clear H
               obtain ⟨hcz55_0,hcz55_1,hcz55_2,hcz55_3,hfz55_0,hfz55_1,hfz55_2,hfz55_3⟩:=cells4 BK163.out
               go_wp2_with (first|((with_reducible refine gate_callee (f:=41) rfl ?_);refine goesL_ (some 68) rfl rfl Try.func41 (by kernel_rfl) rfl #[.agg #[.int .i64 a0_0,.int .i64 a0_1,.slice (some ad169) l0_2.length c0_2,.slice A0_3 l0_3.length c0_3],.int .i64 (rd x9_4 0),.int .i64 x62_5] rfl (by (try simp only [List.map_toArray,List.map_cons,List.map_nil]);first|done|rfl|(simp only [List.length_drop,List.length_take];rfl)) ?_;(with_reducible refine (road_joined.calls a0_0 a0_1 _ _ l0_2 _ _ l0_3 (rd x9_4 0) x62_5 true _ ?side1 ?side2 ?side3 ?side4 A40.out).mono ?_);(case side1 => exact Kd.C_up (Kd.C_below HR0_2.out HB.out));(case side2 => exact HC0_2.out);(case side3 => exact Kd.C_up (Kd.C_below HR0_3.out HB.out));(case side4 => exact HC0_3.out);rintro e w56 ⟨rfl,hb⟩;refine ⟨_,rfl,?_⟩;replace HO_5:=rbw HO_5 hb;replace HO_9:=Aside0.mk (Kd.Q_below (Kd.Q_up HO_9.out) hb);replace BK163:=bkb BK163 hb;replace HB:=Aside0.mk (below_step (hb_) hb);obtain ⟨hcz57_0,hcz57_1,hcz57_2,hcz57_3,hfz57_0,hfz57_1,hfz57_2,hfz57_3⟩:=cells4 BK163.out)|((with_reducible refine gate_callee (f:=51) rfl ?_);refine goesL_ (some 72) rfl rfl Try.func51 (by kernel_rfl) rfl #[.agg #[.int .i64 a0_0,.int .i64 a0_1,.slice (some ad169) l0_2.length c0_2,.slice A0_3 l0_3.length c0_3],.int .i64 (rd x9_4 0),.int .i64 x62_5] rfl (by (try simp only [List.map_toArray,List.map_cons,List.map_nil]);first|done|rfl|(simp only [List.length_drop,List.length_take];rfl)) ?_;(with_reducible refine (road_beyond.calls a0_0 a0_1 _ _ l0_2 _ _ l0_3 (rd x9_4 0) x62_5 t180 _ ?side1 ?side2 ?side3 ?side4 A42.out).mono ?_);(case side1 => exact Kd.C_up (Kd.C_below HR0_2.out HB.out));(case side2 => exact HC0_2.out);(case side3 => exact Kd.C_up (Kd.C_below HR0_3.out HB.out));(case side4 => exact HC0_3.out);rintro e w58 ⟨rfl,hb⟩;refine ⟨_,rfl,?_⟩;replace HO_5:=rbw HO_5 hb;replace HO_9:=Aside0.mk (Kd.Q_below (Kd.Q_up HO_9.out) hb);replace BK163:=bkb BK163 hb;replace HB:=Aside0.mk (below_step (hb_) hb);have p181 : 0 ≤ (t180 : Int):=of_decide_eq_true (by first|(with_reducible assumption)|assumption);have q181 : t180 < (x5_5.length : Int):=of_decide_eq_true (by first|(with_reducible assumption)|assumption);obtain ⟨ad181,e181,hx181_0⟩:=Kd.at_int (Kd.R_reads' HO_5.out).2.2 t180 p181 q181;obtain rfl : (⟨go29,0,none⟩ : Addr) = ad181:=(by injection e181);(first|simp only [add_plain] at hx181_0|simp only [add_at] at hx181_0|simp only [Addr.add,Nat.zero_add] at hx181_0|skip);replace p181:=eq_true p181;replace q181:=eq_true q181))
               (try simp only [← hl5_5])
               go_roundg k5
               case measure => have:=HK1.out;have:=HK2.out;have:=HJ22.out;have:=HK4.out;have:=HK5.out;omega
               case rel => exact ⟨(x5_5),(x9_5),(wrap64 (x62_5 + 1)),(by first|rfl|(simp;done)|(simp [*];done)),H',⟨by have:=HK1.out;have:=HK2.out;have:=HJ22.out;have:=HK4.out;have:=HK5.out;omega⟩,⟨by (try simp only [hl5_1]);(try simp only [hl5_2]);(try simp only [hl5_4]);(try simp only [hl5_5]);(with_reducible repeat (first|apply Kd.R_alloc|apply Kd.R_drewN|apply Kd.R_drew));exact HO_5.out⟩,⟨by (try simp only [hl5_1]);(try simp only [hl5_2]);(try simp only [hl5_4]);(try simp only [hl5_5]);(with_reducible repeat (first|apply Kd.Q_alloc|apply Kd.Q_drewN|apply Kd.Q_drew));exact HO_9.out⟩,⟨by (try simp only [hl5_1]);(try simp only [hl5_2]);(try simp only [hl5_4]);(try simp only [hl5_5]);(with_reducible repeat (first|refine blk_drewN ?_ _|refine blk_drew ?_|refine blk_alloc ?_ _));exact BK163.out⟩,⟨hb_⟩⟩
             ·replace c41:=Bool.eq_false_iff.mpr c41
              subst c41
              have H1 : (road_Parts.l3 k5 x5_5 x34_2 x9_5 (rd x9_4 0) l0_2 (l0_2.length : Int) x34_2 (wrap64 (x62_5 + 1)) a0_0 a0_1 l0_2 l0_3) = some (r1,r2):=by rw [if_neg (show ¬ (false = true) by decide)] at H;exact H
              clear H
              have H:=H1
              clear H1
              have H':=Aside0.mk H
              clear H
              obtain ⟨hcz59_0,hcz59_1,hcz59_2,hcz59_3,hfz59_0,hfz59_1,hfz59_2,hfz59_3⟩:=cells4 BK163.out
              go_wp2_with (first|((with_reducible refine gate_callee (f:=41) rfl ?_);refine goesL_ (some 68) rfl rfl Try.func41 (by kernel_rfl) rfl #[.agg #[.int .i64 a0_0,.int .i64 a0_1,.slice (some ad169) l0_2.length c0_2,.slice A0_3 l0_3.length c0_3],.int .i64 (rd x9_4 0),.int .i64 x62_5] rfl (by (try simp only [List.map_toArray,List.map_cons,List.map_nil]);first|done|rfl|(simp only [List.length_drop,List.length_take];rfl)) ?_;(with_reducible refine (road_joined.calls a0_0 a0_1 _ _ l0_2 _ _ l0_3 (rd x9_4 0) x62_5 false _ ?side1 ?side2 ?side3 ?side4 A40.out).mono ?_);(case side1 => exact Kd.C_up (Kd.C_below HR0_2.out HB.out));(case side2 => exact HC0_2.out);(case side3 => exact Kd.C_up (Kd.C_below HR0_3.out HB.out));(case side4 => exact HC0_3.out);rintro e w60 ⟨rfl,hb⟩;refine ⟨_,rfl,?_⟩;replace HO_5:=rbw HO_5 hb;replace HO_9:=Aside0.mk (Kd.Q_below (Kd.Q_up HO_9.out) hb);replace BK163:=bkb BK163 hb;replace HB:=Aside0.mk (below_step (hb_) hb)))
              (try simp only [← hl5_5])
              go_roundg k5
              case measure => have:=HK1.out;have:=HK2.out;have:=HJ22.out;have:=HK4.out;have:=HK5.out;omega
              case rel => exact ⟨(x5_5),(x9_5),(wrap64 (x62_5 + 1)),(by first|rfl|(simp;done)|(simp [*];done)),H',⟨by have:=HK1.out;have:=HK2.out;have:=HJ22.out;have:=HK4.out;have:=HK5.out;omega⟩,⟨by (try simp only [hl5_1]);(try simp only [hl5_2]);(try simp only [hl5_4]);(try simp only [hl5_5]);(with_reducible repeat (first|apply Kd.R_alloc|apply Kd.R_drewN|apply Kd.R_drew));exact HO_5.out⟩,⟨by (try simp only [hl5_1]);(try simp only [hl5_2]);(try simp only [hl5_4]);(try simp only [hl5_5]);(with_reducible repeat (first|apply Kd.Q_alloc|apply Kd.Q_drewN|apply Kd.Q_drew));exact HO_9.out⟩,⟨by (try simp only [hl5_1]);(try simp only [hl5_2]);(try simp only [hl5_4]);(try simp only [hl5_5]);(with_reducible repeat (first|refine blk_drewN ?_ _|refine blk_drew ?_|refine blk_alloc ?_ _));exact BK163.out⟩,⟨hb_⟩⟩
            ·rw [if_neg c39] at H
             have c39b0 : decide (x62_5 < 4) = false:=decide_eq_false c39
             clear c39
             have H':=Aside0.mk H
             clear H
             go_wp2
             (try simp only [← hl5_4,← hl5_5])
             go_roundg k5
             case measure => have:=HK1.out;have:=HK2.out;have:=HJ22.out;have:=HK4.out;have:=HK5.out;omega
             case rel => exact ⟨(x5_5),(x9_5),H',⟨by have:=HK1.out;have:=HK2.out;have:=HJ22.out;have:=HK4.out;have:=HK5.out;omega⟩,⟨by (try simp only [hl5_1]);(try simp only [hl5_2]);(try simp only [hl5_4]);(try simp only [hl5_5]);(with_reducible repeat (first|apply Kd.R_alloc|apply Kd.R_drewN|apply Kd.R_drew));exact HO_5.out⟩,⟨by (try simp only [hl5_1]);(try simp only [hl5_2]);(try simp only [hl5_4]);(try simp only [hl5_5]);(with_reducible repeat (first|apply Kd.Q_alloc|apply Kd.Q_drewN|apply Kd.Q_drew));exact HO_9.out⟩,⟨by (try simp only [hl5_1]);(try simp only [hl5_2]);(try simp only [hl5_4]);(try simp only [hl5_5]);(with_reducible repeat (first|refine blk_drewN ?_ _|refine blk_drew ?_|refine blk_alloc ?_ _));exact BK163.out⟩,⟨hb_⟩⟩

end Go.Proofs.Ytbdekjjdojbokaa.P
