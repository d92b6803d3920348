/- Functions of this seat as plain Lean functions, with proofs that the Go code comes to just their answers, or what stands between them and a law's statement; no conditions. (Laid by a program of this session, out of the kit's print.) -/
import Derived.Test.YtiencnnkphipoaaPx0
import Derived.Test.YtiencnnkphipoaaPx2
namespace Go.Proofs.Ytiencnnkphipoaa.P
open Go.RowKit Go.Proofs.YtiencnnkphipoaaW.PrintWords Go.Proofs.YtiencnnkphipoaaW.PrintLast Go.Proofs.YtiencnnkphipoaaW.PrintMore
attribute [local go_sem] max2_int min2_int max_two min_two max_three min_three max_four min_four   -- for this text's walks alone
set_option linter.unusedVariables false
set_option linter.unusedSimpArgs false

/-! ### water_groundOf: function 65 -/
mutual
def water_groundOf.l0 : Nat → Int → Int → Int → Int → List Int → Int → Int → List Int → List Int → List Bool → Option (Int × Int × List Int × List Int × List Bool × Int)
 | 0,_,_,_,_,_,_,_,_,_,_ => none
 | k + 1,x30,x31,x127000,x127001,x127002,x130000,x130001,x130002,x130003,x130004 => if x31 < x30 then (if x127000 = 0 then (none) else (if 0 ≤ (wrap64 ((wrap64 ((wrap64 (Int.tdiv x31 x127000)) * (wrap64 (x127000 + 1)))) + (Int.tmod x31 x127000))) then (if (wrap64 ((wrap64 ((wrap64 (Int.tdiv x31 x127000)) * (wrap64 (x127000 + 1)))) + (Int.tmod x31 x127000))) < (x127002.length : Int) then (if 0 ≤ (wrap64 ((wrap64 ((wrap64 ((wrap64 (Int.tdiv x31 x127000)) * (wrap64 (x127000 + 1)))) + (Int.tmod x31 x127000))) + 1)) then (if (wrap64 ((wrap64 ((wrap64 ((wrap64 (Int.tdiv x31 x127000)) * (wrap64 (x127000 + 1)))) + (Int.tmod x31 x127000))) + 1)) < (x127002.length : Int) then (if 0 ≤ (wrap64 ((wrap64 ((wrap64 ((wrap64 ((wrap64 (Int.tdiv x31 x127000)) * (wrap64 (x127000 + 1)))) + (Int.tmod x31 x127000))) + x127000)) + 2)) then (if (wrap64 ((wrap64 ((wrap64 ((wrap64 ((wrap64 (Int.tdiv x31 x127000)) * (wrap64 (x127000 + 1)))) + (Int.tmod x31 x127000))) + x127000)) + 2)) < (x127002.length : Int) then (if 0 ≤ (wrap64 ((wrap64 ((wrap64 ((wrap64 ((wrap64 (Int.tdiv x31 x127000)) * (wrap64 (x127000 + 1)))) + (Int.tmod x31 x127000))) + x127000)) + 1)) then (if (wrap64 ((wrap64 ((wrap64 ((wrap64 ((wrap64 (Int.tdiv x31 x127000)) * (wrap64 (x127000 + 1)))) + (Int.tmod x31 x127000))) + x127000)) + 1)) < (x127002.length : Int) then (water_groundOf.l1 k (mn (mn (mn (rd x127002 (wrap64 ((wrap64 ((wrap64 (Int.tdiv x31 x127000)) * (wrap64 (x127000 + 1)))) + (Int.tmod x31 x127000)))) (rd x127002 (wrap64 ((wrap64 ((wrap64 ((wrap64 (Int.tdiv x31 x127000)) * (wrap64 (x127000 + 1)))) + (Int.tmod x31 x127000))) + 1)))) (rd x127002 (wrap64 ((wrap64 ((wrap64 ((wrap64 ((wrap64 (Int.tdiv x31 x127000)) * (wrap64 (x127000 + 1)))) + (Int.tmod x31 x127000))) + x127000)) + 2)))) (rd x127002 (wrap64 ((wrap64 ((wrap64 ((wrap64 ((wrap64 (Int.tdiv x31 x127000)) * (wrap64 (x127000 + 1)))) + (Int.tmod x31 x127000))) + x127000)) + 1)))) 0 x30 x31 (⟨rd x127002 (wrap64 ((wrap64 ((wrap64 (Int.tdiv x31 x127000)) * (wrap64 (x127000 + 1)))) + (Int.tmod x31 x127000))),rd x127002 (wrap64 ((wrap64 ((wrap64 ((wrap64 (Int.tdiv x31 x127000)) * (wrap64 (x127000 + 1)))) + (Int.tmod x31 x127000))) + 1)),rd x127002 (wrap64 ((wrap64 ((wrap64 ((wrap64 ((wrap64 (Int.tdiv x31 x127000)) * (wrap64 (x127000 + 1)))) + (Int.tmod x31 x127000))) + x127000)) + 2)),rd x127002 (wrap64 ((wrap64 ((wrap64 ((wrap64 ((wrap64 (Int.tdiv x31 x127000)) * (wrap64 (x127000 + 1)))) + (Int.tmod x31 x127000))) + x127000)) + 1))⟩ : S71) 0 x127000 x127001 x127002 x130000 x130001 x130002 x130003 x130004 (rd x127002 (wrap64 ((wrap64 ((wrap64 (Int.tdiv x31 x127000)) * (wrap64 (x127000 + 1)))) + (Int.tmod x31 x127000)))) (rd x127002 (wrap64 ((wrap64 ((wrap64 ((wrap64 (Int.tdiv x31 x127000)) * (wrap64 (x127000 + 1)))) + (Int.tmod x31 x127000))) + 1))) (rd x127002 (wrap64 ((wrap64 ((wrap64 ((wrap64 ((wrap64 (Int.tdiv x31 x127000)) * (wrap64 (x127000 + 1)))) + (Int.tmod x31 x127000))) + x127000)) + 2))) (rd x127002 (wrap64 ((wrap64 ((wrap64 ((wrap64 ((wrap64 (Int.tdiv x31 x127000)) * (wrap64 (x127000 + 1)))) + (Int.tmod x31 x127000))) + x127000)) + 1)))) else (none)) else (none)) else (none)) else (none)) else (none)) else (none)) else (none)) else (none))) else (some (x130000,x130001,x130002,x130003,x130004,0))
def water_groundOf.l1 : Nat → Int → Int → Int → Int → S71 → Int → Int → Int → List Int → Int → Int → List Int → List Int → List Bool → Int → Int → Int → Int → Option (Int × Int × List Int × List Int × List Bool × Int)
 | 0,_,_,_,_,_,_,_,_,_,_,_,_,_,_,_,_,_,_ => none
 | k + 1,x11,x12,x30,x31,x88,x89,x127000,x127001,x127002,x130000,x130001,x130002,x130003,x130004,x135000,x135001,x135002,x135003 => if x89 < 4 then (if 0 ≤ x89 then (if (ix71 x88 x89) > x11 then (if (ix71 x88 x89) > (wrap64 (x11 + 1)) then (water_groundOf.l1 k x11 (Go.bits .or .i64 (Go.bits .or .i64 x12 (shl .i64 1 x89)) 16) x30 x31 x88 (wrap64 (x89 + 1)) x127000 x127001 x127002 x130000 x130001 x130002 x130003 x130004 x135000 x135001 x135002 x135003) else (water_groundOf.l1 k x11 (Go.bits .or .i64 x12 (shl .i64 1 x89)) x30 x31 x88 (wrap64 (x89 + 1)) x127000 x127001 x127002 x130000 x130001 x130002 x130003 x130004 x135000 x135001 x135002 x135003)) else (if (ix71 x88 x89) > (wrap64 (x11 + 1)) then (water_groundOf.l1 k x11 (Go.bits .or .i64 x12 16) x30 x31 x88 (wrap64 (x89 + 1)) x127000 x127001 x127002 x130000 x130001 x130002 x130003 x130004 x135000 x135001 x135002 x135003) else (water_groundOf.l1 k x11 x12 x30 x31 x88 (wrap64 (x89 + 1)) x127000 x127001 x127002 x130000 x130001 x130002 x130003 x130004 x135000 x135001 x135002 x135003))) else (none)) else ((some (([x12] : List Int) : List Int)).bind fun y135 => (if x130002.length + y135.length < 17592186044416 then ((some (([x11] : List Int) : List Int)).bind fun y141 => (if x130003.length + y141.length < 17592186044416 then ((some (([decide ((mx (mx (mx x135000 x135001) x135002) x135003) ≤ 2)] : List Bool) : List Bool)).bind fun y147 => (if x130004.length + y147.length < 140737488355328 then (water_groundOf.l0 k x30 (wrap64 (x31 + 1)) x127000 x127001 x127002 x130000 x130001 (x130002 ++ y135) (x130003 ++ y141) (x130004 ++ y147)) else (none))) else (none))) else (none)))
end
def water_groundOf.f (k : Nat) (a0_0 : Int) (a0_1 : Int) (l0_2 : List Int) : Option (Int × Int × List Int × List Int × List Bool × Int) := (land_Validate.f k a0_0 a0_1 l0_2).bind fun t128 => (if t128 = 0 then (water_groundOf.l0 k (wrap64 (a0_0 * a0_1)) 0 a0_0 a0_1 l0_2 a0_0 a0_1 ([] : List Int) ([] : List Int) ([] : List Bool)) else (some (0, 0, ([] : List Int), ([] : List Int), ([] : List Bool), t128)))
theorem water_groundOf.mono_l : ∀ k, (∀ y0 y1 y2 y3 y4 y5 y6 y7 y8 y9, LeO (water_groundOf.l0 k y0 y1 y2 y3 y4 y5 y6 y7 y8 y9) (water_groundOf.l0 (k + 1) y0 y1 y2 y3 y4 y5 y6 y7 y8 y9)) ∧ (∀ y0 y1 y2 y3 y4 y5 y6 y7 y8 y9 y10 y11 y12 y13 y14 y15 y16 y17, LeO (water_groundOf.l1 k y0 y1 y2 y3 y4 y5 y6 y7 y8 y9 y10 y11 y12 y13 y14 y15 y16 y17) (water_groundOf.l1 (k + 1) y0 y1 y2 y3 y4 y5 y6 y7 y8 y9 y10 y11 y12 y13 y14 y15 y16 y17))
 | 0 => ⟨fun _ _ _ _ _ _ _ _ _ _ r h => by simp [water_groundOf.l0] at h,fun _ _ _ _ _ _ _ _ _ _ _ _ _ _ _ _ _ _ r h => by simp [water_groundOf.l1] at h⟩
 | k + 1 => by
  obtain ⟨ih0,ih1⟩:=water_groundOf.mono_l k
  refine ⟨?_,?_⟩
  ·intro y0 y1 y2 y3 y4 y5 y6 y7 y8 y9
   unfold water_groundOf.l0
   repeat' first
   | (with_reducible exact ih0 _ _ _ _ _ _ _ _ _ _)
   | (with_reducible exact ih1 _ _ _ _ _ _ _ _ _ _ _ _ _ _ _ _ _ _)
   | (with_reducible exact land_Validate.mono _ _ _ _)
   | (with_reducible exact LeO.refl _)
   | (with_reducible exact LeO.none _)
   | (with_reducible refine LeO.ite ?_ ?_)
   | (with_reducible refine LeO.bind ?_ (fun _ => ?_))
   | exact ih0 _ _ _ _ _ _ _ _ _ _
   | exact ih1 _ _ _ _ _ _ _ _ _ _ _ _ _ _ _ _ _ _
   | exact land_Validate.mono _ _ _ _
   | exact LeO.none _
   | refine LeO.ite ?_ ?_
   | refine LeO.bind ?_ (fun _ => ?_)
  ·intro y0 y1 y2 y3 y4 y5 y6 y7 y8 y9 y10 y11 y12 y13 y14 y15 y16 y17
   unfold water_groundOf.l1
   repeat' first
   | (with_reducible exact ih0 _ _ _ _ _ _ _ _ _ _)
   | (with_reducible exact ih1 _ _ _ _ _ _ _ _ _ _ _ _ _ _ _ _ _ _)
   | (with_reducible exact land_Validate.mono _ _ _ _)
   | (with_reducible exact LeO.refl _)
   | (with_reducible exact LeO.none _)
   | (with_reducible refine LeO.ite ?_ ?_)
   | (with_reducible refine LeO.bind ?_ (fun _ => ?_))
   | exact ih0 _ _ _ _ _ _ _ _ _ _
   | exact ih1 _ _ _ _ _ _ _ _ _ _ _ _ _ _ _ _ _ _
   | exact land_Validate.mono _ _ _ _
   | exact LeO.none _
   | refine LeO.ite ?_ ?_
   | refine LeO.bind ?_ (fun _ => ?_)
theorem water_groundOf.mono : ∀ a0 a1 a2 k, LeO (water_groundOf.f k a0 a1 a2) (water_groundOf.f (k + 1) a0 a1 a2) := by
 intro a0 a1 a2 k
 obtain ⟨ih0,ih1⟩:=water_groundOf.mono_l k
 unfold water_groundOf.f
 repeat' first
   | (with_reducible exact ih0 _ _ _ _ _ _ _ _ _ _)
   | (with_reducible exact ih1 _ _ _ _ _ _ _ _ _ _ _ _ _ _ _ _ _ _)
   | (with_reducible exact land_Validate.mono _ _ _ _)
   | (with_reducible exact LeO.refl _)
   | (with_reducible exact LeO.none _)
   | (with_reducible refine LeO.ite ?_ ?_)
   | (with_reducible refine LeO.bind ?_ (fun _ => ?_))
   | exact ih0 _ _ _ _ _ _ _ _ _ _
   | exact ih1 _ _ _ _ _ _ _ _ _ _ _ _ _ _ _ _ _ _
   | exact land_Validate.mono _ _ _ _
   | exact LeO.none _
   | refine LeO.ite ?_ ?_
   | refine LeO.bind ?_ (fun _ => ?_)
def water_groundOf.T8 : Bool × List (List Nat × List Nat) := (true, [([], []), ([], []), ([1], [1]), ([0, 2], [0, 2]), ([], []), ([], []), ([5], [5]), ([4, 6], [4, 6]), ([3, 0, 1, 2, 3], [3]), ([7, 8, 0, 1, 2, 3, 4, 5, 6, 7, 8], [7])])
def water_groundOf.B8 : List Nat := [0, 0, 2, 7, 0, 0, 32, 112, 15, 511]
theorem water_groundOf.tab8 : rtab .any (opsOf Try.f65 8) = water_groundOf.T8 := by kernel_rfl
theorem water_groundOf.bits8 : waitsOk water_groundOf.T8.2 water_groundOf.B8 = true := by kernel_rfl
def water_groundOf.T10 : Bool × List (List Nat × List Nat) := (true, [([], []), ([0], [0]), ([], []), ([1, 2], [1, 2]), ([3], [3]), ([], []), ([5], [5]), ([], []), ([7], [7]), ([6, 8], [6, 8]), ([9], [9]), ([], []), ([11], [11]), ([], []), ([], []), ([14], [14]), ([13, 15], [13, 15]), ([16], [16]), ([12, 17], [12, 17]), ([18], [18]), ([], []), ([20], [20]), ([], []), ([], []), ([23], [23]), ([22, 24], [22, 24]), ([25], [25]), ([21, 26], [21, 26]), ([27], [27]), ([4, 10, 19, 28], [4, 10, 19, 28]), ([], []), ([30, 29, 0, 1, 2, 3, 4, 5, 6, 7, 8, 9, 10, 11, 12, 13, 14, 15, 16, 17, 18, 19, 20, 21, 22, 23, 24, 25, 26, 27, 28, 29, 30], [29, 30])])
def water_groundOf.B10 : List Nat := [0, 1, 0, 7, 15, 0, 32, 0, 128, 480, 992, 0, 2048, 0, 0, 16384, 57344, 122880, 260096, 522240, 0, 1048576, 0, 0, 8388608, 29360128, 62914560, 133169152, 267386880, 536870911, 0, 2147483647]
theorem water_groundOf.tab10 : rtab .any (opsOf Try.f65 10) = water_groundOf.T10 := by kernel_rfl
theorem water_groundOf.bits10 : waitsOk water_groundOf.T10.2 water_groundOf.B10 = true := by kernel_rfl
def water_groundOf.T20 : Bool × List (List Nat × List Nat) := (true, [([], []), ([0], [0]), ([], []), ([2], [2]), ([1, 3], [1, 3]), ([], []), ([5], [5]), ([], []), ([7], [7]), ([6, 8, 4], [6, 8]), ([0, 1, 2, 3, 4, 5, 6], []), ([10, 4, 9, 0, 1, 2, 3, 4, 5, 6], [4, 10]), ([0, 1, 2, 3, 4, 5, 6, 7, 8, 9, 10, 11], []), ([12, 9, 11, 0, 1, 2, 3, 4, 5, 6, 7, 8, 9, 10, 11], [9, 12])])
def water_groundOf.B20 : List Nat := [0, 1, 0, 4, 15, 0, 32, 0, 128, 511, 127, 2047, 4095, 8191]
theorem water_groundOf.tab20 : rtab .any (opsOf Try.f65 20) = water_groundOf.T20 := by kernel_rfl
theorem water_groundOf.bits20 : waitsOk water_groundOf.T20.2 water_groundOf.B20 = true := by kernel_rfl
set_option maxHeartbeats 8000000 in
set_option maxRecDepth 100000 in
theorem water_groundOf.calls (k : Nat) (a0_0 : Int) (a0_1 : Int) (A0_2 : Option Addr) (c0_2 : Nat) (l0_2 : List Int) (r1 : Int) (r2 : Int) (r3 : List Int) (r4 : List Int) (r5 : List Bool) (r6 : Int) (w : World) (hr0_2 : Kd.C (Kd.int .i64) w A0_2 l0_2.length l0_2) (hc0_2 : l0_2.length ≤ c0_2) (h : water_groundOf.f k a0_0 a0_1 l0_2 = some (r1, r2, r3, r4, r5, r6)) :
  Calls Try.prog 65 #[.agg #[.int .i64 a0_0,.int .i64 a0_1,.slice A0_2 l0_2.length c0_2]] w fun e w' => ∃ v2_ v3_ v4_ : Value,e = .returned (.tuple #[.agg #[.int .i64 r1,.int .i64 r2,v2_,v3_,v4_],.int .i64 r6]) ∧ Kd.R (Kd.int .i64) 3 w' w.heap.size (fun k_ => some k_ ≠ (v3_ : Value).ownBlock) v2_ r3 ∧ Kd.R (Kd.int .i64) 3 w' w.heap.size (fun k_ => some k_ ≠ (v2_ : Value).ownBlock) v3_ r4 ∧ Kd.R Kd.bool 4 w' w.heap.size (fun _ => True) v4_ r5 ∧ Below w.heap.size w w':=by
 have hu24:=Try.underlying24
 have hu52:=Try.underlying52
 have hu71:=Try.underlying71
 have HR0_2:=Aside0.mk hr0_2
 have HC0_2:=Aside0.mk hc0_2
 clear hr0_2 hc0_2
 have HB:=Aside0.mk (Below.refl w.heap.size w)
 have H : ((land_Validate.f k a0_0 a0_1 l0_2).bind fun t128 => (if t128 = 0 then (water_groundOf.l0 k (wrap64 (a0_0 * a0_1)) 0 a0_0 a0_1 l0_2 a0_0 a0_1 ([] : List Int) ([] : List Int) ([] : List Bool)) else (some (0,0,([] : List Int),([] : List Int),([] : List Bool),t128)))) = some (r1,r2,r3,r4,r5,r6):=h
 clear h
 replace H:=Option.bind_eq_some_iff.mp H
 obtain ⟨t128,A20,H⟩:=H
 replace H : (if t128 = 0 then (water_groundOf.l0 k (wrap64 (a0_0 * a0_1)) 0 a0_0 a0_1 l0_2 a0_0 a0_1 ([] : List Int) ([] : List Int) ([] : List Bool)) else (some (0,0,([] : List Int),([] : List Int),([] : List Bool),t128))) = some (r1,r2,r3,r4,r5,r6):=H
 have A2:=Aside0.mk A20
 clear A20
 by_cases c3 : t128 = 0
 rotate_left
 ·rw [if_neg c3] at H
  have c3b0 : (t128 == 0) = false:=beq_eq_false_iff_ne.mpr c3
  have c3b1 : (t128 != 0) = true:=bne_iff_ne.mpr c3
  simp only [Option.some.injEq,Prod.mk.injEq] at H
  obtain ⟨rfl,rfl,rfl,rfl,rfl,rfl⟩:=H
  go_enter Try.func65,Try.ntmps65
  go_wp2_with (first|((with_reducible refine gate_dst (N:=1) rfl ?_);refine box_ev (N:=1) (cs:=#[.int .i64 a0_0,.int .i64 a0_1,.slice A0_2 l0_2.length c0_2]) (t:=24) ?_;intro gb126 hg w97 hbox hb;have BK126:=Aside0.mk (hbox);have GW126 : Aside0 (w.heap.size ≤ gb126):=gsz hg;have GE126:=GW126;replace HB:=Aside0.mk (below_step (hb_) hb);clear hb hbox hg)|((with_reducible refine gate_dst (N:=2) rfl ?_);refine box_ev (N:=2) (cs:=#[.int .i64 0,.int .i64 0,.slice none 0 0,.slice none 0 0,.slice none 0 0]) (t:=52) ?_;intro gb127 hg w98 hbox hb;have BK127:=Aside0.mk (hbox);have GW127 : Aside0 (w.heap.size ≤ gb127):=gsz hg;have GE127:=GW127;have NB126_127:=nbl BK126 hg;have NB127_126:=nbr BK126 hg;replace BK126:=bkb BK126 hb;replace HB:=Aside0.mk (below_step (hb_) hb);clear hb hbox hg;have hnb99:=NB126_127.out;have hnc99:=NB127_126.out;obtain ⟨hcz100_0,hcz100_1,hcz100_2,hfz100_0,hfz100_1,hfz100_2⟩:=cells3 BK126.out)|((with_reducible refine gate_callee (f:=76) rfl ?_);refine goesL_ (some 16) rfl rfl Try.func76 (by kernel_rfl) rfl #[.agg #[.int .i64 a0_0,.int .i64 a0_1,.slice A0_2 l0_2.length c0_2]] rfl (by (try simp only [List.map_toArray,List.map_cons,List.map_nil]);first|done|rfl|(simp only [List.length_drop,List.length_take];rfl)) ?_;(with_reducible refine (land_Validate.calls k a0_0 a0_1 _ _ l0_2 t128 _ ?side1 ?side2 A2.out).mono ?_);(case side1 => exact Kd.C_up (Kd.C_below HR0_2.out HB.out));(case side2 => exact HC0_2.out);rintro e w101 ⟨rfl,hb⟩;refine ⟨_,rfl,?_⟩;replace BK126:=bkb BK126 hb;replace BK127:=bkb BK127 hb;replace HB:=Aside0.mk (below_step (hb_) hb);obtain ⟨hcz102_0,hcz102_1,hcz102_2,hcz102_3,hcz102_4,hfz102_0,hfz102_1,hfz102_2,hfz102_3,hfz102_4⟩:=cells5 BK127.out))
  refine bodyPost_ret (results_ct rfl _ _ gb127 52 #[.int .i64 0,.int .i64 0,.slice none 0 0,.slice none 0 0,.slice none 0 0] (0,0) _ rfl (by (with_reducible repeat (first|refine blk_drewN ?_ _|refine blk_drew ?_|refine blk_alloc ?_ _));exact blk_puts5 (blk_up BK127.out)) Try.underlying52 rfl (by kernel_rfl)) rfl ?_
  exact ⟨_,_,_,by first|rfl|(simp [errW_none,errW_some] <;> rfl)|(simp [*,errW_none,errW_some] <;> rfl),by first|exact Kd.R_nil _ _ _ _ _|exact Kd.N_nil _ _ _ _ _|exact Kd.V_nil _ _ _ _ _|exact Kd.Q_nil _ _ _ _ _|exact Kd.S_nil _ _ _ _ _,by first|exact Kd.R_nil _ _ _ _ _|exact Kd.N_nil _ _ _ _ _|exact Kd.V_nil _ _ _ _ _|exact Kd.Q_nil _ _ _ _ _|exact Kd.S_nil _ _ _ _ _,by first|exact Kd.R_nil _ _ _ _ _|exact Kd.N_nil _ _ _ _ _|exact Kd.V_nil _ _ _ _ _|exact Kd.Q_nil _ _ _ _ _|exact Kd.S_nil _ _ _ _ _,hb_⟩
 rw [if_pos c3] at H
 have c3b0 : (t128 == 0) = true:=beq_iff_eq.mpr c3
 have c3b1 : (t128 != 0) = false:=bne_eq_false_iff_eq.mpr c3
 clear c3
 have H':=Aside0.mk H
 clear H
 go_enter Try.func65,Try.ntmps65
 go_wp2_with (first|((with_reducible refine gate_dst (N:=1) rfl ?_);refine box_ev (N:=1) (cs:=#[.int .i64 a0_0,.int .i64 a0_1,.slice A0_2 l0_2.length c0_2]) (t:=24) ?_;intro gb126 hg w4 hbox hb;have BK126:=Aside0.mk (hbox);have GW126 : Aside0 (w.heap.size ≤ gb126):=gsz hg;have GE126:=GW126;replace HB:=Aside0.mk (below_step (hb_) hb);clear hb hbox hg)|((with_reducible refine gate_dst (N:=2) rfl ?_);refine box_ev (N:=2) (cs:=#[.int .i64 0,.int .i64 0,.slice none 0 0,.slice none 0 0,.slice none 0 0]) (t:=52) ?_;intro gb127 hg w5 hbox hb;have BK127:=Aside0.mk (hbox);have GW127 : Aside0 (w.heap.size ≤ gb127):=gsz hg;have GE127:=GW127;have NB126_127:=nbl BK126 hg;have NB127_126:=nbr BK126 hg;replace BK126:=bkb BK126 hb;replace HB:=Aside0.mk (below_step (hb_) hb);clear hb hbox hg;have hnb6:=NB126_127.out;have hnc6:=NB127_126.out;obtain ⟨hcz7_0,hcz7_1,hcz7_2,hfz7_0,hfz7_1,hfz7_2⟩:=cells3 BK126.out)|((with_reducible refine gate_callee (f:=76) rfl ?_);refine goesL_ (some 16) rfl rfl Try.func76 (by kernel_rfl) rfl #[.agg #[.int .i64 a0_0,.int .i64 a0_1,.slice A0_2 l0_2.length c0_2]] rfl (by (try simp only [List.map_toArray,List.map_cons,List.map_nil]);first|done|rfl|(simp only [List.length_drop,List.length_take];rfl)) ?_;(with_reducible refine (land_Validate.calls k a0_0 a0_1 _ _ l0_2 t128 _ ?side1 ?side2 A2.out).mono ?_);(case side1 => exact Kd.C_up (Kd.C_below HR0_2.out HB.out));(case side2 => exact HC0_2.out);rintro e w8 ⟨rfl,hb⟩;refine ⟨_,rfl,?_⟩;replace BK126:=bkb BK126 hb;replace BK127:=bkb BK127 hb;replace HB:=Aside0.mk (below_step (hb_) hb);obtain ⟨hcz9_0,hcz9_1,hcz9_2,hfz9_0,hfz9_1,hfz9_2⟩:=cells3 BK126.out)|((with_reducible refine gate_dst (N:=5) rfl ?_);refine box_ev (N:=5) (cs:=#[.int .i64 0,.int .i64 0,.slice none 0 0,.slice none 0 0,.slice none 0 0]) (t:=52) ?_;intro gb129 hg w10 hbox hb;have BK129:=Aside0.mk (hbox);have GW129 : Aside0 (w.heap.size ≤ gb129):=gsz hg;have GE129:=GW129;have NB126_129:=nbl BK126 hg;have NB129_126:=nbr BK126 hg;have NB127_129:=nbl BK127 hg;have NB129_127:=nbr BK127 hg;replace BK126:=bkb BK126 hb;replace BK127:=bkb BK127 hb;replace HB:=Aside0.mk (below_step (hb_) hb);clear hb hbox hg;have hnb11:=NB129_126.out;have hnc11:=NB126_129.out;have hnb12:=NB129_127.out;have hnc12:=NB127_129.out;obtain ⟨hcz13_0,hcz13_1,hcz13_2,hcz13_3,hcz13_4,hfz13_0,hfz13_1,hfz13_2,hfz13_3,hfz13_4⟩:=cells5 BK129.out;obtain ⟨hcz14_0,hcz14_1,hcz14_2,hfz14_0,hfz14_1,hfz14_2⟩:=cells3 BK126.out))
 go_loopg [31] k (fun kq v31 w' => ∃ (x31_1 : Int) (x130002_1 : List Int) (x130003_1 : List Int) (x130004_1 : List Bool) (u130002 : Value) (u130003 : Value) (u130004 : Value),v31 = .int .i64 x31_1 ∧ Aside0 (water_groundOf.l0 kq (wrap64 (a0_0 * a0_1)) x31_1 a0_0 a0_1 l0_2 a0_0 a0_1 x130002_1 x130003_1 x130004_1 = some (r1,r2,r3,r4,r5,r6)) ∧ Aside0 (kq ≤ k) ∧ Aside0 (Kd.R (Kd.int .i64) 3 w' w.heap.size (fun k_ => some k_ ≠ (u130003 : Value).ownBlock) u130002 x130002_1) ∧ Aside0 (Kd.R (Kd.int .i64) 3 w' w.heap.size (fun k_ => some k_ ≠ (u130002 : Value).ownBlock) u130003 x130003_1) ∧ Aside0 (Kd.R Kd.bool 4 w' w.heap.size (fun _ => True) u130004 x130004_1) ∧ Aside0 (w'.heap[gb126]? = some (.cells #[.int .i64 a0_0,.int .i64 a0_1,(.slice A0_2 l0_2.length c0_2)] 24 (0,0))) ∧ Aside0 (w'.heap[gb127]? = some (.cells #[.int .i64 0,.int .i64 0,(.slice none 0 0),(.slice none 0 0),(.slice none 0 0)] 52 (0,0))) ∧ Aside0 (w'.heap[gb129]? = some (.cells #[.int .i64 a0_0,.int .i64 a0_1,u130002,u130003,u130004] 52 (0,0))) ∧ Aside0 (Below w.heap.size w w'))
 case atStart => exact ⟨(0),(([] : List Int)),(([] : List Int)),(([] : List Bool)),(.slice none 0 0),(.slice none 0 0),(.slice none 0 0),(by first|rfl|(simp;done)|(simp [*];done)),H',⟨Nat.le_refl _⟩,⟨by first|exact Kd.R_nil _ _ _ _ _|exact Kd.N_nil _ _ _ _ _|exact Kd.V_nil _ _ _ _ _|exact Kd.Q_nil _ _ _ _ _|exact Kd.S_nil _ _ _ _ _⟩,⟨by first|exact Kd.R_nil _ _ _ _ _|exact Kd.N_nil _ _ _ _ _|exact Kd.V_nil _ _ _ _ _|exact Kd.Q_nil _ _ _ _ _|exact Kd.S_nil _ _ _ _ _⟩,⟨by first|exact Kd.R_nil _ _ _ _ _|exact Kd.N_nil _ _ _ _ _|exact Kd.V_nil _ _ _ _ _|exact Kd.Q_nil _ _ _ _ _|exact Kd.S_nil _ _ _ _ _⟩,⟨by (with_reducible repeat (first|refine blk_drewN ?_ _|refine blk_drew ?_|refine blk_alloc ?_ _));refine blk_far ?_ NB126_129.out _;(with_reducible repeat (first|refine blk_drewN ?_ _|refine blk_drew ?_|refine blk_alloc ?_ _));refine blk_far ?_ NB126_129.out _;(with_reducible repeat (first|refine blk_drewN ?_ _|refine blk_drew ?_|refine blk_alloc ?_ _));refine blk_far ?_ NB126_129.out _;(with_reducible repeat (first|refine blk_drewN ?_ _|refine blk_drew ?_|refine blk_alloc ?_ _));refine blk_far ?_ NB126_129.out _;(with_reducible repeat (first|refine blk_drewN ?_ _|refine blk_drew ?_|refine blk_alloc ?_ _));refine blk_far ?_ NB126_129.out _;(with_reducible repeat (first|refine blk_drewN ?_ _|refine blk_drew ?_|refine blk_alloc ?_ _));exact BK126.out⟩,⟨by (with_reducible repeat (first|refine blk_drewN ?_ _|refine blk_drew ?_|refine blk_alloc ?_ _));refine blk_far ?_ NB127_129.out _;(with_reducible repeat (first|refine blk_drewN ?_ _|refine blk_drew ?_|refine blk_alloc ?_ _));refine blk_far ?_ NB127_129.out _;(with_reducible repeat (first|refine blk_drewN ?_ _|refine blk_drew ?_|refine blk_alloc ?_ _));refine blk_far ?_ NB127_129.out _;(with_reducible repeat (first|refine blk_drewN ?_ _|refine blk_drew ?_|refine blk_alloc ?_ _));refine blk_far ?_ NB127_129.out _;(with_reducible repeat (first|refine blk_drewN ?_ _|refine blk_drew ?_|refine blk_alloc ?_ _));refine blk_far ?_ NB127_129.out _;(with_reducible repeat (first|refine blk_drewN ?_ _|refine blk_drew ?_|refine blk_alloc ?_ _));exact BK127.out⟩,⟨by (with_reducible repeat (first|refine blk_drewN ?_ _|refine blk_drew ?_|refine blk_alloc ?_ _));exact blk_puts5 (blk_up BK129.out)⟩,⟨hb_⟩⟩
 case round =>
  clear H'
  obtain ⟨x31_1,x130002_1,x130003_1,x130004_1,u130002,u130003,u130004,rfl,HA,HK1,HO_130002,HO_130003,HO_130004,BK126,BK127,BK129,HB⟩:=hrel
  cases gk with
  | zero => exact absurd HA.out (by simp [water_groundOf.l0])
  | succ k1 =>
   have H:=HA.out
   clear HA
   simp only [water_groundOf.l0] at H
   by_cases c15 : x31_1 < (wrap64 (a0_0 * a0_1))
   rotate_left
   ·rw [if_neg c15] at H
    have c15b0 : decide (x31_1 < (wrap64 (a0_0 * a0_1))) = false:=decide_eq_false c15
    clear c15
    simp only [Option.some.injEq,Prod.mk.injEq] at H
    obtain ⟨rfl,rfl,rfl,rfl,rfl,rfl⟩:=H
    have hnb89:=NB129_126.out
    have hnc89:=NB126_129.out
    have hnb90:=NB129_127.out
    have hnc90:=NB127_129.out
    obtain ⟨hcz91_0,hcz91_1,hcz91_2,hcz91_3,hcz91_4,hfz91_0,hfz91_1,hfz91_2,hfz91_3,hfz91_4⟩:=cells5 BK129.out
    have hnb92:=NB127_126.out
    have hnc92:=NB126_127.out
    obtain ⟨hcz93_0,hcz93_1,hcz93_2,hcz93_3,hcz93_4,hfz93_0,hfz93_1,hfz93_2,hfz93_3,hfz93_4⟩:=cells5 BK127.out
    obtain ⟨Ao94,co94,eo94⟩:=Kd.R_slice HO_130002.out
    subst eo94
    obtain ⟨Ao95,co95,eo95⟩:=Kd.R_slice HO_130003.out
    subst eo95
    obtain ⟨Ao96,co96,eo96⟩:=Kd.R_slice HO_130004.out
    subst eo96
    go_wp2
    refine bodyPost_ret (results_ct rfl _ _ gb127 52 #[.int .i64 a0_0,.int .i64 a0_1,.slice Ao94 x130002_1.length co94,.slice Ao95 x130003_1.length co95,.slice Ao96 x130004_1.length co96] (0,0) _ rfl (by (with_reducible repeat (first|refine blk_drewN ?_ _|refine blk_drew ?_|refine blk_alloc ?_ _));exact blk_puts5 (blk_up BK127.out)) Try.underlying52 rfl (by kernel_rfl)) rfl ?_
    exact ⟨_,_,_,by first|rfl|(simp [errW_none,errW_some] <;> rfl)|(simp [*,errW_none,errW_some] <;> rfl),by (with_reducible repeat (first|apply Kd.R_alloc|apply Kd.R_drewN|apply Kd.R_drew));exact Kd.R_mono (Kd.R_fars gb127 (Kd.R_types HO_130002.out BK127.out (by decide)) (fun _ hk => hk.2)) (fun _ hk => hk.1),by (with_reducible repeat (first|apply Kd.R_alloc|apply Kd.R_drewN|apply Kd.R_drew));exact Kd.R_mono (Kd.R_fars gb127 (Kd.R_types HO_130003.out BK127.out (by decide)) (fun _ hk => hk.2)) (fun _ hk => hk.1),by (with_reducible repeat (first|apply Kd.R_alloc|apply Kd.R_drewN|apply Kd.R_drew));exact Kd.R_mono (Kd.R_fars gb127 (Kd.R_types HO_130004.out BK127.out (by decide)) (fun _ hk => hk.2)) (fun _ hk => trivial),hb_⟩
   rw [if_pos c15] at H
   have c15b0 : decide (x31_1 < (wrap64 (a0_0 * a0_1))) = true:=decide_eq_true c15
   clear c15
   replace H:=ifn_ H;obtain ⟨c16,H⟩:=H
   have c16b0 : (a0_0 == 0) = false:=beq_eq_false_iff_ne.mpr c16
   have c16b1 : (a0_0 != 0) = true:=bne_iff_ne.mpr c16
   obtain ⟨ji17,hji17⟩ : ∃ j_ : Int,(wrap64 ((wrap64 ((wrap64 (Int.tdiv x31_1 a0_0)) * (wrap64 (a0_0 + 1)))) + (Int.tmod x31_1 a0_0))) = j_:=⟨_,rfl⟩
   replace H : (if 0 ≤ (ji17) then (if (ji17) < (l0_2.length : Int) then (if 0 ≤ (wrap64 ((ji17) + 1)) then (if (wrap64 ((ji17) + 1)) < (l0_2.length : Int) then (if 0 ≤ (wrap64 ((wrap64 ((ji17) + a0_0)) + 2)) then (if (wrap64 ((wrap64 ((ji17) + a0_0)) + 2)) < (l0_2.length : Int) then (if 0 ≤ (wrap64 ((wrap64 ((ji17) + a0_0)) + 1)) then (if (wrap64 ((wrap64 ((ji17) + a0_0)) + 1)) < (l0_2.length : Int) then (water_groundOf.l1 k1 (mn (mn (mn (rd l0_2 (ji17)) (rd l0_2 (wrap64 ((ji17) + 1)))) (rd l0_2 (wrap64 ((wrap64 ((ji17) + a0_0)) + 2)))) (rd l0_2 (wrap64 ((wrap64 ((ji17) + a0_0)) + 1)))) 0 (wrap64 (a0_0 * a0_1)) x31_1 (⟨rd l0_2 (ji17),rd l0_2 (wrap64 ((ji17) + 1)),rd l0_2 (wrap64 ((wrap64 ((ji17) + a0_0)) + 2)),rd l0_2 (wrap64 ((wrap64 ((ji17) + a0_0)) + 1))⟩ : S71) 0 a0_0 a0_1 l0_2 a0_0 a0_1 x130002_1 x130003_1 x130004_1 (rd l0_2 (ji17)) (rd l0_2 (wrap64 ((ji17) + 1))) (rd l0_2 (wrap64 ((wrap64 ((ji17) + a0_0)) + 2))) (rd l0_2 (wrap64 ((wrap64 ((ji17) + a0_0)) + 1)))) else (none)) else (none)) else (none)) else (none)) else (none)) else (none)) else (none)) else (none)) = some (r1,r2,r3,r4,r5,r6):=by first|(rw [hji17] at H;exact H)|(simp only [hji17] at H ⊢;exact H)
   have hji17w : (IntKind.i64.wrap ((wrap64 ((wrap64 (Int.tdiv x31_1 a0_0)) * (wrap64 (a0_0 + 1)))) + (Int.tmod x31_1 a0_0))) = ji17:=(i64_w _).trans hji17
   replace H:=ifp_ H;obtain ⟨c18,H⟩:=H
   have c18b0 : decide (0 ≤ (ji17)) = true:=decide_eq_true c18
   clear c18
   replace H:=ifp_ H;obtain ⟨c19,H⟩:=H
   have c19b0 : decide ((ji17) < (l0_2.length : Int)) = true:=decide_eq_true c19
   clear c19
   obtain ⟨ji20,hji20⟩ : ∃ j_ : Int,(wrap64 ((ji17) + 1)) = j_:=⟨_,rfl⟩
   replace H : (if 0 ≤ (ji20) then (if (ji20) < (l0_2.length : Int) then (if 0 ≤ (wrap64 ((wrap64 ((ji17) + a0_0)) + 2)) then (if (wrap64 ((wrap64 ((ji17) + a0_0)) + 2)) < (l0_2.length : Int) then (if 0 ≤ (wrap64 ((wrap64 ((ji17) + a0_0)) + 1)) then (if (wrap64 ((wrap64 ((ji17) + a0_0)) + 1)) < (l0_2.length : Int) then (water_groundOf.l1 k1 (mn (mn (mn (rd l0_2 (ji17)) (rd l0_2 (ji20))) (rd l0_2 (wrap64 ((wrap64 ((ji17) + a0_0)) + 2)))) (rd l0_2 (wrap64 ((wrap64 ((ji17) + a0_0)) + 1)))) 0 (wrap64 (a0_0 * a0_1)) x31_1 (⟨rd l0_2 (ji17),rd l0_2 (ji20),rd l0_2 (wrap64 ((wrap64 ((ji17) + a0_0)) + 2)),rd l0_2 (wrap64 ((wrap64 ((ji17) + a0_0)) + 1))⟩ : S71) 0 a0_0 a0_1 l0_2 a0_0 a0_1 x130002_1 x130003_1 x130004_1 (rd l0_2 (ji17)) (rd l0_2 (ji20)) (rd l0_2 (wrap64 ((wrap64 ((ji17) + a0_0)) + 2))) (rd l0_2 (wrap64 ((wrap64 ((ji17) + a0_0)) + 1)))) else (none)) else (none)) else (none)) else (none)) else (none)) else (none)) = some (r1,r2,r3,r4,r5,r6):=by first|(rw [hji20] at H;exact H)|(simp only [hji20] at H ⊢;exact H)
   have hji20w : (IntKind.i64.wrap ((ji17) + 1)) = ji20:=(i64_w _).trans hji20
   replace H:=ifp_ H;obtain ⟨c21,H⟩:=H
   have c21b0 : decide (0 ≤ (ji20)) = true:=decide_eq_true c21
   clear c21
   replace H:=ifp_ H;obtain ⟨c22,H⟩:=H
   have c22b0 : decide ((ji20) < (l0_2.length : Int)) = true:=decide_eq_true c22
   clear c22
   obtain ⟨ji23,hji23⟩ : ∃ j_ : Int,(wrap64 ((wrap64 ((ji17) + a0_0)) + 2)) = j_:=⟨_,rfl⟩
   replace H : (if 0 ≤ (ji23) then (if (ji23) < (l0_2.length : Int) then (if 0 ≤ (wrap64 ((wrap64 ((ji17) + a0_0)) + 1)) then (if (wrap64 ((wrap64 ((ji17) + a0_0)) + 1)) < (l0_2.length : Int) then (water_groundOf.l1 k1 (mn (mn (mn (rd l0_2 (ji17)) (rd l0_2 (ji20))) (rd l0_2 (ji23))) (rd l0_2 (wrap64 ((wrap64 ((ji17) + a0_0)) + 1)))) 0 (wrap64 (a0_0 * a0_1)) x31_1 (⟨rd l0_2 (ji17),rd l0_2 (ji20),rd l0_2 (ji23),rd l0_2 (wrap64 ((wrap64 ((ji17) + a0_0)) + 1))⟩ : S71) 0 a0_0 a0_1 l0_2 a0_0 a0_1 x130002_1 x130003_1 x130004_1 (rd l0_2 (ji17)) (rd l0_2 (ji20)) (rd l0_2 (ji23)) (rd l0_2 (wrap64 ((wrap64 ((ji17) + a0_0)) + 1)))) else (none)) else (none)) else (none)) else (none)) = some (r1,r2,r3,r4,r5,r6):=by first|(rw [hji23] at H;exact H)|(simp only [hji23] at H ⊢;exact H)
   have hji23w : (IntKind.i64.wrap ((wrap64 ((ji17) + a0_0)) + 2)) = ji23:=(i64_w _).trans hji23
   replace H:=ifp_ H;obtain ⟨c24,H⟩:=H
   have c24b0 : decide (0 ≤ (ji23)) = true:=decide_eq_true c24
   clear c24
   replace H:=ifp_ H;obtain ⟨c25,H⟩:=H
   have c25b0 : decide ((ji23) < (l0_2.length : Int)) = true:=decide_eq_true c25
   clear c25
   obtain ⟨ji26,hji26⟩ : ∃ j_ : Int,(wrap64 ((wrap64 ((ji17) + a0_0)) + 1)) = j_:=⟨_,rfl⟩
   replace H : (if 0 ≤ (ji26) then (if (ji26) < (l0_2.length : Int) then (water_groundOf.l1 k1 (mn (mn (mn (rd l0_2 (ji17)) (rd l0_2 (ji20))) (rd l0_2 (ji23))) (rd l0_2 (ji26))) 0 (wrap64 (a0_0 * a0_1)) x31_1 (⟨rd l0_2 (ji17),rd l0_2 (ji20),rd l0_2 (ji23),rd l0_2 (ji26)⟩ : S71) 0 a0_0 a0_1 l0_2 a0_0 a0_1 x130002_1 x130003_1 x130004_1 (rd l0_2 (ji17)) (rd l0_2 (ji20)) (rd l0_2 (ji23)) (rd l0_2 (ji26))) else (none)) else (none)) = some (r1,r2,r3,r4,r5,r6):=by first|(rw [hji26] at H;exact H)|(simp only [hji26] at H ⊢;exact H)
   have hji26w : (IntKind.i64.wrap ((wrap64 ((ji17) + a0_0)) + 1)) = ji26:=(i64_w _).trans hji26
   replace H:=ifp_ H;obtain ⟨c27,H⟩:=H
   have c27b0 : decide (0 ≤ (ji26)) = true:=decide_eq_true c27
   clear c27
   replace H:=ifp_ H;obtain ⟨c28,H⟩:=H
   have c28b0 : decide ((ji26) < (l0_2.length : Int)) = true:=decide_eq_true c28
   clear c28
   obtain ⟨ji29,hji29⟩ : ∃ j_ : Int,(mn (rd l0_2 (ji17)) (rd l0_2 (ji20))) = j_:=⟨_,rfl⟩
   replace H : (water_groundOf.l1 k1 (mn (mn (ji29) (rd l0_2 (ji23))) (rd l0_2 (ji26))) 0 (wrap64 (a0_0 * a0_1)) x31_1 (⟨rd l0_2 (ji17),rd l0_2 (ji20),rd l0_2 (ji23),rd l0_2 (ji26)⟩ : S71) 0 a0_0 a0_1 l0_2 a0_0 a0_1 x130002_1 x130003_1 x130004_1 (rd l0_2 (ji17)) (rd l0_2 (ji20)) (rd l0_2 (ji23)) (rd l0_2 (ji26))) = some (r1,r2,r3,r4,r5,r6):=by first|(rw [hji29] at H;exact H)|(simp only [hji29] at H ⊢;exact H)
   have hji29_ : (if (rd l0_2 (ji20)) < (rd l0_2 (ji17)) then (rd l0_2 (ji20)) else (rd l0_2 (ji17))) = ji29:=hji29
   obtain ⟨ji30,hji30⟩ : ∃ j_ : Int,(mn (ji29) (rd l0_2 (ji23))) = j_:=⟨_,rfl⟩
   replace H : (water_groundOf.l1 k1 (mn (ji30) (rd l0_2 (ji26))) 0 (wrap64 (a0_0 * a0_1)) x31_1 (⟨rd l0_2 (ji17),rd l0_2 (ji20),rd l0_2 (ji23),rd l0_2 (ji26)⟩ : S71) 0 a0_0 a0_1 l0_2 a0_0 a0_1 x130002_1 x130003_1 x130004_1 (rd l0_2 (ji17)) (rd l0_2 (ji20)) (rd l0_2 (ji23)) (rd l0_2 (ji26))) = some (r1,r2,r3,r4,r5,r6):=by first|(rw [hji30] at H;exact H)|(simp only [hji30] at H ⊢;exact H)
   have hji30_ : (if (rd l0_2 (ji23)) < (ji29) then (rd l0_2 (ji23)) else (ji29)) = ji30:=hji30
   obtain ⟨ji31,hji31⟩ : ∃ j_ : Int,(mn (ji30) (rd l0_2 (ji26))) = j_:=⟨_,rfl⟩
   replace H : (water_groundOf.l1 k1 ji31 0 (wrap64 (a0_0 * a0_1)) x31_1 (⟨rd l0_2 (ji17),rd l0_2 (ji20),rd l0_2 (ji23),rd l0_2 (ji26)⟩ : S71) 0 a0_0 a0_1 l0_2 a0_0 a0_1 x130002_1 x130003_1 x130004_1 (rd l0_2 (ji17)) (rd l0_2 (ji20)) (rd l0_2 (ji23)) (rd l0_2 (ji26))) = some (r1,r2,r3,r4,r5,r6):=by first|(rw [hji31] at H;exact H)|(simp only [hji31] at H ⊢;exact H)
   have hji31_ : (if (rd l0_2 (ji26)) < (ji30) then (rd l0_2 (ji26)) else (ji30)) = ji31:=hji31
   have H':=Aside0.mk H
   clear H
   try go_wp2
   replace HO_130002:=Aside0.mk (Kd.R_drew HO_130002.out)
   replace HO_130003:=Aside0.mk (Kd.R_drew HO_130003.out)
   replace HO_130004:=Aside0.mk (Kd.R_drew HO_130004.out)
   replace BK126:=Aside0.mk (blk_drew BK126.out)
   replace BK127:=Aside0.mk (blk_drew BK127.out)
   replace BK129:=Aside0.mk (blk_drew BK129.out)
   replace HB:=Aside0.mk (below_drew1 HB.out)
   refine start_ (n:=10) (S:=fun w' => w'.cell? ⟨gb126,0,none⟩ = some (.int .i64 a0_0) ∧ w'.cell? ⟨gb126,1,none⟩ = some (.int .i64 a0_1) ∧ w'.cell? ⟨gb126,2,none⟩ = some (.slice A0_2 l0_2.length c0_2)) (ds:=[]) #[false,false,false,false,false,false,false,false,false,false] (by kernel_rfl) rfl rfl ⟨(blk_cell BK126.out 0).trans rfl,(blk_cell BK126.out 1).trans rfl,(blk_cell BK126.out 2).trans rfl⟩ (fun hHeld => ?_);refine with_tabW water_groundOf.tab8 water_groundOf.bits8 (fun HT_ HW_ => ?_)
   generalize wr.drew = w32 at HO_130002 HO_130003 HO_130004 BK126 BK127 BK129 HB hHeld ⊢
   refine pI 0 (some 34) ?_
   refine pI 1 (some 35) ?_
   refine pI 4 (some 38) ?_
   refine pI 5 (some 39) ?_
   refine tI3 2 (some 36) hHeld ?_
   refine pI 3 (some 37) ?_
   refine pI 8 (some 7) ?_
   refine tI3 6 (some 40) hHeld ?_
   refine pI 7 (some 41) ?_
   refine pI 9 (some 8) ?_
   refine done_ (done_of HT_.out (by kernel_rfl)) ?_
   have hnb33:=NB126_127.out
   have hnc33:=NB127_126.out
   have hnb34:=NB126_129.out
   have hnc34:=NB129_126.out
   obtain ⟨hcz35_0,hcz35_1,hcz35_2,hfz35_0,hfz35_1,hfz35_2⟩:=cells3 BK126.out
   try go_wp2
   replace HO_130002:=Aside0.mk (Kd.R_drew HO_130002.out)
   replace HO_130003:=Aside0.mk (Kd.R_drew HO_130003.out)
   replace HO_130004:=Aside0.mk (Kd.R_drew HO_130004.out)
   replace BK126:=Aside0.mk (blk_drew BK126.out)
   replace BK127:=Aside0.mk (blk_drew BK127.out)
   replace BK129:=Aside0.mk (blk_drew BK129.out)
   replace HB:=Aside0.mk (below_drew1 HB.out)
   have p130 : 0 ≤ ((ji17) : Int):=of_decide_eq_true (by first|(with_reducible assumption)|assumption)
   have q130 : (ji17) < (l0_2.length : Int):=of_decide_eq_true (by first|(with_reducible assumption)|assumption)
   obtain ⟨ad130,e130,hx130_0⟩:=Kd.at_int HR0_2.out (ji17) p130 q130
   have hw130_0:=hx130_0
   cases e130
   replace hx130_0:=(HB.out.cell (World.block_lt_of_cell? w _ hx130_0)).trans hx130_0
   replace p130:=eq_true p130
   replace q130:=eq_true q130
   have p131 : 0 ≤ ((ji20) : Int):=of_decide_eq_true (by first|(with_reducible assumption)|assumption)
   have q131 : (ji20) < (l0_2.length : Int):=of_decide_eq_true (by first|(with_reducible assumption)|assumption)
   obtain ⟨ad131,e131,hx131_0⟩:=Kd.at_int HR0_2.out (ji20) p131 q131
   have hw131_0:=hx131_0
   obtain rfl : ad130 = ad131:=(by injection e131)
   replace hx131_0:=(HB.out.cell (World.block_lt_of_cell? w _ hx131_0)).trans hx131_0
   replace p131:=eq_true p131
   replace q131:=eq_true q131
   have p132 : 0 ≤ ((ji23) : Int):=of_decide_eq_true (by first|(with_reducible assumption)|assumption)
   have q132 : (ji23) < (l0_2.length : Int):=of_decide_eq_true (by first|(with_reducible assumption)|assumption)
   obtain ⟨ad132,e132,hx132_0⟩:=Kd.at_int HR0_2.out (ji23) p132 q132
   have hw132_0:=hx132_0
   obtain rfl : ad130 = ad132:=(by injection e132)
   replace hx132_0:=(HB.out.cell (World.block_lt_of_cell? w _ hx132_0)).trans hx132_0
   replace p132:=eq_true p132
   replace q132:=eq_true q132
   have p133 : 0 ≤ ((ji26) : Int):=of_decide_eq_true (by first|(with_reducible assumption)|assumption)
   have q133 : (ji26) < (l0_2.length : Int):=of_decide_eq_true (by first|(with_reducible assumption)|assumption)
   obtain ⟨ad133,e133,hx133_0⟩:=Kd.at_int HR0_2.out (ji26) p133 q133
   have hw133_0:=hx133_0
   obtain rfl : ad130 = ad133:=(by injection e133)
   replace hx133_0:=(HB.out.cell (World.block_lt_of_cell? w _ hx133_0)).trans hx133_0
   replace p133:=eq_true p133
   replace q133:=eq_true q133
   refine start_ (n:=32) (S:=fun w' => w'.cell? ⟨gb126,0,none⟩ = some (.int .i64 a0_0) ∧ w'.cell? ⟨gb126,1,none⟩ = some (.int .i64 a0_1) ∧ w'.cell? ⟨gb126,2,none⟩ = some (.slice (some ad130) l0_2.length c0_2) ∧ w'.cell? (ad130.add ((ji17)).toNat) = some (.int .i64 (rd l0_2 (ji17))) ∧ w'.cell? (ad130.add ((ji20)).toNat) = some (.int .i64 (rd l0_2 (ji20))) ∧ w'.cell? (ad130.add ((ji23)).toNat) = some (.int .i64 (rd l0_2 (ji23))) ∧ w'.cell? (ad130.add ((ji26)).toNat) = some (.int .i64 (rd l0_2 (ji26)))) (ds:=[]) #[false,false,false,false,false,false,false,false,false,false,false,false,false,false,false,false,false,false,false,false,false,false,false,false,false,false,false,false,false,false,false,false] (by kernel_rfl) rfl rfl ⟨(blk_cell BK126.out 0).trans rfl,(blk_cell BK126.out 1).trans rfl,(blk_cell BK126.out 2).trans rfl,((HB.out.cell (World.block_lt_of_cell? w _ hw130_0)).trans hw130_0),((HB.out.cell (World.block_lt_of_cell? w _ hw131_0)).trans hw131_0),((HB.out.cell (World.block_lt_of_cell? w _ hw132_0)).trans hw132_0),((HB.out.cell (World.block_lt_of_cell? w _ hw133_0)).trans hw133_0)⟩ (fun hHeld => ?_);refine with_tabW water_groundOf.tab10 water_groundOf.bits10 (fun HT_ HW_ => ?_)
   generalize w32.drew = w36 at HO_130002 HO_130003 HO_130004 BK126 BK127 BK129 HB hx130_0 hx131_0 hx132_0 hx133_0 hHeld ⊢
   refine pI 0 (some 49) ?_
   refine pI 2 (some 51) ?_
   refine pI 5 (some 54) ?_
   refine pI 7 (some 56) ?_
   refine pI 8 (some 57) ?_
   refine pI 11 (some 60) ?_
   refine pI 13 (some 62) ?_
   refine pI 14 (some 63) ?_
   refine pI 20 (some 69) ?_
   refine pI 22 (some 71) ?_
   refine pI 23 (some 72) ?_
   refine tI7 1 (some 50) hHeld ?_
   refine pI 3 (some 52) ?_
   refine tI7 4 (some 53) hHeld ?_
   refine tI7 6 (some 55) hHeld ?_
   refine pI 9 (some 58) ?_
   refine tI7 10 (some 59) hHeld ?_
   refine tI7 12 (some 61) hHeld ?_
   refine tI7 15 (some 64) hHeld ?_
   refine pI 16 (some 65) ?_
   refine pI 17 (some 66) ?_
   refine pI 18 (some 67) ?_
   refine tI7 19 (some 68) hHeld ?_
   refine tI7 21 (some 70) hHeld ?_
   refine tI7 24 (some 73) hHeld ?_
   refine pI 25 (some 74) ?_
   refine pI 26 (some 75) ?_
   refine pI 27 (some 76) ?_
   refine tI7 28 (some 77) hHeld ?_
   refine pI 29 (some 78) ?_
   refine oI 30 (some 10) (fun K hK => ?_)
   refine box_step ?hg (N:=10) ?hd (cs:=#[.int .i64 0,.int .i64 0,.int .i64 0,.int .i64 0]) (t:=71) ?hr ?_;(case hd => rfl);(case hg => rfl);(case hr => first|(go_simp;done)|(go_simp;rfl))
   intro gb134 hg w37 hbox hb
   have n0_:=rbw HO_130002 hb
   have n1_:=rbw HO_130003 hb
   have n2_:=rbw HO_130004 hb
   have n3_:=bkb BK126 hb
   have n4_:=bkb BK127 hb
   have n5_:=bkb BK129 hb
   have n6_:=Aside0.mk (below_step (hb_) hb)
   have n7_:=Aside0.mk (hbox)
   have n8_:=Aside0.mk ((by rw [hg];exact (below_size (hb_)) : w.heap.size ≤ gb134))
   have n9_:=Aside0.mk ((by rw [hg];exact (below_size (hb_)) : w.heap.size ≤ gb134))
   have n10_:=Aside0.mk ((by rw [hg];exact Nat.ne_of_lt (blk_lt (blk_up BK126.out)) : gb126 ≠ gb134))
   have n11_:=Aside0.mk ((by rw [hg];exact Nat.ne_of_gt (blk_lt (blk_up BK126.out)) : gb134 ≠ gb126))
   have n12_:=Aside0.mk ((by rw [hg];exact Nat.ne_of_lt (blk_lt (blk_up BK127.out)) : gb127 ≠ gb134))
   have n13_:=Aside0.mk ((by rw [hg];exact Nat.ne_of_gt (blk_lt (blk_up BK127.out)) : gb134 ≠ gb127))
   have n14_:=Aside0.mk ((by rw [hg];exact Nat.ne_of_lt (blk_lt (blk_up BK129.out)) : gb129 ≠ gb134))
   have n15_:=Aside0.mk ((by rw [hg];exact Nat.ne_of_gt (blk_lt (blk_up BK129.out)) : gb134 ≠ gb129))
   clear HO_130002
   clear HO_130003
   clear HO_130004
   clear BK126
   clear BK127
   clear BK129
   clear HB
   have HO_130002:=n0_
   have HO_130003:=n1_
   have HO_130004:=n2_
   have BK126:=n3_
   have BK127:=n4_
   have BK129:=n5_
   have HB:=n6_
   have BK134:=n7_
   have GW134:=n8_
   have GE134:=n9_
   have NB126_134:=n10_
   have NB134_126:=n11_
   have NB127_134:=n12_
   have NB134_127:=n13_
   have NB129_134:=n14_
   have NB134_129:=n15_
   clear n0_ n1_ n2_ n3_ n4_ n5_ n6_ n7_ n8_ n9_ n10_ n11_ n12_ n13_ n14_ n15_
   clear hb hbox hg
   refine hK.out _ _ ⟨(blk_cell BK126.out 0).trans rfl,(blk_cell BK126.out 1).trans rfl,(blk_cell BK126.out 2).trans rfl,((HB.out.cell (World.block_lt_of_cell? w _ hw130_0)).trans hw130_0),((HB.out.cell (World.block_lt_of_cell? w _ hw131_0)).trans hw131_0),((HB.out.cell (World.block_lt_of_cell? w _ hw132_0)).trans hw132_0),((HB.out.cell (World.block_lt_of_cell? w _ hw133_0)).trans hw133_0)⟩ (fun hHeld => ?_)
   clear hK K
   refine norm_ (a':=?_) ?_ ?_
   rotate_left
   ·show Act.put _ (some 10) _ = _
    simp only [Act.put,List.setIfInBounds_toArray,List.set_cons_zero,List.set_cons_succ,i64_w,i32_w]
    rfl
   refine oI 31 (none) (fun K hK => ?_)
   have hs38 : w37.cell? ⟨gb134,0,none⟩ = some (.int .i64 0):=(blk_cell BK134.out 0).trans rfl
   have hfs38:=blk_frozen BK134.out 0
   have hns38_0:=NB126_134.out
   have hns38_1:=NB127_134.out
   have hns38_2:=NB129_134.out
   have hms38_0:=NB134_126.out
   have hms38_1:=NB134_127.out
   have hms38_2:=NB134_129.out
   have hs39 : w37.cell? ⟨gb134,1,none⟩ = some (.int .i64 0):=(blk_cell BK134.out 1).trans rfl
   have hfs39:=blk_frozen BK134.out 1
   have hns39_0:=NB126_134.out
   have hns39_1:=NB127_134.out
   have hns39_2:=NB129_134.out
   have hms39_0:=NB134_126.out
   have hms39_1:=NB134_127.out
   have hms39_2:=NB134_129.out
   have hs40 : w37.cell? ⟨gb134,2,none⟩ = some (.int .i64 0):=(blk_cell BK134.out 2).trans rfl
   have hfs40:=blk_frozen BK134.out 2
   have hns40_0:=NB126_134.out
   have hns40_1:=NB127_134.out
   have hns40_2:=NB129_134.out
   have hms40_0:=NB134_126.out
   have hms40_1:=NB134_127.out
   have hms40_2:=NB134_129.out
   have hs41 : w37.cell? ⟨gb134,3,none⟩ = some (.int .i64 0):=(blk_cell BK134.out 3).trans rfl
   have hfs41:=blk_frozen BK134.out 3
   have hns41_0:=NB126_134.out
   have hns41_1:=NB127_134.out
   have hns41_2:=NB129_134.out
   have hms41_0:=NB134_126.out
   have hms41_1:=NB134_127.out
   have hms41_2:=NB134_129.out
   refine skip_ (w1:=?_) (by rfl) rfl ?_ ?_
   rotate_left
   ·go_simp
    rfl
   refine hK.out _ _ ⟨((cell_far (p:=⟨gb134,_,none⟩) NB126_134.out _).trans (((cell_far (p:=⟨gb134,_,none⟩) NB126_134.out _).trans (((cell_far (p:=⟨gb134,_,none⟩) NB126_134.out _).trans (((cell_far (p:=⟨gb134,_,none⟩) NB126_134.out _).trans (hHeld.1)))))))),((cell_far (p:=⟨gb134,_,none⟩) NB126_134.out _).trans (((cell_far (p:=⟨gb134,_,none⟩) NB126_134.out _).trans (((cell_far (p:=⟨gb134,_,none⟩) NB126_134.out _).trans (((cell_far (p:=⟨gb134,_,none⟩) NB126_134.out _).trans (hHeld.2.1)))))))),((cell_far (p:=⟨gb134,_,none⟩) NB126_134.out _).trans (((cell_far (p:=⟨gb134,_,none⟩) NB126_134.out _).trans (((cell_far (p:=⟨gb134,_,none⟩) NB126_134.out _).trans (((cell_far (p:=⟨gb134,_,none⟩) NB126_134.out _).trans (hHeld.2.2.1)))))))),((cell_far (p:=⟨gb134,_,none⟩) (by first|exact Nat.ne_of_lt (Nat.lt_of_lt_of_le (by have:=World.block_lt_of_cell? _ _ hw130_0;first|rwa [add_block] at this|exact this) GW134.out)|(rw [add_block];exact Nat.ne_of_lt (Nat.lt_of_lt_of_le (by have:=World.block_lt_of_cell? _ _ hw130_0;first|rwa [add_block] at this|exact this) GW134.out))|(show (Addr.add _ _).block ≠ _;rw [add_block];exact Nat.ne_of_lt (Nat.lt_of_lt_of_le (by have:=World.block_lt_of_cell? _ _ hw130_0;first|rwa [add_block] at this|exact this) GW134.out))|(dsimp only;exact Nat.ne_of_lt (Nat.lt_of_lt_of_le (by have:=World.block_lt_of_cell? _ _ hw130_0;first|rwa [add_block] at this|exact this) GW134.out))) _).trans (((cell_far (p:=⟨gb134,_,none⟩) (by first|exact Nat.ne_of_lt (Nat.lt_of_lt_of_le (by have:=World.block_lt_of_cell? _ _ hw130_0;first|rwa [add_block] at this|exact this) GW134.out)|(rw [add_block];exact Nat.ne_of_lt (Nat.lt_of_lt_of_le (by have:=World.block_lt_of_cell? _ _ hw130_0;first|rwa [add_block] at this|exact this) GW134.out))|(show (Addr.add _ _).block ≠ _;rw [add_block];exact Nat.ne_of_lt (Nat.lt_of_lt_of_le (by have:=World.block_lt_of_cell? _ _ hw130_0;first|rwa [add_block] at this|exact this) GW134.out))|(dsimp only;exact Nat.ne_of_lt (Nat.lt_of_lt_of_le (by have:=World.block_lt_of_cell? _ _ hw130_0;first|rwa [add_block] at this|exact this) GW134.out))) _).trans (((cell_far (p:=⟨gb134,_,none⟩) (by first|exact Nat.ne_of_lt (Nat.lt_of_lt_of_le (by have:=World.block_lt_of_cell? _ _ hw130_0;first|rwa [add_block] at this|exact this) GW134.out)|(rw [add_block];exact Nat.ne_of_lt (Nat.lt_of_lt_of_le (by have:=World.block_lt_of_cell? _ _ hw130_0;first|rwa [add_block] at this|exact this) GW134.out))|(show (Addr.add _ _).block ≠ _;rw [add_block];exact Nat.ne_of_lt (Nat.lt_of_lt_of_le (by have:=World.block_lt_of_cell? _ _ hw130_0;first|rwa [add_block] at this|exact this) GW134.out))|(dsimp only;exact Nat.ne_of_lt (Nat.lt_of_lt_of_le (by have:=World.block_lt_of_cell? _ _ hw130_0;first|rwa [add_block] at this|exact this) GW134.out))) _).trans (((cell_far (p:=⟨gb134,_,none⟩) (by first|exact Nat.ne_of_lt (Nat.lt_of_lt_of_le (by have:=World.block_lt_of_cell? _ _ hw130_0;first|rwa [add_block] at this|exact this) GW134.out)|(rw [add_block];exact Nat.ne_of_lt (Nat.lt_of_lt_of_le (by have:=World.block_lt_of_cell? _ _ hw130_0;first|rwa [add_block] at this|exact this) GW134.out))|(show (Addr.add _ _).block ≠ _;rw [add_block];exact Nat.ne_of_lt (Nat.lt_of_lt_of_le (by have:=World.block_lt_of_cell? _ _ hw130_0;first|rwa [add_block] at this|exact this) GW134.out))|(dsimp only;exact Nat.ne_of_lt (Nat.lt_of_lt_of_le (by have:=World.block_lt_of_cell? _ _ hw130_0;first|rwa [add_block] at this|exact this) GW134.out))) _).trans (hHeld.2.2.2.1)))))))),((cell_far (p:=⟨gb134,_,none⟩) (by first|exact Nat.ne_of_lt (Nat.lt_of_lt_of_le (by have:=World.block_lt_of_cell? _ _ hw131_0;first|rwa [add_block] at this|exact this) GW134.out)|(rw [add_block];exact Nat.ne_of_lt (Nat.lt_of_lt_of_le (by have:=World.block_lt_of_cell? _ _ hw131_0;first|rwa [add_block] at this|exact this) GW134.out))|(show (Addr.add _ _).block ≠ _;rw [add_block];exact Nat.ne_of_lt (Nat.lt_of_lt_of_le (by have:=World.block_lt_of_cell? _ _ hw131_0;first|rwa [add_block] at this|exact this) GW134.out))|(dsimp only;exact Nat.ne_of_lt (Nat.lt_of_lt_of_le (by have:=World.block_lt_of_cell? _ _ hw131_0;first|rwa [add_block] at this|exact this) GW134.out))) _).trans (((cell_far (p:=⟨gb134,_,none⟩) (by first|exact Nat.ne_of_lt (Nat.lt_of_lt_of_le (by have:=World.block_lt_of_cell? _ _ hw131_0;first|rwa [add_block] at this|exact this) GW134.out)|(rw [add_block];exact Nat.ne_of_lt (Nat.lt_of_lt_of_le (by have:=World.block_lt_of_cell? _ _ hw131_0;first|rwa [add_block] at this|exact this) GW134.out))|(show (Addr.add _ _).block ≠ _;rw [add_block];exact Nat.ne_of_lt (Nat.lt_of_lt_of_le (by have:=World.block_lt_of_cell? _ _ hw131_0;first|rwa [add_block] at this|exact this) GW134.out))|(dsimp only;exact Nat.ne_of_lt (Nat.lt_of_lt_of_le (by have:=World.block_lt_of_cell? _ _ hw131_0;first|rwa [add_block] at this|exact this) GW134.out))) _).trans (((cell_far (p:=⟨gb134,_,none⟩) (by first|exact Nat.ne_of_lt (Nat.lt_of_lt_of_le (by have:=World.block_lt_of_cell? _ _ hw131_0;first|rwa [add_block] at this|exact this) GW134.out)|(rw [add_block];exact Nat.ne_of_lt (Nat.lt_of_lt_of_le (by have:=World.block_lt_of_cell? _ _ hw131_0;first|rwa [add_block] at this|exact this) GW134.out))|(show (Addr.add _ _).block ≠ _;rw [add_block];exact Nat.ne_of_lt (Nat.lt_of_lt_of_le (by have:=World.block_lt_of_cell? _ _ hw131_0;first|rwa [add_block] at this|exact this) GW134.out))|(dsimp only;exact Nat.ne_of_lt (Nat.lt_of_lt_of_le (by have:=World.block_lt_of_cell? _ _ hw131_0;first|rwa [add_block] at this|exact this) GW134.out))) _).trans (((cell_far (p:=⟨gb134,_,none⟩) (by first|exact Nat.ne_of_lt (Nat.lt_of_lt_of_le (by have:=World.block_lt_of_cell? _ _ hw131_0;first|rwa [add_block] at this|exact this) GW134.out)|(rw [add_block];exact Nat.ne_of_lt (Nat.lt_of_lt_of_le (by have:=World.block_lt_of_cell? _ _ hw131_0;first|rwa [add_block] at this|exact this) GW134.out))|(show (Addr.add _ _).block ≠ _;rw [add_block];exact Nat.ne_of_lt (Nat.lt_of_lt_of_le (by have:=World.block_lt_of_cell? _ _ hw131_0;first|rwa [add_block] at this|exact this) GW134.out))|(dsimp only;exact Nat.ne_of_lt (Nat.lt_of_lt_of_le (by have:=World.block_lt_of_cell? _ _ hw131_0;first|rwa [add_block] at this|exact this) GW134.out))) _).trans (hHeld.2.2.2.2.1)))))))),((cell_far (p:=⟨gb134,_,none⟩) (by first|exact Nat.ne_of_lt (Nat.lt_of_lt_of_le (by have:=World.block_lt_of_cell? _ _ hw132_0;first|rwa [add_block] at this|exact this) GW134.out)|(rw [add_block];exact Nat.ne_of_lt (Nat.lt_of_lt_of_le (by have:=World.block_lt_of_cell? _ _ hw132_0;first|rwa [add_block] at this|exact this) GW134.out))|(show (Addr.add _ _).block ≠ _;rw [add_block];exact Nat.ne_of_lt (Nat.lt_of_lt_of_le (by have:=World.block_lt_of_cell? _ _ hw132_0;first|rwa [add_block] at this|exact this) GW134.out))|(dsimp only;exact Nat.ne_of_lt (Nat.lt_of_lt_of_le (by have:=World.block_lt_of_cell? _ _ hw132_0;first|rwa [add_block] at this|exact this) GW134.out))) _).trans (((cell_far (p:=⟨gb134,_,none⟩) (by first|exact Nat.ne_of_lt (Nat.lt_of_lt_of_le (by have:=World.block_lt_of_cell? _ _ hw132_0;first|rwa [add_block] at this|exact this) GW134.out)|(rw [add_block];exact Nat.ne_of_lt (Nat.lt_of_lt_of_le (by have:=World.block_lt_of_cell? _ _ hw132_0;first|rwa [add_block] at this|exact this) GW134.out))|(show (Addr.add _ _).block ≠ _;rw [add_block];exact Nat.ne_of_lt (Nat.lt_of_lt_of_le (by have:=World.block_lt_of_cell? _ _ hw132_0;first|rwa [add_block] at this|exact this) GW134.out))|(dsimp only;exact Nat.ne_of_lt (Nat.lt_of_lt_of_le (by have:=World.block_lt_of_cell? _ _ hw132_0;first|rwa [add_block] at this|exact this) GW134.out))) _).trans (((cell_far (p:=⟨gb134,_,none⟩) (by first|exact Nat.ne_of_lt (Nat.lt_of_lt_of_le (by have:=World.block_lt_of_cell? _ _ hw132_0;first|rwa [add_block] at this|exact this) GW134.out)|(rw [add_block];exact Nat.ne_of_lt (Nat.lt_of_lt_of_le (by have:=World.block_lt_of_cell? _ _ hw132_0;first|rwa [add_block] at this|exact this) GW134.out))|(show (Addr.add _ _).block ≠ _;rw [add_block];exact Nat.ne_of_lt (Nat.lt_of_lt_of_le (by have:=World.block_lt_of_cell? _ _ hw132_0;first|rwa [add_block] at this|exact this) GW134.out))|(dsimp only;exact Nat.ne_of_lt (Nat.lt_of_lt_of_le (by have:=World.block_lt_of_cell? _ _ hw132_0;first|rwa [add_block] at this|exact this) GW134.out))) _).trans (((cell_far (p:=⟨gb134,_,none⟩) (by first|exact Nat.ne_of_lt (Nat.lt_of_lt_of_le (by have:=World.block_lt_of_cell? _ _ hw132_0;first|rwa [add_block] at this|exact this) GW134.out)|(rw [add_block];exact Nat.ne_of_lt (Nat.lt_of_lt_of_le (by have:=World.block_lt_of_cell? _ _ hw132_0;first|rwa [add_block] at this|exact this) GW134.out))|(show (Addr.add _ _).block ≠ _;rw [add_block];exact Nat.ne_of_lt (Nat.lt_of_lt_of_le (by have:=World.block_lt_of_cell? _ _ hw132_0;first|rwa [add_block] at this|exact this) GW134.out))|(dsimp only;exact Nat.ne_of_lt (Nat.lt_of_lt_of_le (by have:=World.block_lt_of_cell? _ _ hw132_0;first|rwa [add_block] at this|exact this) GW134.out))) _).trans (hHeld.2.2.2.2.2.1)))))))),((cell_far (p:=⟨gb134,_,none⟩) (by first|exact Nat.ne_of_lt (Nat.lt_of_lt_of_le (by have:=World.block_lt_of_cell? _ _ hw133_0;first|rwa [add_block] at this|exact this) GW134.out)|(rw [add_block];exact Nat.ne_of_lt (Nat.lt_of_lt_of_le (by have:=World.block_lt_of_cell? _ _ hw133_0;first|rwa [add_block] at this|exact this) GW134.out))|(show (Addr.add _ _).block ≠ _;rw [add_block];exact Nat.ne_of_lt (Nat.lt_of_lt_of_le (by have:=World.block_lt_of_cell? _ _ hw133_0;first|rwa [add_block] at this|exact this) GW134.out))|(dsimp only;exact Nat.ne_of_lt (Nat.lt_of_lt_of_le (by have:=World.block_lt_of_cell? _ _ hw133_0;first|rwa [add_block] at this|exact this) GW134.out))) _).trans (((cell_far (p:=⟨gb134,_,none⟩) (by first|exact Nat.ne_of_lt (Nat.lt_of_lt_of_le (by have:=World.block_lt_of_cell? _ _ hw133_0;first|rwa [add_block] at this|exact this) GW134.out)|(rw [add_block];exact Nat.ne_of_lt (Nat.lt_of_lt_of_le (by have:=World.block_lt_of_cell? _ _ hw133_0;first|rwa [add_block] at this|exact this) GW134.out))|(show (Addr.add _ _).block ≠ _;rw [add_block];exact Nat.ne_of_lt (Nat.lt_of_lt_of_le (by have:=World.block_lt_of_cell? _ _ hw133_0;first|rwa [add_block] at this|exact this) GW134.out))|(dsimp only;exact Nat.ne_of_lt (Nat.lt_of_lt_of_le (by have:=World.block_lt_of_cell? _ _ hw133_0;first|rwa [add_block] at this|exact this) GW134.out))) _).trans (((cell_far (p:=⟨gb134,_,none⟩) (by first|exact Nat.ne_of_lt (Nat.lt_of_lt_of_le (by have:=World.block_lt_of_cell? _ _ hw133_0;first|rwa [add_block] at this|exact this) GW134.out)|(rw [add_block];exact Nat.ne_of_lt (Nat.lt_of_lt_of_le (by have:=World.block_lt_of_cell? _ _ hw133_0;first|rwa [add_block] at this|exact this) GW134.out))|(show (Addr.add _ _).block ≠ _;rw [add_block];exact Nat.ne_of_lt (Nat.lt_of_lt_of_le (by have:=World.block_lt_of_cell? _ _ hw133_0;first|rwa [add_block] at this|exact this) GW134.out))|(dsimp only;exact Nat.ne_of_lt (Nat.lt_of_lt_of_le (by have:=World.block_lt_of_cell? _ _ hw133_0;first|rwa [add_block] at this|exact this) GW134.out))) _).trans (((cell_far (p:=⟨gb134,_,none⟩) (by first|exact Nat.ne_of_lt (Nat.lt_of_lt_of_le (by have:=World.block_lt_of_cell? _ _ hw133_0;first|rwa [add_block] at this|exact this) GW134.out)|(rw [add_block];exact Nat.ne_of_lt (Nat.lt_of_lt_of_le (by have:=World.block_lt_of_cell? _ _ hw133_0;first|rwa [add_block] at this|exact this) GW134.out))|(show (Addr.add _ _).block ≠ _;rw [add_block];exact Nat.ne_of_lt (Nat.lt_of_lt_of_le (by have:=World.block_lt_of_cell? _ _ hw133_0;first|rwa [add_block] at this|exact this) GW134.out))|(dsimp only;exact Nat.ne_of_lt (Nat.lt_of_lt_of_le (by have:=World.block_lt_of_cell? _ _ hw133_0;first|rwa [add_block] at this|exact this) GW134.out))) _).trans (hHeld.2.2.2.2.2.2))))))))⟩ (fun hHeld => ?_)
   clear hK K
   refine done_ (done_of HT_.out (by kernel_rfl)) ?_
   have hnb42:=NB134_126.out
   have hnc42:=NB126_134.out
   have hnb43:=NB134_127.out
   have hnc43:=NB127_134.out
   have hnb44:=NB134_129.out
   have hnc44:=NB129_134.out
   obtain ⟨hcz45_0,hcz45_1,hcz45_2,hcz45_3,hfz45_0,hfz45_1,hfz45_2,hfz45_3⟩:=cells4 BK134.out
   try go_wp2
   go_loopg [12,89] k1 (fun kq v12 v89 w' => ∃ (x12_2 : Int) (x89_2 : Int),v12 = .int .i64 x12_2 ∧ v89 = .int .i64 x89_2 ∧ Aside0 (water_groundOf.l1 kq ji31 x12_2 (wrap64 (a0_0 * a0_1)) x31_1 (⟨rd l0_2 (ji17),rd l0_2 (ji20),rd l0_2 (ji23),rd l0_2 (ji26)⟩ : S71) x89_2 a0_0 a0_1 l0_2 a0_0 a0_1 x130002_1 x130003_1 x130004_1 (rd l0_2 (ji17)) (rd l0_2 (ji20)) (rd l0_2 (ji23)) (rd l0_2 (ji26)) = some (r1,r2,r3,r4,r5,r6)) ∧ Aside0 (kq ≤ k1) ∧ Aside0 (Kd.R (Kd.int .i64) 3 w' w.heap.size (fun k_ => some k_ ≠ (u130003 : Value).ownBlock) u130002 x130002_1) ∧ Aside0 (Kd.R (Kd.int .i64) 3 w' w.heap.size (fun k_ => some k_ ≠ (u130002 : Value).ownBlock) u130003 x130003_1) ∧ Aside0 (Kd.R Kd.bool 4 w' w.heap.size (fun _ => True) u130004 x130004_1) ∧ Aside0 (w'.heap[gb126]? = some (.cells #[.int .i64 a0_0,.int .i64 a0_1,(.slice (some ad130) l0_2.length c0_2)] 24 (0,0))) ∧ Aside0 (w'.heap[gb127]? = some (.cells #[.int .i64 0,.int .i64 0,(.slice none 0 0),(.slice none 0 0),(.slice none 0 0)] 52 (0,0))) ∧ Aside0 (w'.heap[gb129]? = some (.cells #[.int .i64 a0_0,.int .i64 a0_1,u130002,u130003,u130004] 52 (0,0))) ∧ Aside0 (w'.heap[gb134]? = some (.cells #[.int .i64 (rd l0_2 (ji17)),.int .i64 (rd l0_2 (ji20)),.int .i64 (rd l0_2 (ji23)),.int .i64 (rd l0_2 (ji26))] 71 (0,0))) ∧ Aside0 (Below w.heap.size w w'))
   case atStart => exact ⟨(0),(0),(by first|rfl|(simp;done)|(simp [*];done)),(by first|rfl|(simp;done)|(simp [*];done)),H',⟨Nat.le_refl _⟩,⟨by (with_reducible repeat (first|apply Kd.R_alloc|apply Kd.R_drewN|apply Kd.R_drew));exact Kd.R_mono (Kd.R_fars gb134 (Kd.R_types HO_130002.out BK134.out (by decide)) (fun _ hk => hk.2)) (fun _ hk => hk.1)⟩,⟨by (with_reducible repeat (first|apply Kd.R_alloc|apply Kd.R_drewN|apply Kd.R_drew));exact Kd.R_mono (Kd.R_fars gb134 (Kd.R_types HO_130003.out BK134.out (by decide)) (fun _ hk => hk.2)) (fun _ hk => hk.1)⟩,⟨by (with_reducible repeat (first|apply Kd.R_alloc|apply Kd.R_drewN|apply Kd.R_drew));exact Kd.R_mono (Kd.R_fars gb134 (Kd.R_types HO_130004.out BK134.out (by decide)) (fun _ hk => hk.2)) (fun _ hk => trivial)⟩,⟨by (with_reducible repeat (first|refine blk_drewN ?_ _|refine blk_drew ?_|refine blk_alloc ?_ _));refine blk_far ?_ NB126_134.out _;(with_reducible repeat (first|refine blk_drewN ?_ _|refine blk_drew ?_|refine blk_alloc ?_ _));refine blk_far ?_ NB126_134.out _;(with_reducible repeat (first|refine blk_drewN ?_ _|refine blk_drew ?_|refine blk_alloc ?_ _));refine blk_far ?_ NB126_134.out _;(with_reducible repeat (first|refine blk_drewN ?_ _|refine blk_drew ?_|refine blk_alloc ?_ _));refine blk_far ?_ NB126_134.out _;(with_reducible repeat (first|refine blk_drewN ?_ _|refine blk_drew ?_|refine blk_alloc ?_ _));exact BK126.out⟩,⟨by (with_reducible repeat (first|refine blk_drewN ?_ _|refine blk_drew ?_|refine blk_alloc ?_ _));refine blk_far ?_ NB127_134.out _;(with_reducible repeat (first|refine blk_drewN ?_ _|refine blk_drew ?_|refine blk_alloc ?_ _));refine blk_far ?_ NB127_134.out _;(with_reducible repeat (first|refine blk_drewN ?_ _|refine blk_drew ?_|refine blk_alloc ?_ _));refine blk_far ?_ NB127_134.out _;(with_reducible repeat (first|refine blk_drewN ?_ _|refine blk_drew ?_|refine blk_alloc ?_ _));refine blk_far ?_ NB127_134.out _;(with_reducible repeat (first|refine blk_drewN ?_ _|refine blk_drew ?_|refine blk_alloc ?_ _));exact BK127.out⟩,⟨by (with_reducible repeat (first|refine blk_drewN ?_ _|refine blk_drew ?_|refine blk_alloc ?_ _));refine blk_far ?_ NB129_134.out _;(with_reducible repeat (first|refine blk_drewN ?_ _|refine blk_drew ?_|refine blk_alloc ?_ _));refine blk_far ?_ NB129_134.out _;(with_reducible repeat (first|refine blk_drewN ?_ _|refine blk_drew ?_|refine blk_alloc ?_ _));refine blk_far ?_ NB129_134.out _;(with_reducible repeat (first|refine blk_drewN ?_ _|refine blk_drew ?_|refine blk_alloc ?_ _));refine blk_far ?_ NB129_134.out _;(with_reducible repeat (first|refine blk_drewN ?_ _|refine blk_drew ?_|refine blk_alloc ?_ _));exact BK129.out⟩,⟨by (with_reducible repeat (first|refine blk_drewN ?_ _|refine blk_drew ?_|refine blk_alloc ?_ _));exact blk_puts4 (blk_up BK134.out)⟩,⟨hb_⟩⟩
   case round =>
    clear H'
    obtain ⟨x12_2,x89_2,rfl,rfl,HA,HK2,HO_130002,HO_130003,HO_130004,BK126,BK127,BK129,BK134,HB⟩:=hrel
    cases gk with
    | zero => exact absurd HA.out (by simp [water_groundOf.l1])
    | succ k2 =>
     have H:=HA.out
     clear HA
     simp only [water_groundOf.l1] at H
     by_cases c46 : x89_2 < 4
     ·rw [if_pos c46] at H
      have c46b0 : decide (x89_2 < 4) = true:=decide_eq_true c46
      clear c46
      replace H:=ifp_ H;obtain ⟨c47,H⟩:=H
      have c47b0 : decide (0 ≤ x89_2) = true:=decide_eq_true c47
      clear c47
      have hix48:=fun (W_ : World) => (ix71_run (rd l0_2 (ji17)) (rd l0_2 (ji20)) (rd l0_2 (ji23)) (rd l0_2 (ji26)) x89_2 (of_decide_eq_true (by first|(with_reducible assumption)|assumption)) (of_decide_eq_true (by first|(with_reducible assumption)|assumption)) W_ : (Instr.index 71 (.agg #[.int .i64 (rd l0_2 (ji17)),.int .i64 (rd l0_2 (ji20)),.int .i64 (rd l0_2 (ji23)),.int .i64 (rd l0_2 (ji26))]) (.int .i64 x89_2)).run Try.prog W_ = .ok (.int .i64 (ix71 (⟨rd l0_2 (ji17),rd l0_2 (ji20),rd l0_2 (ji23),rd l0_2 (ji26)⟩ : S71) x89_2)) W_)
      by_cases c49 : (ix71 (⟨rd l0_2 (ji17),rd l0_2 (ji20),rd l0_2 (ji23),rd l0_2 (ji26)⟩ : S71) x89_2) > ji31
      ·rw [if_pos c49] at H
       have c49b0 : decide (ji31 < (ix71 (⟨rd l0_2 (ji17),rd l0_2 (ji20),rd l0_2 (ji23),rd l0_2 (ji26)⟩ : S71) x89_2)) = true:=decide_eq_true c49
       clear c49
       have c50b0:=eq_true (of_decide_eq_true (by first|(with_reducible assumption)|assumption) : 0 ≤ x89_2)
       obtain ⟨ji51,hji51⟩ : ∃ j_ : Int,(shl .i64 1 x89_2) = j_:=⟨_,rfl⟩
       replace H : (if (ix71 (⟨rd l0_2 (ji17),rd l0_2 (ji20),rd l0_2 (ji23),rd l0_2 (ji26)⟩ : S71) x89_2) > (wrap64 (ji31 + 1)) then (water_groundOf.l1 k2 ji31 (Go.bits .or .i64 (Go.bits .or .i64 x12_2 (ji51)) 16) (wrap64 (a0_0 * a0_1)) x31_1 (⟨rd l0_2 (ji17),rd l0_2 (ji20),rd l0_2 (ji23),rd l0_2 (ji26)⟩ : S71) (wrap64 (x89_2 + 1)) a0_0 a0_1 l0_2 a0_0 a0_1 x130002_1 x130003_1 x130004_1 (rd l0_2 (ji17)) (rd l0_2 (ji20)) (rd l0_2 (ji23)) (rd l0_2 (ji26))) else (water_groundOf.l1 k2 ji31 (Go.bits .or .i64 x12_2 (ji51)) (wrap64 (a0_0 * a0_1)) x31_1 (⟨rd l0_2 (ji17),rd l0_2 (ji20),rd l0_2 (ji23),rd l0_2 (ji26)⟩ : S71) (wrap64 (x89_2 + 1)) a0_0 a0_1 l0_2 a0_0 a0_1 x130002_1 x130003_1 x130004_1 (rd l0_2 (ji17)) (rd l0_2 (ji20)) (rd l0_2 (ji23)) (rd l0_2 (ji26)))) = some (r1,r2,r3,r4,r5,r6):=by first|(rw [hji51] at H;exact H)|(simp only [hji51] at H ⊢;exact H)
       have hji51_ : (IntKind.i64.wrap (1 * 2 ^ min x89_2.toNat 64)) = ji51:=hji51
       have hji51z : x89_2 ≤ 64 → (IntKind.i64.wrap (1 * 2 ^ x89_2.toNat)) = ji51:=shl_small hji51
       have hji51u : (IntKind.i64.wrap (2 ^ min x89_2.toNat 64)) = ji51:=by have h_:=hji51_;rw [Int.one_mul] at h_;exact h_
       have hji51v : x89_2 ≤ 64 → (IntKind.i64.wrap (2 ^ x89_2.toNat)) = ji51:=fun hle_ => by have h_:=hji51z hle_;rw [Int.one_mul] at h_;exact h_
       have hji51y : (wrap64 (1 * 2 ^ min x89_2.toNat 64)) = ji51:=(i64_w _).symm.trans hji51_
       have hji51x : x89_2 ≤ 64 → (wrap64 (1 * 2 ^ x89_2.toNat)) = ji51:=fun h_ => (i64_w _).symm.trans (hji51z h_)
       by_cases c52 : (ix71 (⟨rd l0_2 (ji17),rd l0_2 (ji20),rd l0_2 (ji23),rd l0_2 (ji26)⟩ : S71) x89_2) > (wrap64 (ji31 + 1))
       ·rw [if_pos c52] at H
        have c52b0 : decide ((wrap64 (ji31 + 1)) < (ix71 (⟨rd l0_2 (ji17),rd l0_2 (ji20),rd l0_2 (ji23),rd l0_2 (ji26)⟩ : S71) x89_2)) = true:=decide_eq_true c52
        clear c52
        have H':=Aside0.mk H
        clear H
        go_wp2
        go_roundg k2
        case measure => have:=HK1.out;have:=HK2.out;omega
        case rel => exact ⟨(Go.bits .or .i64 (Go.bits .or .i64 x12_2 (ji51)) 16),(wrap64 (x89_2 + 1)),(by first|rfl|(simp;done)|(simp only [← hji51] <;> (first|rfl|simp))|(simp [*];done)),(by first|rfl|(simp;done)|(simp [*];done)),H',⟨by have:=HK1.out;have:=HK2.out;omega⟩,⟨Kd.R_up HO_130002.out⟩,⟨Kd.R_up HO_130003.out⟩,⟨Kd.R_up HO_130004.out⟩,⟨blk_up BK126.out⟩,⟨blk_up BK127.out⟩,⟨blk_up BK129.out⟩,⟨blk_up BK134.out⟩,⟨hb_⟩⟩
       ·rw [if_neg c52] at H
        have c52b0 : decide ((wrap64 (ji31 + 1)) < (ix71 (⟨rd l0_2 (ji17),rd l0_2 (ji20),rd l0_2 (ji23),rd l0_2 (ji26)⟩ : S71) x89_2)) = false:=decide_eq_false c52
        clear c52
        have H':=Aside0.mk H
        clear H
        go_wp2
        go_roundg k2
        case measure => have:=HK1.out;have:=HK2.out;omega
        case rel => exact ⟨(Go.bits .or .i64 x12_2 (ji51)),(wrap64 (x89_2 + 1)),(by first|rfl|(simp;done)|(simp only [← hji51] <;> (first|rfl|simp))|(simp [*];done)),(by first|rfl|(simp;done)|(simp [*];done)),H',⟨by have:=HK1.out;have:=HK2.out;omega⟩,⟨Kd.R_up HO_130002.out⟩,⟨Kd.R_up HO_130003.out⟩,⟨Kd.R_up HO_130004.out⟩,⟨blk_up BK126.out⟩,⟨blk_up BK127.out⟩,⟨blk_up BK129.out⟩,⟨blk_up BK134.out⟩,⟨hb_⟩⟩
      ·rw [if_neg c49] at H
       have c49b0 : decide (ji31 < (ix71 (⟨rd l0_2 (ji17),rd l0_2 (ji20),rd l0_2 (ji23),rd l0_2 (ji26)⟩ : S71) x89_2)) = false:=decide_eq_false c49
       clear c49
       by_cases c53 : (ix71 (⟨rd l0_2 (ji17),rd l0_2 (ji20),rd l0_2 (ji23),rd l0_2 (ji26)⟩ : S71) x89_2) > (wrap64 (ji31 + 1))
       ·rw [if_pos c53] at H
        have c53b0 : decide ((wrap64 (ji31 + 1)) < (ix71 (⟨rd l0_2 (ji17),rd l0_2 (ji20),rd l0_2 (ji23),rd l0_2 (ji26)⟩ : S71) x89_2)) = true:=decide_eq_true c53
        clear c53
        have H':=Aside0.mk H
        clear H
        go_wp2
        go_roundg k2
        case measure => have:=HK1.out;have:=HK2.out;omega
        case rel => exact ⟨(Go.bits .or .i64 x12_2 16),(wrap64 (x89_2 + 1)),(by first|rfl|(simp;done)|(simp [*];done)),(by first|rfl|(simp;done)|(simp [*];done)),H',⟨by have:=HK1.out;have:=HK2.out;omega⟩,⟨Kd.R_up HO_130002.out⟩,⟨Kd.R_up HO_130003.out⟩,⟨Kd.R_up HO_130004.out⟩,⟨blk_up BK126.out⟩,⟨blk_up BK127.out⟩,⟨blk_up BK129.out⟩,⟨blk_up BK134.out⟩,⟨hb_⟩⟩
       ·rw [if_neg c53] at H
        have c53b0 : decide ((wrap64 (ji31 + 1)) < (ix71 (⟨rd l0_2 (ji17),rd l0_2 (ji20),rd l0_2 (ji23),rd l0_2 (ji26)⟩ : S71) x89_2)) = false:=decide_eq_false c53
        clear c53
        have H':=Aside0.mk H
        clear H
        go_wp2
        go_roundg k2
        case measure => have:=HK1.out;have:=HK2.out;omega
        case rel => exact ⟨(x12_2),(wrap64 (x89_2 + 1)),(by first|rfl|(simp;done)|(simp [*];done)),(by first|rfl|(simp;done)|(simp [*];done)),H',⟨by have:=HK1.out;have:=HK2.out;omega⟩,⟨Kd.R_up HO_130002.out⟩,⟨Kd.R_up HO_130003.out⟩,⟨Kd.R_up HO_130004.out⟩,⟨blk_up BK126.out⟩,⟨blk_up BK127.out⟩,⟨blk_up BK129.out⟩,⟨blk_up BK134.out⟩,⟨hb_⟩⟩
     rw [if_neg c46] at H
     have c46b0 : decide (x89_2 < 4) = false:=decide_eq_false c46
     clear c46
     obtain ⟨y135,hy135⟩ : ∃ y_ : List Int,y_ = (([x12_2] : List Int)):=⟨_,rfl⟩
     replace H : (if x130002_1.length + y135.length < 17592186044416 then ((some (([ji31] : List Int) : List Int)).bind fun y141 => (if x130003_1.length + y141.length < 17592186044416 then ((some (([decide ((mx (mx (mx (rd l0_2 (ji17)) (rd l0_2 (ji20))) (rd l0_2 (ji23))) (rd l0_2 (ji26))) ≤ 2)] : List Bool) : List Bool)).bind fun y147 => (if x130004_1.length + y147.length < 140737488355328 then (water_groundOf.l0 k2 (wrap64 (a0_0 * a0_1)) (wrap64 (x31_1 + 1)) a0_0 a0_1 l0_2 a0_0 a0_1 (x130002_1 ++ y135) (x130003_1 ++ y141) (x130004_1 ++ y147)) else (none))) else (none))) else (none)) = some (r1,r2,r3,r4,r5,r6):=by first|(rw [hy135];with_reducible exact H)|(have H2_:=(Option.bind_some _ _).symm.trans H;rw [hy135];with_reducible exact H2_)|(have H2_:=(Option.bind_some _ _).symm.trans H;with_reducible exact H2_)|with_reducible exact H|(rw [hy135];exact H)|exact H
     have Ny135:=Aside0.mk hy135
     clear hy135
     replace H:=ifp_ H;obtain ⟨c54,H⟩:=H
     have LMc54:=Aside0.mk c54
     clear c54
     obtain ⟨y138,hy138⟩ : ∃ y_ : List Int,y_ = (x130002_1 ++ y135):=⟨_,rfl⟩
     replace H : ((some (([ji31] : List Int) : List Int)).bind fun y141 => (if x130003_1.length + y141.length < 17592186044416 then ((some (([decide ((mx (mx (mx (rd l0_2 (ji17)) (rd l0_2 (ji20))) (rd l0_2 (ji23))) (rd l0_2 (ji26))) ≤ 2)] : List Bool) : List Bool)).bind fun y147 => (if x130004_1.length + y147.length < 140737488355328 then (water_groundOf.l0 k2 (wrap64 (a0_0 * a0_1)) (wrap64 (x31_1 + 1)) a0_0 a0_1 l0_2 a0_0 a0_1 y138 (x130003_1 ++ y141) (x130004_1 ++ y147)) else (none))) else (none))) = some (r1,r2,r3,r4,r5,r6):=by first|(rw [hy138];with_reducible exact H)|(have H2_:=(Option.bind_some _ _).symm.trans H;rw [hy138];with_reducible exact H2_)|(have H2_:=(Option.bind_some _ _).symm.trans H;with_reducible exact H2_)|with_reducible exact H|(rw [hy138];exact H)|exact H
     have Ny138:=Aside0.mk hy138
     clear hy138
     obtain ⟨y141,hy141⟩ : ∃ y_ : List Int,y_ = (([ji31] : List Int)):=⟨_,rfl⟩
     replace H : (if x130003_1.length + y141.length < 17592186044416 then ((some (([decide ((mx (mx (mx (rd l0_2 (ji17)) (rd l0_2 (ji20))) (rd l0_2 (ji23))) (rd l0_2 (ji26))) ≤ 2)] : List Bool) : List Bool)).bind fun y147 => (if x130004_1.length + y147.length < 140737488355328 then (water_groundOf.l0 k2 (wrap64 (a0_0 * a0_1)) (wrap64 (x31_1 + 1)) a0_0 a0_1 l0_2 a0_0 a0_1 y138 (x130003_1 ++ y141) (x130004_1 ++ y147)) else (none))) else (none)) = some (r1,r2,r3,r4,r5,r6):=by first|(rw [hy141];with_reducible exact H)|(have H2_:=(Option.bind_some _ _).symm.trans H;rw [hy141];with_reducible exact H2_)|(have H2_:=(Option.bind_some _ _).symm.trans H;with_reducible exact H2_)|with_reducible exact H|(rw [hy141];exact H)|exact H
     have Ny141:=Aside0.mk hy141
     clear hy141
     replace H:=ifp_ H;obtain ⟨c55,H⟩:=H
     have LMc55:=Aside0.mk c55
     clear c55
     obtain ⟨y144,hy144⟩ : ∃ y_ : List Int,y_ = (x130003_1 ++ y141):=⟨_,rfl⟩
     replace H : ((some (([decide ((mx (mx (mx (rd l0_2 (ji17)) (rd l0_2 (ji20))) (rd l0_2 (ji23))) (rd l0_2 (ji26))) ≤ 2)] : List Bool) : List Bool)).bind fun y147 => (if x130004_1.length + y147.length < 140737488355328 then (water_groundOf.l0 k2 (wrap64 (a0_0 * a0_1)) (wrap64 (x31_1 + 1)) a0_0 a0_1 l0_2 a0_0 a0_1 y138 y144 (x130004_1 ++ y147)) else (none))) = some (r1,r2,r3,r4,r5,r6):=by first|(rw [hy144];with_reducible exact H)|(have H2_:=(Option.bind_some _ _).symm.trans H;rw [hy144];with_reducible exact H2_)|(have H2_:=(Option.bind_some _ _).symm.trans H;with_reducible exact H2_)|with_reducible exact H|(rw [hy144];exact H)|exact H
     have Ny144:=Aside0.mk hy144
     clear hy144
     obtain ⟨ji56,hji56⟩ : ∃ j_ : Int,(mx (rd l0_2 (ji17)) (rd l0_2 (ji20))) = j_:=⟨_,rfl⟩
     replace H : ((some (([decide ((mx (mx (ji56) (rd l0_2 (ji23))) (rd l0_2 (ji26))) ≤ 2)] : List Bool) : List Bool)).bind fun y147 => (if x130004_1.length + y147.length < 140737488355328 then (water_groundOf.l0 k2 (wrap64 (a0_0 * a0_1)) (wrap64 (x31_1 + 1)) a0_0 a0_1 l0_2 a0_0 a0_1 y138 y144 (x130004_1 ++ y147)) else (none))) = some (r1,r2,r3,r4,r5,r6):=by first|(rw [hji56] at H;exact H)|(simp only [hji56] at H ⊢;exact H)
     have hji56_ : (if (rd l0_2 (ji17)) < (rd l0_2 (ji20)) then (rd l0_2 (ji20)) else (rd l0_2 (ji17))) = ji56:=hji56
     obtain ⟨ji57,hji57⟩ : ∃ j_ : Int,(mx (ji56) (rd l0_2 (ji23))) = j_:=⟨_,rfl⟩
     replace H : ((some (([decide ((mx (ji57) (rd l0_2 (ji26))) ≤ 2)] : List Bool) : List Bool)).bind fun y147 => (if x130004_1.length + y147.length < 140737488355328 then (water_groundOf.l0 k2 (wrap64 (a0_0 * a0_1)) (wrap64 (x31_1 + 1)) a0_0 a0_1 l0_2 a0_0 a0_1 y138 y144 (x130004_1 ++ y147)) else (none))) = some (r1,r2,r3,r4,r5,r6):=by first|(rw [hji57] at H;exact H)|(simp only [hji57] at H ⊢;exact H)
     have hji57_ : (if (ji56) < (rd l0_2 (ji23)) then (rd l0_2 (ji23)) else (ji56)) = ji57:=hji57
     obtain ⟨ji58,hji58⟩ : ∃ j_ : Int,(mx (ji57) (rd l0_2 (ji26))) = j_:=⟨_,rfl⟩
     replace H : ((some (([decide ((ji58) ≤ 2)] : List Bool) : List Bool)).bind fun y147 => (if x130004_1.length + y147.length < 140737488355328 then (water_groundOf.l0 k2 (wrap64 (a0_0 * a0_1)) (wrap64 (x31_1 + 1)) a0_0 a0_1 l0_2 a0_0 a0_1 y138 y144 (x130004_1 ++ y147)) else (none))) = some (r1,r2,r3,r4,r5,r6):=by first|(rw [hji58] at H;exact H)|(simp only [hji58] at H ⊢;exact H)
     have hji58_ : (if (ji57) < (rd l0_2 (ji26)) then (rd l0_2 (ji26)) else (ji57)) = ji58:=hji58
     obtain ⟨y147,hy147⟩ : ∃ y_ : List Bool,y_ = (([decide ((ji58) ≤ 2)] : List Bool)):=⟨_,rfl⟩
     replace H : (if x130004_1.length + y147.length < 140737488355328 then (water_groundOf.l0 k2 (wrap64 (a0_0 * a0_1)) (wrap64 (x31_1 + 1)) a0_0 a0_1 l0_2 a0_0 a0_1 y138 y144 (x130004_1 ++ y147)) else (none)) = some (r1,r2,r3,r4,r5,r6):=by first|(rw [hy147];with_reducible exact H)|(have H2_:=(Option.bind_some _ _).symm.trans H;rw [hy147];with_reducible exact H2_)|(have H2_:=(Option.bind_some _ _).symm.trans H;with_reducible exact H2_)|with_reducible exact H|(rw [hy147];exact H)|exact H
     have Ny147:=Aside0.mk hy147
     clear hy147
     replace H:=ifp_ H;obtain ⟨c59,H⟩:=H
     have LMc59:=Aside0.mk c59
     clear c59
     obtain ⟨y150,hy150⟩ : ∃ y_ : List Bool,y_ = (x130004_1 ++ y147):=⟨_,rfl⟩
     replace H : (water_groundOf.l0 k2 (wrap64 (a0_0 * a0_1)) (wrap64 (x31_1 + 1)) a0_0 a0_1 l0_2 a0_0 a0_1 y138 y144 y150) = some (r1,r2,r3,r4,r5,r6):=by first|(rw [hy150];with_reducible exact H)|(have H2_:=(Option.bind_some _ _).symm.trans H;rw [hy150];with_reducible exact H2_)|(have H2_:=(Option.bind_some _ _).symm.trans H;with_reducible exact H2_)|with_reducible exact H|(rw [hy150];exact H)|exact H
     have Ny150:=Aside0.mk hy150
     clear hy150
     have H':=Aside0.mk H
     clear H
     obtain ⟨Ao60,co60,eo60⟩:=Kd.R_slice HO_130002.out
     subst eo60
     obtain ⟨Ao61,co61,eo61⟩:=Kd.R_slice HO_130003.out
     subst eo61
     try go_wp2
     replace HO_130002:=Aside0.mk (Kd.R_drew HO_130002.out)
     replace HO_130003:=Aside0.mk (Kd.R_drew HO_130003.out)
     replace HO_130004:=Aside0.mk (Kd.R_drew HO_130004.out)
     replace BK126:=Aside0.mk (blk_drew BK126.out)
     replace BK127:=Aside0.mk (blk_drew BK127.out)
     replace BK129:=Aside0.mk (blk_drew BK129.out)
     replace BK134:=Aside0.mk (blk_drew BK134.out)
     replace HB:=Aside0.mk (below_drew1 HB.out)
     refine start_ (n:=14) (S:=fun w' => w'.cell? ⟨gb129,0,none⟩ = some (.int .i64 a0_0) ∧ w'.cell? ⟨gb129,1,none⟩ = some (.int .i64 a0_1) ∧ w'.cell? ⟨gb129,2,none⟩ = some (.slice Ao60 x130002_1.length co60) ∧ w'.cell? ⟨gb129,3,none⟩ = some (.slice Ao61 x130003_1.length co61) ∧ w'.cell? ⟨gb129,4,none⟩ = some (u130004)) (ds:=[11,13]) #[false,false,false,false,false,false,false,false,false,false,false,false,false,false] (by kernel_rfl) rfl rfl ⟨(blk_cell BK129.out 0).trans rfl,(blk_cell BK129.out 1).trans rfl,(blk_cell BK129.out 2).trans rfl,(blk_cell BK129.out 3).trans rfl,(blk_cell BK129.out 4).trans rfl⟩ (fun hHeld => ?_);refine with_tabW water_groundOf.tab20 water_groundOf.bits20 (fun HT_ HW_ => ?_)
     generalize wr.drew = w62 at HO_130002 HO_130003 HO_130004 BK126 BK127 BK129 BK134 HB hHeld ⊢
     refine pI 0 (some 107) ?_
     refine pI 2 (some 109) ?_
     refine pI 5 (some 112) ?_
     refine pI 7 (some 114) ?_
     refine tI5 1 (some 108) hHeld ?_
     refine tI5 6 (some 113) hHeld ?_
     refine join_ (σ:=Value × Value × Value) 4 #[true,true,true,true,true,true,true,true,true,false,true,false,false,false] (fun s_ => [(110,s_.1),(111,s_.2.1),(115,s_.2.2),(117,.pointer (some ⟨gb129,2,none⟩))]) (fun s_ w' => (w'.cell? ⟨gb129,0,none⟩ = some (.int .i64 a0_0) ∧ w'.cell? ⟨gb129,1,none⟩ = some (.int .i64 a0_1) ∧ w'.cell? ⟨gb129,2,none⟩ = some (.slice Ao60 x130002_1.length co60) ∧ w'.cell? ⟨gb129,3,none⟩ = some (.slice Ao61 x130003_1.length co61) ∧ w'.cell? ⟨gb129,4,none⟩ = some (u130004)) ∧ (Kd.R (Kd.int .i64) 3 w' w.heap.size (fun k_ => some k_ ≠ (s_.2.1 : Value).ownBlock ∧ some k_ ≠ (s_.2.2 : Value).ownBlock ∧ some k_ ≠ (.slice Ao61 x130003_1.length co61 : Value).ownBlock) s_.1 y135) ∧ (Kd.R (Kd.int .i64) 3 w' w.heap.size (fun k_ => some k_ ≠ (s_.1 : Value).ownBlock ∧ some k_ ≠ (s_.2.2 : Value).ownBlock ∧ some k_ ≠ (.slice Ao61 x130003_1.length co61 : Value).ownBlock) s_.2.1 y138) ∧ (Kd.R (Kd.int .i64) 3 w' w.heap.size (fun k_ => some k_ ≠ (s_.1 : Value).ownBlock ∧ some k_ ≠ (s_.2.1 : Value).ownBlock ∧ some k_ ≠ (.slice Ao61 x130003_1.length co61 : Value).ownBlock) s_.2.2 y141) ∧ (Kd.R (Kd.int .i64) 3 w' w.heap.size (fun k_ => some k_ ≠ (s_.1 : Value).ownBlock ∧ some k_ ≠ (s_.2.1 : Value).ownBlock ∧ some k_ ≠ (s_.2.2 : Value).ownBlock) (.slice Ao61 x130003_1.length co61) x130003_1) ∧ (Kd.R Kd.bool 4 w' w.heap.size (fun _ => True) u130004 x130004_1) ∧ (w'.heap[gb126]? = some (.cells #[.int .i64 a0_0,.int .i64 a0_1,.slice (some ad130) l0_2.length c0_2] 24 (0,0))) ∧ (w'.heap[gb127]? = some (.cells #[.int .i64 0,.int .i64 0,.slice none 0 0,.slice none 0 0,.slice none 0 0] 52 (0,0))) ∧ (w'.heap[gb129]? = some (.cells #[.int .i64 a0_0,.int .i64 a0_1,.slice Ao60 x130002_1.length co60,.slice Ao61 x130003_1.length co61,u130004] 52 (0,0))) ∧ (w'.heap[gb134]? = some (.cells #[.int .i64 (rd l0_2 (ji17)),.int .i64 (rd l0_2 (ji20)),.int .i64 (rd l0_2 (ji23)),.int .i64 (rd l0_2 (ji26))] 71 (0,0))) ∧ (Below w.heap.size w w')) ?_ ?_
     rotate_left
     ·intro hCont
      refine two_ (i:=3) (j:=8) (Ni:=some 110) (Nj:=some 115) #[true,true,true,true,false,true,true,true,false,false,false,false,false,false] #[true,true,true,false,false,true,true,true,true,false,false,false,false,false] rfl rfl rfl rfl (two_of HT_.out (by kernel_rfl)) (by decide) (by decide) (fun K hK => ?_) (fun K hK => ?_)
      ·skip
       refine Kd.R_lit_step (Kd.int .i64) _ 3 ?hg (N:=110) ?hd (xs:=([x12_2] : List Int)) (inner:=[.int .i64 x12_2]) (ok:=fun _ => True) (okp:=fun _ => True) ?hr ?hp (fun _ hk => hk) trivial (Below.refl _ _) (Nat.le_refl _) (by simp) ?_;(case hd => rfl);(case hg => rfl);(case hr => first|(go_simp;done)|(go_simp;rfl));(case hp => exact (Reps.one (show Kd.M (Kd.int .i64) _ _ _ x12_2 [.int .i64 x12_2] from rfl) (Reps.none _ _)))
       intro v136 w63 ho64 hb hg_ hnew_
       clear hg_ hnew_
       (first|rw [← Ny135.out] at ho64|(simp only [Int.reduceToNat] at ho64;rw [← Ny135.out] at ho64))
       have n0_:=Aside0.mk (Kd.R_elder' (Kd.R_up HO_130002.out) (Kd.R_base ho64) hb)
       have n1_:=Aside0.mk (Kd.R_elder' (Kd.R_up HO_130003.out) (Kd.R_base ho64) hb)
       have n2_:=rbw HO_130004 hb
       have n3_:=Aside0.mk (Kd.R_lower (Kd.R_new' (Kd.R_new' ho64 (Kd.R_lt (Kd.R_up HO_130002.out))) (Kd.R_lt (Kd.R_up HO_130003.out))) (below_size (hb_)))
       have n4_:=bkb BK126 hb
       have n5_:=bkb BK127 hb
       have n6_:=bkb BK129 hb
       have n7_:=bkb BK134 hb
       have n8_:=Aside0.mk (below_step (hb_) hb)
       clear HO_130002
       clear HO_130003
       clear HO_130004
       clear BK126
       clear BK127
       clear BK129
       clear BK134
       clear HB
       have HO_130002:=n0_
       have HO_130003:=n1_
       have HO_130004:=n2_
       have HO137:=n3_
       have BK126:=n4_
       have BK127:=n5_
       have BK129:=n6_
       have BK134:=n7_
       have HB:=n8_
       clear n0_ n1_ n2_ n3_ n4_ n5_ n6_ n7_ n8_
       clear hb ho64
       obtain ⟨Ao66,co66,eo66⟩:=Kd.R_slice HO137.out
       (first|subst eo66|(injection eo66 with f1_ f2_ f3_;have f4_:=f1_.symm;have f5_:=f3_.symm;clear f1_ f2_ f3_;subst f4_;subst f5_))
       refine hK.out _ _ ⟨(blk_cell BK129.out 0).trans rfl,(blk_cell BK129.out 1).trans rfl,(blk_cell BK129.out 2).trans rfl,(blk_cell BK129.out 3).trans rfl,(blk_cell BK129.out 4).trans rfl⟩ (fun hHeld => ?_)
       clear hK K
       refine norm_ (a':=?_) ?_ ?_
       rotate_left
       ·show Act.put _ (some 110) _ = _
        simp only [Act.put,List.setIfInBounds_toArray,List.set_cons_zero,List.set_cons_succ,i64_w,i32_w]
        rfl
       refine two_ (i:=4) (j:=8) (Ni:=some 111) (Nj:=some 115) #[true,true,true,true,true,true,true,true,false,false,false,false,false,false] #[true,true,true,true,false,true,true,true,true,false,false,false,false,false] rfl rfl rfl rfl (two_of HT_.out (by kernel_rfl)) (by decide) (by decide) (fun K hK => ?_) (fun K hK => ?_)
       ·skip
        refine Kd.R_append_rows_step (Kd.int .i64) (w0:=w) w.heap.size (by rfl) (.tmp 108) (.tmp 110) 22 3 (.int .i64 0) 8 rfl Try.underlying22 info3 rfl (by decide) (by omega) (.slice Ao60 x130002_1.length co60) x130002_1 y135 _ _ _ (fun k_ => some k_ ≠ (.slice Ao61 x130003_1.length co61 : Value).ownBlock ∧ some k_ ≠ (.slice Ao66 y135.length co66 : Value).ownBlock) (fun _ => False) rfl rfl ?aO ?aR (fun _ _ h => h) (fun _ h => h.elim) ?aF ?aB ?aS ?aL ?_
        (case aR => exact Kd.C_up (Kd.R_reads' HO137.out).2.2)
        (case aB => exact (hb_))
        (case aF => exact (fun k_ hk => ⟨Kd.fresh' (Kd.R_lt (Kd.R_up HO_130003.out)) k_ hk,Kd.fresh' (Kd.R_lt (Kd.R_up HO137.out)) k_ hk⟩))
        (case aO => exact (Kd.R_up HO_130002.out))
        (case aS => exact (below_size (hb_)))
        (case aL => have:=LMc54.out;omega)
        intro v139 w65 ho hb hg hat
        rw [← Ny138.out] at ho
        have n0_:=Aside0.mk (Kd.R_after (ok:=(fun k_ => some k_ ≠ (.slice Ao66 y135.length co66 : Value).ownBlock)) (by (with_reducible repeat (first|apply Kd.R_alloc|apply Kd.R_drewN|apply Kd.R_drew));exact Kd.R_mono HO_130003.out (fun _ hk => ⟨hk.2,hk.1⟩)) hg hat)
        have n1_:=Aside0.mk (Kd.R_over' (Kd.R_up HO_130004.out) (Kd.R_typed (Kd.R_up HO_130002.out)) (by decide) hg)
        have n2_:=Aside0.mk (blk_grown (blk_up BK126.out) hg (Kd.R_ne HO_130002.out BK126.out (by decide)))
        have n3_:=Aside0.mk (blk_grown (blk_up BK127.out) hg (Kd.R_ne HO_130002.out BK127.out (by decide)))
        have n4_:=Aside0.mk (blk_grown (blk_up BK129.out) hg (Kd.R_ne HO_130002.out BK129.out (by decide)))
        have n5_:=Aside0.mk (blk_grown (blk_up BK134.out) hg (Kd.R_ne HO_130002.out BK134.out (by decide)))
        have n6_:=Aside0.mk (Kd.R_after (ok:=(fun k_ => some k_ ≠ (.slice Ao61 x130003_1.length co61 : Value).ownBlock)) (by (with_reducible repeat (first|apply Kd.R_alloc|apply Kd.R_drewN|apply Kd.R_drew));exact Kd.R_mono HO137.out (fun _ hk => ⟨hk.2,hk.1.2⟩)) hg hat)
        have n7_:=Aside0.mk (hb)
        have n8_:=Aside0.mk (ho)
        clear HO_130003
        clear HO_130004
        clear BK126
        clear BK127
        clear BK129
        clear BK134
        clear HO137
        clear HB
        clear HO_130002
        have HO_130003:=n0_
        have HO_130004:=n1_
        have BK126:=n2_
        have BK127:=n3_
        have BK129:=n4_
        have BK134:=n5_
        have HO137:=n6_
        have HB:=n7_
        have HO140:=n8_
        clear n0_ n1_ n2_ n3_ n4_ n5_ n6_ n7_ n8_
        clear ho hb hg hat
        refine hK.out _ _ ⟨(blk_cell BK129.out 0).trans rfl,(blk_cell BK129.out 1).trans rfl,(blk_cell BK129.out 2).trans rfl,(blk_cell BK129.out 3).trans rfl,(blk_cell BK129.out 4).trans rfl⟩ (fun hHeld => ?_)
        clear hK K
        refine norm_ (a':=?_) ?_ ?_
        rotate_left
        ·show Act.put _ (some 111) _ = _
         simp only [Act.put,List.setIfInBounds_toArray,List.set_cons_zero,List.set_cons_succ,i64_w,i32_w]
         rfl
        refine pI 10 (some 117) ?_
        refine oI 8 (some 115) (fun K hK => ?_)
        refine Kd.R_lit_step (Kd.int .i64) _ 3 ?hg (N:=115) ?hd (xs:=([ji31] : List Int)) (inner:=[.int .i64 ji31]) (ok:=fun _ => True) (okp:=fun _ => True) ?hr ?hp (fun _ hk => hk) trivial (Below.refl _ _) (Nat.le_refl _) (by simp) ?_;(case hd => rfl);(case hg => rfl);(case hr => first|(go_simp;done)|(go_simp;rfl));(case hp => exact (Reps.one (show Kd.M (Kd.int .i64) _ _ _ ji31 [.int .i64 ji31] from rfl) (Reps.none _ _)))
        intro v142 w67 ho68 hb hg_ hnew_
        clear hg_ hnew_
        (first|rw [← Ny141.out] at ho68|(simp only [Int.reduceToNat] at ho68;rw [← Ny141.out] at ho68))
        have n0_:=Aside0.mk (Kd.R_elder' (Kd.R_up HO_130003.out) (Kd.R_base ho68) hb)
        have n1_:=rbw HO_130004 hb
        have n2_:=Aside0.mk (Kd.R_elder' (Kd.R_up HO137.out) (Kd.R_base ho68) hb)
        have n3_:=Aside0.mk (Kd.R_elder' (Kd.R_up HO140.out) (Kd.R_base ho68) hb)
        have n4_:=Aside0.mk (Kd.R_lower (Kd.R_new' (Kd.R_new' (Kd.R_new' ho68 (Kd.R_lt (Kd.R_up HO_130003.out))) (Kd.R_lt (Kd.R_up HO137.out))) (Kd.R_lt (Kd.R_up HO140.out))) (below_size (hb_)))
        have n5_:=bkb BK126 hb
        have n6_:=bkb BK127 hb
        have n7_:=bkb BK129 hb
        have n8_:=bkb BK134 hb
        have n9_:=Aside0.mk (below_step (hb_) hb)
        clear HO_130003
        clear HO_130004
        clear HO137
        clear HO140
        clear BK126
        clear BK127
        clear BK129
        clear BK134
        clear HB
        have HO_130003:=n0_
        have HO_130004:=n1_
        have HO137:=n2_
        have HO140:=n3_
        have HO143:=n4_
        have BK126:=n5_
        have BK127:=n6_
        have BK129:=n7_
        have BK134:=n8_
        have HB:=n9_
        clear n0_ n1_ n2_ n3_ n4_ n5_ n6_ n7_ n8_ n9_
        clear hb ho68
        refine hK.out _ _ ⟨(blk_cell BK129.out 0).trans rfl,(blk_cell BK129.out 1).trans rfl,(blk_cell BK129.out 2).trans rfl,(blk_cell BK129.out 3).trans rfl,(blk_cell BK129.out 4).trans rfl⟩ (fun hHeld => ?_)
        clear hK K
        refine norm_ (a':=?_) ?_ ?_
        rotate_left
        ·show Act.put _ (some 115) _ = _
         simp only [Act.put,List.setIfInBounds_toArray,List.set_cons_zero,List.set_cons_succ,i64_w,i32_w]
         rfl
        exact norm_ (by simp only [putAll,Act.put,List.setIfInBounds_toArray,List.set_cons_zero,List.set_cons_succ]) (hCont (.slice Ao66 y135.length co66,v139,v142) _ ⟨hHeld,(by (with_reducible repeat (first|apply Kd.R_alloc|apply Kd.R_drewN|apply Kd.R_drew));exact Kd.R_mono HO137.out (fun _ hk => ⟨hk.1.2,⟨hk.2,hk.1.1⟩⟩)),(by (with_reducible repeat (first|apply Kd.R_alloc|apply Kd.R_drewN|apply Kd.R_drew));exact Kd.R_mono HO140.out (fun _ hk => ⟨hk.1.2,⟨hk.2,hk.1.1⟩⟩)),(by (with_reducible repeat (first|apply Kd.R_alloc|apply Kd.R_drewN|apply Kd.R_drew));exact Kd.R_mono HO143.out (fun _ hk => ⟨hk.1.2,⟨hk.2,hk.1.1.2⟩⟩)),(by (with_reducible repeat (first|apply Kd.R_alloc|apply Kd.R_drewN|apply Kd.R_drew));exact Kd.R_mono HO_130003.out (fun _ hk => ⟨hk.1.1,⟨hk.1.2,hk.2⟩⟩)),(Kd.R_up HO_130004.out),(blk_up BK126.out),(blk_up BK127.out),(blk_up BK129.out),(blk_up BK134.out),(hb_)⟩)
       ·skip
        refine Kd.R_lit_step (Kd.int .i64) _ 3 ?hg (N:=115) ?hd (xs:=([ji31] : List Int)) (inner:=[.int .i64 ji31]) (ok:=fun _ => True) (okp:=fun _ => True) ?hr ?hp (fun _ hk => hk) trivial (Below.refl _ _) (Nat.le_refl _) (by simp) ?_;(case hd => rfl);(case hg => rfl);(case hr => first|(go_simp;done)|(go_simp;rfl));(case hp => exact (Reps.one (show Kd.M (Kd.int .i64) _ _ _ ji31 [.int .i64 ji31] from rfl) (Reps.none _ _)))
        intro v142 w65 ho66 hb hg_ hnew_
        clear hg_ hnew_
        (first|rw [← Ny141.out] at ho66|(simp only [Int.reduceToNat] at ho66;rw [← Ny141.out] at ho66))
        have n0_:=Aside0.mk (Kd.R_elder' (Kd.R_up HO_130002.out) (Kd.R_base ho66) hb)
        have n1_:=Aside0.mk (Kd.R_elder' (Kd.R_up HO_130003.out) (Kd.R_base ho66) hb)
        have n2_:=rbw HO_130004 hb
        have n3_:=Aside0.mk (Kd.R_elder' (Kd.R_up HO137.out) (Kd.R_base ho66) hb)
        have n4_:=Aside0.mk (Kd.R_lower (Kd.R_new' (Kd.R_new' (Kd.R_new' ho66 (Kd.R_lt (Kd.R_up HO_130002.out))) (Kd.R_lt (Kd.R_up HO_130003.out))) (Kd.R_lt (Kd.R_up HO137.out))) (below_size (hb_)))
        have n5_:=bkb BK126 hb
        have n6_:=bkb BK127 hb
        have n7_:=bkb BK129 hb
        have n8_:=bkb BK134 hb
        have n9_:=Aside0.mk (below_step (hb_) hb)
        clear HO_130002
        clear HO_130003
        clear HO_130004
        clear HO137
        clear BK126
        clear BK127
        clear BK129
        clear BK134
        clear HB
        have HO_130002:=n0_
        have HO_130003:=n1_
        have HO_130004:=n2_
        have HO137:=n3_
        have HO143:=n4_
        have BK126:=n5_
        have BK127:=n6_
        have BK129:=n7_
        have BK134:=n8_
        have HB:=n9_
        clear n0_ n1_ n2_ n3_ n4_ n5_ n6_ n7_ n8_ n9_
        clear hb ho66
        obtain ⟨Ao68,co68,eo68⟩:=Kd.R_slice HO137.out
        (first|subst eo68|(injection eo68 with f1_ f2_ f3_;have f4_:=f1_.symm;have f5_:=f3_.symm;clear f1_ f2_ f3_;subst f4_;subst f5_))
        refine hK.out _ _ ⟨(blk_cell BK129.out 0).trans rfl,(blk_cell BK129.out 1).trans rfl,(blk_cell BK129.out 2).trans rfl,(blk_cell BK129.out 3).trans rfl,(blk_cell BK129.out 4).trans rfl⟩ (fun hHeld => ?_)
        clear hK K
        refine norm_ (a':=?_) ?_ ?_
        rotate_left
        ·show Act.put _ (some 115) _ = _
         simp only [Act.put,List.setIfInBounds_toArray,List.set_cons_zero,List.set_cons_succ,i64_w,i32_w]
         rfl
        refine oI 4 (some 111) (fun K hK => ?_)
        refine Kd.R_append_rows_step (Kd.int .i64) (w0:=w) w.heap.size (by rfl) (.tmp 108) (.tmp 110) 22 3 (.int .i64 0) 8 rfl Try.underlying22 info3 rfl (by decide) (by omega) (.slice Ao60 x130002_1.length co60) x130002_1 y135 _ _ _ (fun k_ => some k_ ≠ (.slice Ao61 x130003_1.length co61 : Value).ownBlock ∧ some k_ ≠ (.slice Ao68 y135.length co68 : Value).ownBlock ∧ some k_ ≠ (v142 : Value).ownBlock) (fun _ => False) rfl rfl ?aO ?aR (fun _ _ h => h) (fun _ h => h.elim) ?aF ?aB ?aS ?aL ?_
        (case aR => exact Kd.C_up (Kd.R_reads' HO137.out).2.2)
        (case aB => exact (hb_))
        (case aF => exact (fun k_ hk => ⟨Kd.fresh' (Kd.R_lt (Kd.R_up HO_130003.out)) k_ hk,Kd.fresh' (Kd.R_lt (Kd.R_up HO137.out)) k_ hk,Kd.fresh' (Kd.R_lt (Kd.R_up HO143.out)) k_ hk⟩))
        (case aO => exact (by (with_reducible repeat (first|apply Kd.R_alloc|apply Kd.R_drewN|apply Kd.R_drew));exact Kd.R_mono HO_130002.out (fun _ hk => ⟨hk.1.1,⟨hk.1.2,hk.2⟩⟩)))
        (case aS => exact (below_size (hb_)))
        (case aL => have:=LMc54.out;omega)
        intro v139 w67 ho hb hg hat
        rw [← Ny138.out] at ho
        have n0_:=Aside0.mk (Kd.R_after (ok:=(fun k_ => some k_ ≠ (.slice Ao68 y135.length co68 : Value).ownBlock ∧ some k_ ≠ (v142 : Value).ownBlock)) (by (with_reducible repeat (first|apply Kd.R_alloc|apply Kd.R_drewN|apply Kd.R_drew));exact Kd.R_mono HO_130003.out (fun _ hk => ⟨⟨hk.1.2,hk.2⟩,hk.1.1⟩)) hg hat)
        have n1_:=Aside0.mk (Kd.R_over' (Kd.R_up HO_130004.out) (Kd.R_typed (Kd.R_up HO_130002.out)) (by decide) hg)
        have n2_:=Aside0.mk (blk_grown (blk_up BK126.out) hg (Kd.R_ne HO_130002.out BK126.out (by decide)))
        have n3_:=Aside0.mk (blk_grown (blk_up BK127.out) hg (Kd.R_ne HO_130002.out BK127.out (by decide)))
        have n4_:=Aside0.mk (blk_grown (blk_up BK129.out) hg (Kd.R_ne HO_130002.out BK129.out (by decide)))
        have n5_:=Aside0.mk (blk_grown (blk_up BK134.out) hg (Kd.R_ne HO_130002.out BK134.out (by decide)))
        have n6_:=Aside0.mk (Kd.R_after (ok:=(fun k_ => some k_ ≠ (.slice Ao61 x130003_1.length co61 : Value).ownBlock ∧ some k_ ≠ (v142 : Value).ownBlock)) (by (with_reducible repeat (first|apply Kd.R_alloc|apply Kd.R_drewN|apply Kd.R_drew));exact Kd.R_mono HO137.out (fun _ hk => ⟨⟨hk.1.2,hk.2⟩,hk.1.1.2⟩)) hg hat)
        have n7_:=Aside0.mk (Kd.R_after (ok:=(fun k_ => some k_ ≠ (.slice Ao61 x130003_1.length co61 : Value).ownBlock ∧ some k_ ≠ (.slice Ao68 y135.length co68 : Value).ownBlock)) (by (with_reducible repeat (first|apply Kd.R_alloc|apply Kd.R_drewN|apply Kd.R_drew));exact Kd.R_mono HO143.out (fun _ hk => ⟨⟨hk.1.2,hk.2⟩,hk.1.1.2⟩)) hg hat)
        have n8_:=Aside0.mk (hb)
        have n9_:=Aside0.mk (ho)
        clear HO_130003
        clear HO_130004
        clear BK126
        clear BK127
        clear BK129
        clear BK134
        clear HO137
        clear HO143
        clear HB
        clear HO_130002
        have HO_130003:=n0_
        have HO_130004:=n1_
        have BK126:=n2_
        have BK127:=n3_
        have BK129:=n4_
        have BK134:=n5_
        have HO137:=n6_
        have HO143:=n7_
        have HB:=n8_
        have HO140:=n9_
        clear n0_ n1_ n2_ n3_ n4_ n5_ n6_ n7_ n8_ n9_
        clear ho hb hg hat
        refine hK.out _ _ ⟨(blk_cell BK129.out 0).trans rfl,(blk_cell BK129.out 1).trans rfl,(blk_cell BK129.out 2).trans rfl,(blk_cell BK129.out 3).trans rfl,(blk_cell BK129.out 4).trans rfl⟩ (fun hHeld => ?_)
        clear hK K
        refine norm_ (a':=?_) ?_ ?_
        rotate_left
        ·show Act.put _ (some 111) _ = _
         simp only [Act.put,List.setIfInBounds_toArray,List.set_cons_zero,List.set_cons_succ,i64_w,i32_w]
         rfl
        refine pI 10 (some 117) ?_
        exact norm_ (by simp only [putAll,Act.put,List.setIfInBounds_toArray,List.set_cons_zero,List.set_cons_succ]) (hCont (.slice Ao68 y135.length co68,v139,v142) _ ⟨hHeld,(by (with_reducible repeat (first|apply Kd.R_alloc|apply Kd.R_drewN|apply Kd.R_drew));exact Kd.R_mono HO137.out (fun _ hk => ⟨hk.2,⟨hk.1.2,hk.1.1⟩⟩)),(by (with_reducible repeat (first|apply Kd.R_alloc|apply Kd.R_drewN|apply Kd.R_drew));exact Kd.R_mono HO140.out (fun _ hk => ⟨hk.2.1,⟨hk.2.2,hk.1⟩⟩)),(by (with_reducible repeat (first|apply Kd.R_alloc|apply Kd.R_drewN|apply Kd.R_drew));exact Kd.R_mono HO143.out (fun _ hk => ⟨hk.1.2,⟨hk.2,hk.1.1⟩⟩)),(by (with_reducible repeat (first|apply Kd.R_alloc|apply Kd.R_drewN|apply Kd.R_drew));exact Kd.R_mono HO_130003.out (fun _ hk => ⟨hk.1.1,⟨hk.2,hk.1.2⟩⟩)),(Kd.R_up HO_130004.out),(blk_up BK126.out),(blk_up BK127.out),(blk_up BK129.out),(blk_up BK134.out),(hb_)⟩)
      ·skip
       refine Kd.R_lit_step (Kd.int .i64) _ 3 ?hg (N:=115) ?hd (xs:=([ji31] : List Int)) (inner:=[.int .i64 ji31]) (ok:=fun _ => True) (okp:=fun _ => True) ?hr ?hp (fun _ hk => hk) trivial (Below.refl _ _) (Nat.le_refl _) (by simp) ?_;(case hd => rfl);(case hg => rfl);(case hr => first|(go_simp;done)|(go_simp;rfl));(case hp => exact (Reps.one (show Kd.M (Kd.int .i64) _ _ _ ji31 [.int .i64 ji31] from rfl) (Reps.none _ _)))
       intro v142 w63 ho64 hb hg_ hnew_
       clear hg_ hnew_
       (first|rw [← Ny141.out] at ho64|(simp only [Int.reduceToNat] at ho64;rw [← Ny141.out] at ho64))
       have n0_:=Aside0.mk (Kd.R_elder' (Kd.R_up HO_130002.out) (Kd.R_base ho64) hb)
       have n1_:=Aside0.mk (Kd.R_elder' (Kd.R_up HO_130003.out) (Kd.R_base ho64) hb)
       have n2_:=rbw HO_130004 hb
       have n3_:=Aside0.mk (Kd.R_lower (Kd.R_new' (Kd.R_new' ho64 (Kd.R_lt (Kd.R_up HO_130002.out))) (Kd.R_lt (Kd.R_up HO_130003.out))) (below_size (hb_)))
       have n4_:=bkb BK126 hb
       have n5_:=bkb BK127 hb
       have n6_:=bkb BK129 hb
       have n7_:=bkb BK134 hb
       have n8_:=Aside0.mk (below_step (hb_) hb)
       clear HO_130002
       clear HO_130003
       clear HO_130004
       clear BK126
       clear BK127
       clear BK129
       clear BK134
       clear HB
       have HO_130002:=n0_
       have HO_130003:=n1_
       have HO_130004:=n2_
       have HO143:=n3_
       have BK126:=n4_
       have BK127:=n5_
       have BK129:=n6_
       have BK134:=n7_
       have HB:=n8_
       clear n0_ n1_ n2_ n3_ n4_ n5_ n6_ n7_ n8_
       clear hb ho64
       refine hK.out _ _ ⟨(blk_cell BK129.out 0).trans rfl,(blk_cell BK129.out 1).trans rfl,(blk_cell BK129.out 2).trans rfl,(blk_cell BK129.out 3).trans rfl,(blk_cell BK129.out 4).trans rfl⟩ (fun hHeld => ?_)
       clear hK K
       refine norm_ (a':=?_) ?_ ?_
       rotate_left
       ·show Act.put _ (some 115) _ = _
        simp only [Act.put,List.setIfInBounds_toArray,List.set_cons_zero,List.set_cons_succ,i64_w,i32_w]
        rfl
       refine oI 3 (some 110) (fun K hK => ?_)
       refine Kd.R_lit_step (Kd.int .i64) _ 3 ?hg (N:=110) ?hd (xs:=([x12_2] : List Int)) (inner:=[.int .i64 x12_2]) (ok:=fun _ => True) (okp:=fun _ => True) ?hr ?hp (fun _ hk => hk) trivial (Below.refl _ _) (Nat.le_refl _) (by simp) ?_;(case hd => rfl);(case hg => rfl);(case hr => first|(go_simp;done)|(go_simp;rfl));(case hp => exact (Reps.one (show Kd.M (Kd.int .i64) _ _ _ x12_2 [.int .i64 x12_2] from rfl) (Reps.none _ _)))
       intro v136 w65 ho66 hb hg_ hnew_
       clear hg_ hnew_
       (first|rw [← Ny135.out] at ho66|(simp only [Int.reduceToNat] at ho66;rw [← Ny135.out] at ho66))
       have n0_:=Aside0.mk (Kd.R_elder' (Kd.R_up HO_130002.out) (Kd.R_base ho66) hb)
       have n1_:=Aside0.mk (Kd.R_elder' (Kd.R_up HO_130003.out) (Kd.R_base ho66) hb)
       have n2_:=rbw HO_130004 hb
       have n3_:=Aside0.mk (Kd.R_elder' (Kd.R_up HO143.out) (Kd.R_base ho66) hb)
       have n4_:=Aside0.mk (Kd.R_lower (Kd.R_new' (Kd.R_new' (Kd.R_new' ho66 (Kd.R_lt (Kd.R_up HO_130002.out))) (Kd.R_lt (Kd.R_up HO_130003.out))) (Kd.R_lt (Kd.R_up HO143.out))) (below_size (hb_)))
       have n5_:=bkb BK126 hb
       have n6_:=bkb BK127 hb
       have n7_:=bkb BK129 hb
       have n8_:=bkb BK134 hb
       have n9_:=Aside0.mk (below_step (hb_) hb)
       clear HO_130002
       clear HO_130003
       clear HO_130004
       clear HO143
       clear BK126
       clear BK127
       clear BK129
       clear BK134
       clear HB
       have HO_130002:=n0_
       have HO_130003:=n1_
       have HO_130004:=n2_
       have HO143:=n3_
       have HO137:=n4_
       have BK126:=n5_
       have BK127:=n6_
       have BK129:=n7_
       have BK134:=n8_
       have HB:=n9_
       clear n0_ n1_ n2_ n3_ n4_ n5_ n6_ n7_ n8_ n9_
       clear hb ho66
       obtain ⟨Ao68,co68,eo68⟩:=Kd.R_slice HO137.out
       (first|subst eo68|(injection eo68 with f1_ f2_ f3_;have f4_:=f1_.symm;have f5_:=f3_.symm;clear f1_ f2_ f3_;subst f4_;subst f5_))
       refine hK.out _ _ ⟨(blk_cell BK129.out 0).trans rfl,(blk_cell BK129.out 1).trans rfl,(blk_cell BK129.out 2).trans rfl,(blk_cell BK129.out 3).trans rfl,(blk_cell BK129.out 4).trans rfl⟩ (fun hHeld => ?_)
       clear hK K
       refine norm_ (a':=?_) ?_ ?_
       rotate_left
       ·show Act.put _ (some 110) _ = _
        simp only [Act.put,List.setIfInBounds_toArray,List.set_cons_zero,List.set_cons_succ,i64_w,i32_w]
        rfl
       refine oI 4 (some 111) (fun K hK => ?_)
       refine Kd.R_append_rows_step (Kd.int .i64) (w0:=w) w.heap.size (by rfl) (.tmp 108) (.tmp 110) 22 3 (.int .i64 0) 8 rfl Try.underlying22 info3 rfl (by decide) (by omega) (.slice Ao60 x130002_1.length co60) x130002_1 y135 _ _ _ (fun k_ => some k_ ≠ (.slice Ao61 x130003_1.length co61 : Value).ownBlock ∧ some k_ ≠ (v142 : Value).ownBlock ∧ some k_ ≠ (.slice Ao68 y135.length co68 : Value).ownBlock) (fun _ => False) rfl rfl ?aO ?aR (fun _ _ h => h) (fun _ h => h.elim) ?aF ?aB ?aS ?aL ?_
       (case aR => exact Kd.C_up (Kd.R_reads' HO137.out).2.2)
       (case aB => exact (hb_))
       (case aF => exact (fun k_ hk => ⟨Kd.fresh' (Kd.R_lt (Kd.R_up HO_130003.out)) k_ hk,Kd.fresh' (Kd.R_lt (Kd.R_up HO143.out)) k_ hk,Kd.fresh' (Kd.R_lt (Kd.R_up HO137.out)) k_ hk⟩))
       (case aO => exact (by (with_reducible repeat (first|apply Kd.R_alloc|apply Kd.R_drewN|apply Kd.R_drew));exact Kd.R_mono HO_130002.out (fun _ hk => ⟨hk.1.1,⟨hk.1.2,hk.2⟩⟩)))
       (case aS => exact (below_size (hb_)))
       (case aL => have:=LMc54.out;omega)
       intro v139 w67 ho hb hg hat
       rw [← Ny138.out] at ho
       have n0_:=Aside0.mk (Kd.R_after (ok:=(fun k_ => some k_ ≠ (v142 : Value).ownBlock ∧ some k_ ≠ (.slice Ao68 y135.length co68 : Value).ownBlock)) (by (with_reducible repeat (first|apply Kd.R_alloc|apply Kd.R_drewN|apply Kd.R_drew));exact Kd.R_mono HO_130003.out (fun _ hk => ⟨⟨hk.1.2,hk.2⟩,hk.1.1⟩)) hg hat)
       have n1_:=Aside0.mk (Kd.R_over' (Kd.R_up HO_130004.out) (Kd.R_typed (Kd.R_up HO_130002.out)) (by decide) hg)
       have n2_:=Aside0.mk (blk_grown (blk_up BK126.out) hg (Kd.R_ne HO_130002.out BK126.out (by decide)))
       have n3_:=Aside0.mk (blk_grown (blk_up BK127.out) hg (Kd.R_ne HO_130002.out BK127.out (by decide)))
       have n4_:=Aside0.mk (blk_grown (blk_up BK129.out) hg (Kd.R_ne HO_130002.out BK129.out (by decide)))
       have n5_:=Aside0.mk (blk_grown (blk_up BK134.out) hg (Kd.R_ne HO_130002.out BK134.out (by decide)))
       have n6_:=Aside0.mk (Kd.R_after (ok:=(fun k_ => some k_ ≠ (.slice Ao61 x130003_1.length co61 : Value).ownBlock ∧ some k_ ≠ (.slice Ao68 y135.length co68 : Value).ownBlock)) (by (with_reducible repeat (first|apply Kd.R_alloc|apply Kd.R_drewN|apply Kd.R_drew));exact Kd.R_mono HO143.out (fun _ hk => ⟨⟨hk.1.2,hk.2⟩,hk.1.1.2⟩)) hg hat)
       have n7_:=Aside0.mk (Kd.R_after (ok:=(fun k_ => some k_ ≠ (.slice Ao61 x130003_1.length co61 : Value).ownBlock ∧ some k_ ≠ (v142 : Value).ownBlock)) (by (with_reducible repeat (first|apply Kd.R_alloc|apply Kd.R_drewN|apply Kd.R_drew));exact Kd.R_mono HO137.out (fun _ hk => ⟨⟨hk.1.2,hk.2⟩,hk.1.1.2⟩)) hg hat)
       have n8_:=Aside0.mk (hb)
       have n9_:=Aside0.mk (ho)
       clear HO_130003
       clear HO_130004
       clear BK126
       clear BK127
       clear BK129
       clear BK134
       clear HO143
       clear HO137
       clear HB
       clear HO_130002
       have HO_130003:=n0_
       have HO_130004:=n1_
       have BK126:=n2_
       have BK127:=n3_
       have BK129:=n4_
       have BK134:=n5_
       have HO143:=n6_
       have HO137:=n7_
       have HB:=n8_
       have HO140:=n9_
       clear n0_ n1_ n2_ n3_ n4_ n5_ n6_ n7_ n8_ n9_
       clear ho hb hg hat
       refine hK.out _ _ ⟨(blk_cell BK129.out 0).trans rfl,(blk_cell BK129.out 1).trans rfl,(blk_cell BK129.out 2).trans rfl,(blk_cell BK129.out 3).trans rfl,(blk_cell BK129.out 4).trans rfl⟩ (fun hHeld => ?_)
       clear hK K
       refine norm_ (a':=?_) ?_ ?_
       rotate_left
       ·show Act.put _ (some 111) _ = _
        simp only [Act.put,List.setIfInBounds_toArray,List.set_cons_zero,List.set_cons_succ,i64_w,i32_w]
        rfl
       refine pI 10 (some 117) ?_
       exact norm_ (by simp only [putAll,Act.put,List.setIfInBounds_toArray,List.set_cons_zero,List.set_cons_succ]) (hCont (.slice Ao68 y135.length co68,v139,v142) _ ⟨hHeld,(by (with_reducible repeat (first|apply Kd.R_alloc|apply Kd.R_drewN|apply Kd.R_drew));exact Kd.R_mono HO137.out (fun _ hk => ⟨hk.2,⟨hk.1.2,hk.1.1⟩⟩)),(by (with_reducible repeat (first|apply Kd.R_alloc|apply Kd.R_drewN|apply Kd.R_drew));exact Kd.R_mono HO140.out (fun _ hk => ⟨hk.2.2,⟨hk.2.1,hk.1⟩⟩)),(by (with_reducible repeat (first|apply Kd.R_alloc|apply Kd.R_drewN|apply Kd.R_drew));exact Kd.R_mono HO143.out (fun _ hk => ⟨hk.1.2,⟨hk.2,hk.1.1⟩⟩)),(by (with_reducible repeat (first|apply Kd.R_alloc|apply Kd.R_drewN|apply Kd.R_drew));exact Kd.R_mono HO_130003.out (fun _ hk => ⟨hk.1.2,⟨hk.2,hk.1.1⟩⟩)),(Kd.R_up HO_130004.out),(blk_up BK126.out),(blk_up BK127.out),(blk_up BK129.out),(blk_up BK134.out),(hb_)⟩)
     rintro ⟨v136,v139,v142⟩ w69 ⟨hS_,h0_,h1_,h2_,h3_,h4_,h5_,h6_,h7_,h8_,h9_⟩
     have n0_ : Aside0 (Kd.R (Kd.int .i64) 3 w69 w.heap.size (fun k_ => some k_ ≠ (v139 : Value).ownBlock ∧ some k_ ≠ (v142 : Value).ownBlock ∧ some k_ ≠ (.slice Ao61 x130003_1.length co61 : Value).ownBlock) v136 y135):=⟨h0_⟩
     have n1_ : Aside0 (Kd.R (Kd.int .i64) 3 w69 w.heap.size (fun k_ => some k_ ≠ (v136 : Value).ownBlock ∧ some k_ ≠ (v142 : Value).ownBlock ∧ some k_ ≠ (.slice Ao61 x130003_1.length co61 : Value).ownBlock) v139 y138):=⟨h1_⟩
     have n2_ : Aside0 (Kd.R (Kd.int .i64) 3 w69 w.heap.size (fun k_ => some k_ ≠ (v136 : Value).ownBlock ∧ some k_ ≠ (v139 : Value).ownBlock ∧ some k_ ≠ (.slice Ao61 x130003_1.length co61 : Value).ownBlock) v142 y141):=⟨h2_⟩
     have n3_ : Aside0 (Kd.R (Kd.int .i64) 3 w69 w.heap.size (fun k_ => some k_ ≠ (v136 : Value).ownBlock ∧ some k_ ≠ (v139 : Value).ownBlock ∧ some k_ ≠ (v142 : Value).ownBlock) (.slice Ao61 x130003_1.length co61) x130003_1):=⟨h3_⟩
     have n4_ : Aside0 (Kd.R Kd.bool 4 w69 w.heap.size (fun _ => True) u130004 x130004_1):=⟨h4_⟩
     have n5_ : Aside0 (w69.heap[gb126]? = some (.cells #[.int .i64 a0_0,.int .i64 a0_1,.slice (some ad130) l0_2.length c0_2] 24 (0,0))):=⟨h5_⟩
     have n6_ : Aside0 (w69.heap[gb127]? = some (.cells #[.int .i64 0,.int .i64 0,.slice none 0 0,.slice none 0 0,.slice none 0 0] 52 (0,0))):=⟨h6_⟩
     have n7_ : Aside0 (w69.heap[gb129]? = some (.cells #[.int .i64 a0_0,.int .i64 a0_1,.slice Ao60 x130002_1.length co60,.slice Ao61 x130003_1.length co61,u130004] 52 (0,0))):=⟨h7_⟩
     have n8_ : Aside0 (w69.heap[gb134]? = some (.cells #[.int .i64 (rd l0_2 (ji17)),.int .i64 (rd l0_2 (ji20)),.int .i64 (rd l0_2 (ji23)),.int .i64 (rd l0_2 (ji26))] 71 (0,0))):=⟨h8_⟩
     have n9_ : Aside0 (Below w.heap.size w w69):=⟨h9_⟩
     clear HO_130002
     clear HO_130003
     clear HO_130004
     clear BK126
     clear BK127
     clear BK129
     clear BK134
     clear HB
     clear h0_ h1_ h2_ h3_ h4_ h5_ h6_ h7_ h8_ h9_
     have HO137:=n0_
     have HO140:=n1_
     have HO143:=n2_
     have HO_130003:=n3_
     have HO_130004:=n4_
     have BK126:=n5_
     have BK127:=n6_
     have BK129:=n7_
     have BK134:=n8_
     have HB:=n9_
     clear n0_ n1_ n2_ n3_ n4_ n5_ n6_ n7_ n8_ n9_
     have hHeld : w69.cell? ⟨gb129,0,none⟩ = some (.int .i64 a0_0) ∧ w69.cell? ⟨gb129,1,none⟩ = some (.int .i64 a0_1) ∧ w69.cell? ⟨gb129,2,none⟩ = some (.slice Ao60 x130002_1.length co60) ∧ w69.cell? ⟨gb129,3,none⟩ = some (.slice Ao61 x130003_1.length co61) ∧ w69.cell? ⟨gb129,4,none⟩ = some (u130004):=hS_
     obtain ⟨Ao71,co71,eo71⟩:=Kd.R_slice HO143.out
     (first|subst eo71|(injection eo71 with f1_ f2_ f3_;have f4_:=f1_.symm;have f5_:=f3_.symm;clear f1_ f2_ f3_;subst f4_;subst f5_))
     refine norm_ (a':=?_) ?_ ?_
     rotate_left
     ·simp only [putAll,Act.put,List.setIfInBounds_toArray,List.set_cons_zero,List.set_cons_succ]
      rfl
     refine oI 9 (some 116) (fun K hK => ?_)
     refine Kd.R_append_rows_step (Kd.int .i64) (w0:=w) w.heap.size (by rfl) (.tmp 113) (.tmp 115) 22 3 (.int .i64 0) 8 rfl Try.underlying22 info3 rfl (by decide) (by omega) (.slice Ao61 x130003_1.length co61) x130003_1 y141 _ _ _ (fun k_ => some k_ ≠ (v136 : Value).ownBlock ∧ some k_ ≠ (v139 : Value).ownBlock ∧ some k_ ≠ (.slice Ao71 y141.length co71 : Value).ownBlock) (fun _ => False) rfl rfl ?aO ?aR (fun _ _ h => h) (fun _ h => h.elim) ?aF ?aB ?aS ?aL ?_
     (case aR => exact Kd.C_up (Kd.R_reads' HO143.out).2.2)
     (case aB => exact (hb_))
     (case aF => exact (fun k_ hk => ⟨Kd.fresh' (Kd.R_lt (Kd.R_up HO137.out)) k_ hk,Kd.fresh' (Kd.R_lt (Kd.R_up HO140.out)) k_ hk,Kd.fresh' (Kd.R_lt (Kd.R_up HO143.out)) k_ hk⟩))
     (case aO => exact (Kd.R_up HO_130003.out))
     (case aS => exact (below_size (hb_)))
     (case aL => have:=LMc55.out;omega)
     intro v145 w70 ho hb hg hat
     rw [← Ny144.out] at ho
     have n0_:=Aside0.mk (Kd.R_over' (Kd.R_up HO_130004.out) (Kd.R_typed (Kd.R_up HO_130003.out)) (by decide) hg)
     have n1_:=Aside0.mk (blk_grown (blk_up BK126.out) hg (Kd.R_ne HO_130003.out BK126.out (by decide)))
     have n2_:=Aside0.mk (blk_grown (blk_up BK127.out) hg (Kd.R_ne HO_130003.out BK127.out (by decide)))
     have n3_:=Aside0.mk (blk_grown (blk_up BK129.out) hg (Kd.R_ne HO_130003.out BK129.out (by decide)))
     have n4_:=Aside0.mk (blk_grown (blk_up BK134.out) hg (Kd.R_ne HO_130003.out BK134.out (by decide)))
     have n5_:=Aside0.mk (Kd.R_after (ok:=(fun k_ => some k_ ≠ (v139 : Value).ownBlock ∧ some k_ ≠ (.slice Ao71 y141.length co71 : Value).ownBlock)) (by (with_reducible repeat (first|apply Kd.R_alloc|apply Kd.R_drewN|apply Kd.R_drew));exact Kd.R_mono HO137.out (fun _ hk => ⟨⟨hk.1,hk.2.1⟩,hk.2.2⟩)) hg hat)
     have n6_:=Aside0.mk (Kd.R_after (ok:=(fun k_ => some k_ ≠ (v136 : Value).ownBlock ∧ some k_ ≠ (.slice Ao71 y141.length co71 : Value).ownBlock)) (by (with_reducible repeat (first|apply Kd.R_alloc|apply Kd.R_drewN|apply Kd.R_drew));exact Kd.R_mono HO140.out (fun _ hk => ⟨⟨hk.1,hk.2.1⟩,hk.2.2⟩)) hg hat)
     have n7_:=Aside0.mk (Kd.R_after (ok:=(fun k_ => some k_ ≠ (v136 : Value).ownBlock ∧ some k_ ≠ (v139 : Value).ownBlock)) (by (with_reducible repeat (first|apply Kd.R_alloc|apply Kd.R_drewN|apply Kd.R_drew));exact Kd.R_mono HO143.out (fun _ hk => ⟨⟨hk.1,hk.2.1⟩,hk.2.2⟩)) hg hat)
     have n8_:=Aside0.mk (hb)
     have n9_:=Aside0.mk (ho)
     clear HO_130004
     clear BK126
     clear BK127
     clear BK129
     clear BK134
     clear HO137
     clear HO140
     clear HO143
     clear HB
     clear HO_130003
     have HO_130004:=n0_
     have BK126:=n1_
     have BK127:=n2_
     have BK129:=n3_
     have BK134:=n4_
     have HO137:=n5_
     have HO140:=n6_
     have HO143:=n7_
     have HB:=n8_
     have HO146:=n9_
     clear n0_ n1_ n2_ n3_ n4_ n5_ n6_ n7_ n8_ n9_
     clear ho hb hg hat
     obtain ⟨Ao72,co72,eo72⟩:=Kd.R_slice HO140.out
     (first|subst eo72|(injection eo72 with f1_ f2_ f3_;have f4_:=f1_.symm;have f5_:=f3_.symm;clear f1_ f2_ f3_;subst f4_;subst f5_))
     obtain ⟨Ao74,co74,eo74⟩:=Kd.R_slice HO146.out
     (first|subst eo74|(injection eo74 with f1_ f2_ f3_;have f4_:=f1_.symm;have f5_:=f3_.symm;clear f1_ f2_ f3_;subst f4_;subst f5_))
     refine hK.out _ _ ⟨(blk_cell BK129.out 0).trans rfl,(blk_cell BK129.out 1).trans rfl,(blk_cell BK129.out 2).trans rfl,(blk_cell BK129.out 3).trans rfl,(blk_cell BK129.out 4).trans rfl⟩ (fun hHeld => ?_)
     clear hK K
     refine norm_ (a':=?_) ?_ ?_
     rotate_left
     ·show Act.put _ (some 116) _ = _
      simp only [Act.put,List.setIfInBounds_toArray,List.set_cons_zero,List.set_cons_succ,i64_w,i32_w]
      rfl
     refine last_ (i:=11) (N:=none) #[true,true,true,true,true,true,true,true,true,true,true,true,false,false] rfl rfl (one_of HT_.out (by kernel_rfl)) (by decide) (fun K hK => ?_)
     have hs73 : w70.cell? ⟨gb129,2,none⟩ = some (.slice Ao60 x130002_1.length co60):=(blk_cell BK129.out 2).trans rfl
     have hfs73:=blk_frozen BK129.out 2
     have hns73_0:=NB126_129.out
     have hns73_1:=NB127_129.out
     have hns73_3:=NB134_129.out
     have hms73_0:=NB129_126.out
     have hms73_1:=NB129_127.out
     have hms73_3:=NB129_134.out
     refine skip_ (w1:=?_) (by rfl) rfl ?_ ?_
     rotate_left
     ·go_simp
      rfl
     refine hK.out _ _ ?_
     clear hK K
     refine pI 12 (some 118) ?_
     refine last_ (i:=13) (N:=none) #[true,true,true,true,true,true,true,true,true,true,true,true,true,true] rfl rfl (one_of HT_.out (by kernel_rfl)) (by decide) (fun K hK => ?_)
     have hs75 : w70.cell? ⟨gb129,3,none⟩ = some (.slice Ao61 x130003_1.length co61):=(blk_cell BK129.out 3).trans rfl
     have hfs75:=blk_frozen BK129.out 3
     have hns75_0:=NB126_129.out
     have hns75_1:=NB127_129.out
     have hns75_3:=NB134_129.out
     have hms75_0:=NB129_126.out
     have hms75_1:=NB129_127.out
     have hms75_3:=NB129_134.out
     refine skip_ (w1:=?_) (by rfl) rfl ?_ ?_
     rotate_left
     ·go_simp
      rfl
     refine hK.out _ _ ?_
     clear hK K
     refine done_ (done_of HT_.out (by kernel_rfl)) ?_
     have hnb76:=NB129_126.out
     have hnc76:=NB126_129.out
     have hnb77:=NB129_127.out
     have hnc77:=NB127_129.out
     have hnb78:=NB129_134.out
     have hnc78:=NB134_129.out
     obtain ⟨hcz79_0,hcz79_1,hcz79_2,hcz79_3,hcz79_4,hfz79_0,hfz79_1,hfz79_2,hfz79_3,hfz79_4⟩:=cells5 BK129.out
     have hnb80:=NB134_126.out
     have hnc80:=NB126_134.out
     have hnb81:=NB134_127.out
     have hnc81:=NB127_134.out
     obtain ⟨hcz82_0,hcz82_1,hcz82_2,hcz82_3,hfz82_0,hfz82_1,hfz82_2,hfz82_3⟩:=cells4 BK134.out
     try go_wp2_with (first|((with_reducible refine gate_dst (N:=131) rfl ?_);refine Kd.R_lit Kd.bool _ 4 ?hg (N:=131) ?hd (xs:=([decide ((ji58) ≤ 2)] : List Bool)) (inner:=[.bool (decide ((ji58) ≤ 2))]) (ok:=fun _ => True) (okp:=fun _ => True) ?hr ?hp (fun _ hk => hk) trivial (Below.refl _ _) (Nat.le_refl _) (by simp) ?_;(case hd => rfl);(case hg => rfl);(case hr => first|(go_simp;done)|(go_simp;rfl));(case hp => exact (Reps.one (show Kd.M Kd.bool _ _ _ (decide ((ji58) ≤ 2)) [.bool (decide ((ji58) ≤ 2))] from rfl) (Reps.none _ _)));intro v148 w83 ho84 hb hg_ hnew_;clear hg_ hnew_;(first|rw [← Ny147.out] at ho84|(simp only [Int.reduceToNat] at ho84;rw [← Ny147.out] at ho84));have HO149:=Aside0.mk (Kd.R_lower (Kd.R_new' ho84 (Kd.R_lt (by (with_reducible repeat (first|apply Kd.R_alloc|apply Kd.R_drewN|apply Kd.R_drew));exact (Kd.R_mono (Kd.R_fars gb129 (Kd.R_types HO_130004.out BK129.out (by decide)) (fun _ hk => hk.2)) (fun _ h_ => h_.1))))) (below_size (hb_)));replace HO_130004:=Aside0.mk (Kd.R_elder' (by (with_reducible repeat (first|apply Kd.R_alloc|apply Kd.R_drewN|apply Kd.R_drew));exact (Kd.R_mono (Kd.R_fars gb129 (Kd.R_types HO_130004.out BK129.out (by decide)) (fun _ hk => hk.2)) (fun _ h_ => h_.1))) (Kd.R_base ho84) hb);replace HO137:=Aside0.mk (Kd.R_below (by (with_reducible repeat (first|apply Kd.R_alloc|apply Kd.R_drewN|apply Kd.R_drew));exact (Kd.R_mono (Kd.R_fars gb129 (Kd.R_types HO137.out BK129.out (by decide)) (fun _ hk => hk.2)) (fun _ h_ => h_.1))) hb);replace HO140:=Aside0.mk (Kd.R_below (by (with_reducible repeat (first|apply Kd.R_alloc|apply Kd.R_drewN|apply Kd.R_drew));exact (Kd.R_mono (Kd.R_fars gb129 (Kd.R_types HO140.out BK129.out (by decide)) (fun _ hk => hk.2)) (fun _ h_ => h_.1))) hb);replace HO143:=Aside0.mk (Kd.R_below (by (with_reducible repeat (first|apply Kd.R_alloc|apply Kd.R_drewN|apply Kd.R_drew));exact (Kd.R_mono (Kd.R_fars gb129 (Kd.R_types HO143.out BK129.out (by decide)) (fun _ hk => hk.2)) (fun _ h_ => h_.1))) hb);replace HO146:=Aside0.mk (Kd.R_below (by (with_reducible repeat (first|apply Kd.R_alloc|apply Kd.R_drewN|apply Kd.R_drew));exact (Kd.R_mono (Kd.R_fars gb129 (Kd.R_types HO146.out BK129.out (by decide)) (fun _ hk => hk.2)) (fun _ h_ => h_.1))) hb);replace BK126:=Aside0.mk (blk_below (g:=gb126) (o:=.cells #[.int .i64 a0_0,.int .i64 a0_1,.slice (some ad130) l0_2.length c0_2] 24 (0,0)) (by (with_reducible repeat (first|refine blk_drewN ?_ _|refine blk_drew ?_|refine blk_alloc ?_ _));refine blk_far ?_ NB126_129.out _;(with_reducible repeat (first|refine blk_drewN ?_ _|refine blk_drew ?_|refine blk_alloc ?_ _));refine blk_far ?_ NB126_129.out _;(with_reducible repeat (first|refine blk_drewN ?_ _|refine blk_drew ?_|refine blk_alloc ?_ _));exact BK126.out) hb);replace BK127:=Aside0.mk (blk_below (g:=gb127) (o:=.cells #[.int .i64 0,.int .i64 0,.slice none 0 0,.slice none 0 0,.slice none 0 0] 52 (0,0)) (by (with_reducible repeat (first|refine blk_drewN ?_ _|refine blk_drew ?_|refine blk_alloc ?_ _));refine blk_far ?_ NB127_129.out _;(with_reducible repeat (first|refine blk_drewN ?_ _|refine blk_drew ?_|refine blk_alloc ?_ _));refine blk_far ?_ NB127_129.out _;(with_reducible repeat (first|refine blk_drewN ?_ _|refine blk_drew ?_|refine blk_alloc ?_ _));exact BK127.out) hb);replace BK129:=Aside0.mk (blk_below (g:=gb129) (o:=.cells #[.int .i64 a0_0,.int .i64 a0_1,.slice Ao72 y138.length co72,.slice Ao74 y144.length co74,u130004] 52 (0,0)) (by (with_reducible repeat (first|refine blk_drewN ?_ _|refine blk_drew ?_|refine blk_alloc ?_ _));refine blk_put (cs:=#[.int .i64 a0_0,.int .i64 a0_1,.slice Ao72 y138.length co72,.slice Ao61 x130003_1.length co61,u130004]) ?_ 3 _ rfl;(with_reducible repeat (first|refine blk_drewN ?_ _|refine blk_drew ?_|refine blk_alloc ?_ _));refine blk_put (cs:=#[.int .i64 a0_0,.int .i64 a0_1,.slice Ao60 x130002_1.length co60,.slice Ao61 x130003_1.length co61,u130004]) ?_ 2 _ rfl;(with_reducible repeat (first|refine blk_drewN ?_ _|refine blk_drew ?_|refine blk_alloc ?_ _));exact BK129.out) hb);replace BK134:=Aside0.mk (blk_below (g:=gb134) (o:=.cells #[.int .i64 (rd l0_2 (ji17)),.int .i64 (rd l0_2 (ji20)),.int .i64 (rd l0_2 (ji23)),.int .i64 (rd l0_2 (ji26))] 71 (0,0)) (by (with_reducible repeat (first|refine blk_drewN ?_ _|refine blk_drew ?_|refine blk_alloc ?_ _));refine blk_far ?_ NB134_129.out _;(with_reducible repeat (first|refine blk_drewN ?_ _|refine blk_drew ?_|refine blk_alloc ?_ _));refine blk_far ?_ NB134_129.out _;(with_reducible repeat (first|refine blk_drewN ?_ _|refine blk_drew ?_|refine blk_alloc ?_ _));exact BK134.out) hb);replace HB:=Aside0.mk (below_step (hb_) hb);clear hb ho84;obtain ⟨Ao86,co86,eo86⟩:=Kd.R_slice HO149.out;subst eo86)|((with_reducible refine gate_builtin (b:=.append) (xs:=#[.tmp 120,.tmp 131]) rfl ?_);at_builtin;refine Kd.R_append_rows Kd.bool (w0:=w) w.heap.size rfl (.tmp 120) (.tmp 131) 50 4 (.bool false) 1 rfl Try.underlying50 info4 rfl (by decide) (by omega) u130004 x130004_1 y147 _ _ _ (fun k_ => some k_ ≠ (.slice Ao86 y147.length co86 : Value).ownBlock) (fun _ => False) rfl rfl ?aO ?aR (fun _ _ h => h) (fun _ h => h.elim) ?aF ?aB ?aS ?aL ?_;(case aR => exact Kd.C_up (Kd.R_reads' HO149.out).2.2);(case aB => exact (hb_));(case aF => exact (fun k_ hk => Kd.fresh' (Kd.R_lt (Kd.R_up HO149.out)) k_ hk));(case aO => exact (by (with_reducible repeat (first|apply Kd.R_alloc|apply Kd.R_drewN|apply Kd.R_drew));exact Kd.R_mono HO_130004.out (fun _ hk => hk.2)));(case aS => exact (below_size (hb_)));(case aL => have:=LMc59.out;omega);intro v151 w85 ho hb hg hat;rw [← Ny150.out] at ho;have HO152:=Aside0.mk (ho);replace BK126:=Aside0.mk (blk_grown (blk_up BK126.out) hg (Kd.R_ne HO_130004.out BK126.out (by decide)));replace BK127:=Aside0.mk (blk_grown (blk_up BK127.out) hg (Kd.R_ne HO_130004.out BK127.out (by decide)));replace BK129:=Aside0.mk (blk_grown (blk_up BK129.out) hg (Kd.R_ne HO_130004.out BK129.out (by decide)));replace BK134:=Aside0.mk (blk_grown (blk_up BK134.out) hg (Kd.R_ne HO_130004.out BK134.out (by decide)));replace HO137:=Aside0.mk (Kd.R_over' (Kd.R_up HO137.out) (Kd.R_typed (Kd.R_up HO_130004.out)) (by decide) hg);replace HO140:=Aside0.mk (Kd.R_over' (Kd.R_up HO140.out) (Kd.R_typed (Kd.R_up HO_130004.out)) (by decide) hg);replace HO143:=Aside0.mk (Kd.R_over' (Kd.R_up HO143.out) (Kd.R_typed (Kd.R_up HO_130004.out)) (by decide) hg);replace HO146:=Aside0.mk (Kd.R_over' (Kd.R_up HO146.out) (Kd.R_typed (Kd.R_up HO_130004.out)) (by decide) hg);replace HO149:=Aside0.mk (Kd.R_after (ok:=(fun _ => True)) (Kd.R_up HO149.out) hg hat);replace HB:=Aside0.mk (hb);clear HO_130004;clear ho hb hg hat;obtain ⟨Ao87,co87,eo87⟩:=Kd.R_slice HO152.out;subst eo87;obtain ⟨hcz88_0,hcz88_1,hcz88_2,hcz88_3,hcz88_4,hfz88_0,hfz88_1,hfz88_2,hfz88_3,hfz88_4⟩:=cells5 BK129.out))
     go_roundg k2
     case measure => have:=HK1.out;have:=HK2.out;omega
     case rel => exact ⟨(wrap64 (x31_1 + 1)),(y138),(y144),(y150),(.slice Ao72 y138.length co72),(.slice Ao74 y144.length co74),(.slice Ao87 y150.length co87),(by first|rfl|(simp;done)|(simp [*];done)),H',⟨by have:=HK1.out;have:=HK2.out;omega⟩,⟨by (with_reducible repeat (first|apply Kd.R_alloc|apply Kd.R_drewN|apply Kd.R_drew));exact Kd.R_mono (Kd.R_far (p:=⟨gb129,4,none⟩) (Kd.R_types HO140.out BK129.out (by decide)) (fun _ hk => hk.2) (.slice Ao87 y150.length co87)) (fun _ hk => hk.1.2)⟩,⟨by (with_reducible repeat (first|apply Kd.R_alloc|apply Kd.R_drewN|apply Kd.R_drew));exact Kd.R_mono (Kd.R_far (p:=⟨gb129,4,none⟩) (Kd.R_types HO146.out BK129.out (by decide)) (fun _ hk => hk.2) (.slice Ao87 y150.length co87)) (fun _ hk => hk.1.2.1)⟩,⟨by (with_reducible repeat (first|apply Kd.R_alloc|apply Kd.R_drewN|apply Kd.R_drew));exact Kd.R_mono (Kd.R_far (p:=⟨gb129,4,none⟩) (Kd.R_types HO152.out BK129.out (by decide)) (fun _ hk => hk.2) (.slice Ao87 y150.length co87)) (fun _ hk => trivial)⟩,⟨by (with_reducible repeat (first|refine blk_drewN ?_ _|refine blk_drew ?_|refine blk_alloc ?_ _));refine blk_far ?_ NB126_129.out _;(with_reducible repeat (first|refine blk_drewN ?_ _|refine blk_drew ?_|refine blk_alloc ?_ _));exact BK126.out⟩,⟨by (with_reducible repeat (first|refine blk_drewN ?_ _|refine blk_drew ?_|refine blk_alloc ?_ _));refine blk_far ?_ NB127_129.out _;(with_reducible repeat (first|refine blk_drewN ?_ _|refine blk_drew ?_|refine blk_alloc ?_ _));exact BK127.out⟩,⟨by (with_reducible repeat (first|refine blk_drewN ?_ _|refine blk_drew ?_|refine blk_alloc ?_ _));refine blk_put (cs:=#[.int .i64 a0_0,.int .i64 a0_1,.slice Ao72 y138.length co72,.slice Ao74 y144.length co74,u130004]) ?_ 4 _ rfl;(with_reducible repeat (first|refine blk_drewN ?_ _|refine blk_drew ?_|refine blk_alloc ?_ _));exact BK129.out⟩,⟨hb_⟩⟩

end Go.Proofs.Ytiencnnkphipoaa.P
