/- Functions of this seat as plain Lean functions, with proofs that the Go code comes to just their answers, or what stands between them and a law's statement; no conditions. (Laid by a program of this session, out of the kit's print.) -/
import Derived.Test.YthjmdpekcleihaaPx0
import Derived.Test.YthjmdpekcleihaaPx4
namespace Go.Proofs.Ythjmdpekcleihaa.P
open Go.RowKit Go.Proofs.YthjmdpekcleihaaW.PrintWords Go.Proofs.YthjmdpekcleihaaW.PrintLast Go.Proofs.YthjmdpekcleihaaW.PrintMore
attribute [local go_sem] max2_int min2_int max_two min_two max_three min_three max_four min_four   -- for this text's walks alone
set_option linter.unusedVariables false
set_option linter.unusedSimpArgs false

/-! ### water_groundOf: function 94 -/
mutual
def water_groundOf.l0 : Nat → Int → Int → Int → Int → List Int → Int → Int → List Int → List Int → List Bool → Option (Int × Int × List Int × List Int × List Bool × Int)
 | 0,_,_,_,_,_,_,_,_,_,_ => none
 | k + 1,x30,x31,x171000,x171001,x171002,x174000,x174001,x174002,x174003,x174004 => if x31 < x30 then (if x171000 = 0 then (none) else (if 0 ≤ (wrap64 ((wrap64 ((wrap64 (Int.tdiv x31 x171000)) * (wrap64 (x171000 + 1)))) + (Int.tmod x31 x171000))) then (if (wrap64 ((wrap64 ((wrap64 (Int.tdiv x31 x171000)) * (wrap64 (x171000 + 1)))) + (Int.tmod x31 x171000))) < (x171002.length : Int) then (if 0 ≤ (wrap64 ((wrap64 ((wrap64 ((wrap64 (Int.tdiv x31 x171000)) * (wrap64 (x171000 + 1)))) + (Int.tmod x31 x171000))) + 1)) then (if (wrap64 ((wrap64 ((wrap64 ((wrap64 (Int.tdiv x31 x171000)) * (wrap64 (x171000 + 1)))) + (Int.tmod x31 x171000))) + 1)) < (x171002.length : Int) then (if 0 ≤ (wrap64 ((wrap64 ((wrap64 ((wrap64 ((wrap64 (Int.tdiv x31 x171000)) * (wrap64 (x171000 + 1)))) + (Int.tmod x31 x171000))) + x171000)) + 2)) then (if (wrap64 ((wrap64 ((wrap64 ((wrap64 ((wrap64 (Int.tdiv x31 x171000)) * (wrap64 (x171000 + 1)))) + (Int.tmod x31 x171000))) + x171000)) + 2)) < (x171002.length : Int) then (if 0 ≤ (wrap64 ((wrap64 ((wrap64 ((wrap64 ((wrap64 (Int.tdiv x31 x171000)) * (wrap64 (x171000 + 1)))) + (Int.tmod x31 x171000))) + x171000)) + 1)) then (if (wrap64 ((wrap64 ((wrap64 ((wrap64 ((wrap64 (Int.tdiv x31 x171000)) * (wrap64 (x171000 + 1)))) + (Int.tmod x31 x171000))) + x171000)) + 1)) < (x171002.length : Int) then (water_groundOf.l1 k (mn (mn (mn (rd x171002 (wrap64 ((wrap64 ((wrap64 (Int.tdiv x31 x171000)) * (wrap64 (x171000 + 1)))) + (Int.tmod x31 x171000)))) (rd x171002 (wrap64 ((wrap64 ((wrap64 ((wrap64 (Int.tdiv x31 x171000)) * (wrap64 (x171000 + 1)))) + (Int.tmod x31 x171000))) + 1)))) (rd x171002 (wrap64 ((wrap64 ((wrap64 ((wrap64 ((wrap64 (Int.tdiv x31 x171000)) * (wrap64 (x171000 + 1)))) + (Int.tmod x31 x171000))) + x171000)) + 2)))) (rd x171002 (wrap64 ((wrap64 ((wrap64 ((wrap64 ((wrap64 (Int.tdiv x31 x171000)) * (wrap64 (x171000 + 1)))) + (Int.tmod x31 x171000))) + x171000)) + 1)))) 0 x30 x31 (⟨rd x171002 (wrap64 ((wrap64 ((wrap64 (Int.tdiv x31 x171000)) * (wrap64 (x171000 + 1)))) + (Int.tmod x31 x171000))),rd x171002 (wrap64 ((wrap64 ((wrap64 ((wrap64 (Int.tdiv x31 x171000)) * (wrap64 (x171000 + 1)))) + (Int.tmod x31 x171000))) + 1)),rd x171002 (wrap64 ((wrap64 ((wrap64 ((wrap64 ((wrap64 (Int.tdiv x31 x171000)) * (wrap64 (x171000 + 1)))) + (Int.tmod x31 x171000))) + x171000)) + 2)),rd x171002 (wrap64 ((wrap64 ((wrap64 ((wrap64 ((wrap64 (Int.tdiv x31 x171000)) * (wrap64 (x171000 + 1)))) + (Int.tmod x31 x171000))) + x171000)) + 1))⟩ : S126) 0 x171000 x171001 x171002 x174000 x174001 x174002 x174003 x174004 (rd x171002 (wrap64 ((wrap64 ((wrap64 (Int.tdiv x31 x171000)) * (wrap64 (x171000 + 1)))) + (Int.tmod x31 x171000)))) (rd x171002 (wrap64 ((wrap64 ((wrap64 ((wrap64 (Int.tdiv x31 x171000)) * (wrap64 (x171000 + 1)))) + (Int.tmod x31 x171000))) + 1))) (rd x171002 (wrap64 ((wrap64 ((wrap64 ((wrap64 ((wrap64 (Int.tdiv x31 x171000)) * (wrap64 (x171000 + 1)))) + (Int.tmod x31 x171000))) + x171000)) + 2))) (rd x171002 (wrap64 ((wrap64 ((wrap64 ((wrap64 ((wrap64 (Int.tdiv x31 x171000)) * (wrap64 (x171000 + 1)))) + (Int.tmod x31 x171000))) + x171000)) + 1)))) else (none)) else (none)) else (none)) else (none)) else (none)) else (none)) else (none)) else (none))) else (some (x174000,x174001,x174002,x174003,x174004,0))
def water_groundOf.l1 : Nat → Int → Int → Int → Int → S126 → Int → Int → Int → List Int → Int → Int → List Int → List Int → List Bool → Int → Int → Int → Int → Option (Int × Int × List Int × List Int × List Bool × Int)
 | 0,_,_,_,_,_,_,_,_,_,_,_,_,_,_,_,_,_,_ => none
 | k + 1,x11,x12,x30,x31,x88,x89,x171000,x171001,x171002,x174000,x174001,x174002,x174003,x174004,x179000,x179001,x179002,x179003 => if x89 < 4 then (if 0 ≤ x89 then (if (ix126 x88 x89) > x11 then (if (ix126 x88 x89) > (wrap64 (x11 + 1)) then (water_groundOf.l1 k x11 (Go.bits .or .i64 (Go.bits .or .i64 x12 (shl .i64 1 x89)) 16) x30 x31 x88 (wrap64 (x89 + 1)) x171000 x171001 x171002 x174000 x174001 x174002 x174003 x174004 x179000 x179001 x179002 x179003) else (water_groundOf.l1 k x11 (Go.bits .or .i64 x12 (shl .i64 1 x89)) x30 x31 x88 (wrap64 (x89 + 1)) x171000 x171001 x171002 x174000 x174001 x174002 x174003 x174004 x179000 x179001 x179002 x179003)) else (if (ix126 x88 x89) > (wrap64 (x11 + 1)) then (water_groundOf.l1 k x11 (Go.bits .or .i64 x12 16) x30 x31 x88 (wrap64 (x89 + 1)) x171000 x171001 x171002 x174000 x174001 x174002 x174003 x174004 x179000 x179001 x179002 x179003) else (water_groundOf.l1 k x11 x12 x30 x31 x88 (wrap64 (x89 + 1)) x171000 x171001 x171002 x174000 x174001 x174002 x174003 x174004 x179000 x179001 x179002 x179003))) else (none)) else ((some (([x12] : List Int) : List Int)).bind fun y179 => (if x174002.length + y179.length < 17592186044416 then ((some (([x11] : List Int) : List Int)).bind fun y185 => (if x174003.length + y185.length < 17592186044416 then ((some (([decide ((mx (mx (mx x179000 x179001) x179002) x179003) ≤ 2)] : List Bool) : List Bool)).bind fun y191 => (if x174004.length + y191.length < 140737488355328 then (water_groundOf.l0 k x30 (wrap64 (x31 + 1)) x171000 x171001 x171002 x174000 x174001 (x174002 ++ y179) (x174003 ++ y185) (x174004 ++ y191)) else (none))) else (none))) else (none)))
end
def water_groundOf.f (k : Nat) (a0_0 : Int) (a0_1 : Int) (l0_2 : List Int) : Option (Int × Int × List Int × List Int × List Bool × Int) := (land_Validate.f k a0_0 a0_1 l0_2).bind fun t172 => (if t172 = 0 then (water_groundOf.l0 k (wrap64 (a0_0 * a0_1)) 0 a0_0 a0_1 l0_2 a0_0 a0_1 ([] : List Int) ([] : List Int) ([] : List Bool)) else (some (0, 0, ([] : List Int), ([] : List Int), ([] : List Bool), t172)))
theorem water_groundOf.mono_l : ∀ k, (∀ y0 y1 y2 y3 y4 y5 y6 y7 y8 y9, LeO (water_groundOf.l0 k y0 y1 y2 y3 y4 y5 y6 y7 y8 y9) (water_groundOf.l0 (k + 1) y0 y1 y2 y3 y4 y5 y6 y7 y8 y9)) ∧ (∀ y0 y1 y2 y3 y4 y5 y6 y7 y8 y9 y10 y11 y12 y13 y14 y15 y16 y17, LeO (water_groundOf.l1 k y0 y1 y2 y3 y4 y5 y6 y7 y8 y9 y10 y11 y12 y13 y14 y15 y16 y17) (water_groundOf.l1 (k + 1) y0 y1 y2 y3 y4 y5 y6 y7 y8 y9 y10 y11 y12 y13 y14 y15 y16 y17))
 | 0 => ⟨fun _ _ _ _ _ _ _ _ _ _ r h => by simp [water_groundOf.l0] at h,fun _ _ _ _ _ _ _ _ _ _ _ _ _ _ _ _ _ _ r h => by simp [water_groundOf.l1] at h⟩
 | k + 1 => by
  obtain ⟨ih0,ih1⟩:=water_groundOf.mono_l k
  refine ⟨?_,?_⟩
  ·intro y0 y1 y2 y3 y4 y5 y6 y7 y8 y9
   unfold water_groundOf.l0
   repeat' first
   | (with_reducible exact ih0 _ _ _ _ _ _ _ _ _ _)
   | (with_reducible exact ih1 _ _ _ _ _ _ _ _ _ _ _ _ _ _ _ _ _ _)
   | (with_reducible exact land_Validate.mono _ _ _ _)
   | (with_reducible exact LeO.refl _)
   | (with_reducible exact LeO.none _)
   | (with_reducible refine LeO.ite ?_ ?_)
   | (with_reducible refine LeO.bind ?_ (fun _ => ?_))
   | exact ih0 _ _ _ _ _ _ _ _ _ _
   | exact ih1 _ _ _ _ _ _ _ _ _ _ _ _ _ _ _ _ _ _
   | exact land_Validate.mono _ _ _ _
   | exact LeO.none _
   | refine LeO.ite ?_ ?_
   | refine LeO.bind ?_ (fun _ => ?_)
  ·intro y0 y1 y2 y3 y4 y5 y6 y7 y8 y9 y10 y11 y12 y13 y14 y15 y16 y17
   unfold water_groundOf.l1
   repeat' first
   | (with_reducible exact ih0 _ _ _ _ _ _ _ _ _ _)
   | (with_reducible exact ih1 _ _ _ _ _ _ _ _ _ _ _ _ _ _ _ _ _ _)
   | (with_reducible exact land_Validate.mono _ _ _ _)
   | (with_reducible exact LeO.refl _)
   | (with_reducible exact LeO.none _)
   | (with_reducible refine LeO.ite ?_ ?_)
   | (with_reducible refine LeO.bind ?_ (fun _ => ?_))
   | exact ih0 _ _ _ _ _ _ _ _ _ _
   | exact ih1 _ _ _ _ _ _ _ _ _ _ _ _ _ _ _ _ _ _
   | exact land_Validate.mono _ _ _ _
   | exact LeO.none _
   | refine LeO.ite ?_ ?_
   | refine LeO.bind ?_ (fun _ => ?_)
theorem water_groundOf.mono : ∀ a0 a1 a2 k, LeO (water_groundOf.f k a0 a1 a2) (water_groundOf.f (k + 1) a0 a1 a2) := by
 intro a0 a1 a2 k
 obtain ⟨ih0,ih1⟩:=water_groundOf.mono_l k
 unfold water_groundOf.f
 repeat' first
   | (with_reducible exact ih0 _ _ _ _ _ _ _ _ _ _)
   | (with_reducible exact ih1 _ _ _ _ _ _ _ _ _ _ _ _ _ _ _ _ _ _)
   | (with_reducible exact land_Validate.mono _ _ _ _)
   | (with_reducible exact LeO.refl _)
   | (with_reducible exact LeO.none _)
   | (with_reducible refine LeO.ite ?_ ?_)
   | (with_reducible refine LeO.bind ?_ (fun _ => ?_))
   | exact ih0 _ _ _ _ _ _ _ _ _ _
   | exact ih1 _ _ _ _ _ _ _ _ _ _ _ _ _ _ _ _ _ _
   | exact land_Validate.mono _ _ _ _
   | exact LeO.none _
   | refine LeO.ite ?_ ?_
   | refine LeO.bind ?_ (fun _ => ?_)
def water_groundOf.T8 : Bool × List (List Nat × List Nat) := (true, [([], []), ([], []), ([1], [1]), ([0, 2], [0, 2]), ([], []), ([], []), ([5], [5]), ([4, 6], [4, 6]), ([3, 0, 1, 2, 3], [3]), ([7, 8, 0, 1, 2, 3, 4, 5, 6, 7, 8], [7])])
def water_groundOf.B8 : List Nat := [0, 0, 2, 7, 0, 0, 32, 112, 15, 511]
theorem water_groundOf.tab8 : rtab .any (opsOf Try.f94 8) = water_groundOf.T8 := by kernel_rfl
theorem water_groundOf.bits8 : waitsOk water_groundOf.T8.2 water_groundOf.B8 = true := by kernel_rfl
def water_groundOf.T10 : Bool × List (List Nat × List Nat) := (true, [([], []), ([0], [0]), ([], []), ([1, 2], [1, 2]), ([3], [3]), ([], []), ([5], [5]), ([], []), ([7], [7]), ([6, 8], [6, 8]), ([9], [9]), ([], []), ([11], [11]), ([], []), ([], []), ([14], [14]), ([13, 15], [13, 15]), ([16], [16]), ([12, 17], [12, 17]), ([18], [18]), ([], []), ([20], [20]), ([], []), ([], []), ([23], [23]), ([22, 24], [22, 24]), ([25], [25]), ([21, 26], [21, 26]), ([27], [27]), ([4, 10, 19, 28], [4, 10, 19, 28]), ([], []), ([30, 29, 0, 1, 2, 3, 4, 5, 6, 7, 8, 9, 10, 11, 12, 13, 14, 15, 16, 17, 18, 19, 20, 21, 22, 23, 24, 25, 26, 27, 28, 29, 30], [29, 30])])
def water_groundOf.B10 : List Nat := [0, 1, 0, 7, 15, 0, 32, 0, 128, 480, 992, 0, 2048, 0, 0, 16384, 57344, 122880, 260096, 522240, 0, 1048576, 0, 0, 8388608, 29360128, 62914560, 133169152, 267386880, 536870911, 0, 2147483647]
theorem water_groundOf.tab10 : rtab .any (opsOf Try.f94 10) = water_groundOf.T10 := by kernel_rfl
theorem water_groundOf.bits10 : waitsOk water_groundOf.T10.2 water_groundOf.B10 = true := by kernel_rfl
def water_groundOf.T20 : Bool × List (List Nat × List Nat) := (true, [([], []), ([0], [0]), ([], []), ([2], [2]), ([1, 3], [1, 3]), ([], []), ([5], [5]), ([], []), ([7], [7]), ([6, 8, 4], [6, 8]), ([0, 1, 2, 3, 4, 5, 6], []), ([10, 4, 9, 0, 1, 2, 3, 4, 5, 6], [4, 10]), ([0, 1, 2, 3, 4, 5, 6, 7, 8, 9, 10, 11], []), ([12, 9, 11, 0, 1, 2, 3, 4, 5, 6, 7, 8, 9, 10, 11], [9, 12])])
def water_groundOf.B20 : List Nat := [0, 1, 0, 4, 15, 0, 32, 0, 128, 511, 127, 2047, 4095, 8191]
theorem water_groundOf.tab20 : rtab .any (opsOf Try.f94 20) = water_groundOf.T20 := by kernel_rfl
theorem water_groundOf.bits20 : waitsOk water_groundOf.T20.2 water_groundOf.B20 = true := by kernel_rfl
set_option maxHeartbeats 8000000 in
set_option maxRecDepth 100000 in
theorem water_groundOf.calls (k : Nat) (a0_0 : Int) (a0_1 : Int) (A0_2 : Option Addr) (c0_2 : Nat) (l0_2 : List Int) (r1 : Int) (r2 : Int) (r3 : List Int) (r4 : List Int) (r5 : List Bool) (r6 : Int) (w : World) (hr0_2 : Kd.C (Kd.int .i64) w A0_2 l0_2.length l0_2) (hc0_2 : l0_2.length ≤ c0_2) (h : water_groundOf.f k a0_0 a0_1 l0_2 = some (r1, r2, r3, r4, r5, r6)) :
  Calls Try.prog 94 #[.agg #[.int .i64 a0_0,.int .i64 a0_1,.slice A0_2 l0_2.length c0_2]] w fun e w' => ∃ v2_ v3_ v4_ : Value,e = .returned (.tuple #[.agg #[.int .i64 r1,.int .i64 r2,v2_,v3_,v4_],.int .i64 r6]) ∧ Kd.R (Kd.int .i64) 3 w' w.heap.size (fun k_ => some k_ ≠ (v3_ : Value).ownBlock) v2_ r3 ∧ Kd.R (Kd.int .i64) 3 w' w.heap.size (fun k_ => some k_ ≠ (v2_ : Value).ownBlock) v3_ r4 ∧ Kd.R Kd.bool 4 w' w.heap.size (fun _ => True) v4_ r5 ∧ Below w.heap.size w w':=by
 have hu53:=Try.underlying53
 have hu104:=Try.underlying104
 have hu126:=Try.underlying126
 have HR0_2:=Aside0.mk hr0_2
 have HC0_2:=Aside0.mk hc0_2
 clear hr0_2 hc0_2
 have HB:=Aside0.mk (Below.refl w.heap.size w)
 have H : ((land_Validate.f k a0_0 a0_1 l0_2).bind fun t172 => (if t172 = 0 then (water_groundOf.l0 k (wrap64 (a0_0 * a0_1)) 0 a0_0 a0_1 l0_2 a0_0 a0_1 ([] : List Int) ([] : List Int) ([] : List Bool)) else (some (0,0,([] : List Int),([] : List Int),([] : List Bool),t172)))) = some (r1,r2,r3,r4,r5,r6):=h
 clear h
 replace H:=Option.bind_eq_some_iff.mp H
 obtain ⟨t172,A20,H⟩:=H
 replace H : (if t172 = 0 then (water_groundOf.l0 k (wrap64 (a0_0 * a0_1)) 0 a0_0 a0_1 l0_2 a0_0 a0_1 ([] : List Int) ([] : List Int) ([] : List Bool)) else (some (0,0,([] : List Int),([] : List Int),([] : List Bool),t172))) = some (r1,r2,r3,r4,r5,r6):=H
 have A2:=Aside0.mk A20
 clear A20
 by_cases c3 : t172 = 0
 rotate_left
 ·rw [if_neg c3] at H
  have c3b0:=bqf c3
  have c3b1:=bnt c3
  simp only [Option.some.injEq,Prod.mk.injEq] at H
  obtain ⟨rfl,rfl,rfl,rfl,rfl,rfl⟩:=H
  go_enter Try.func94,Try.ntmps94
  go_wp2_with (first|((with_reducible refine gate_dst (N:=1) rfl ?_);refine box_ev (N:=1) (cs:=#[.int .i64 a0_0,.int .i64 a0_1,.slice A0_2 l0_2.length c0_2]) (t:=53) ?_;intro gb170 hg w97 hbox hb;have BK170:=Aside0.mk (hbox);have GW170 : Aside0 (w.heap.size ≤ gb170):=gsz hg;have GE170:=GW170;replace HB:=hbs hb;clear hb hbox hg)|((with_reducible refine gate_dst (N:=2) rfl ?_);refine box_ev (N:=2) (cs:=#[.int .i64 0,.int .i64 0,.slice none 0 0,.slice none 0 0,.slice none 0 0]) (t:=104) ?_;intro gb171 hg w98 hbox hb;have BK171:=Aside0.mk (hbox);have GW171 : Aside0 (w.heap.size ≤ gb171):=gsz hg;have GE171:=GW171;have NB170_171:=nbl BK170 hg;have NB171_170:=nbr BK170 hg;replace BK170:=bkb BK170 hb;replace HB:=hbs hb;clear hb hbox hg;have hnb99:=NB170_171.out;have hnc99:=NB171_170.out;obtain ⟨_,_,_,_,_,_⟩:=cells3 BK170.out)|((with_reducible refine gate_callee (f:=55) rfl ?_);refine goesL_ (some 16) rfl rfl Try.func55 (by kernel_rfl) rfl #[.agg #[.int .i64 a0_0,.int .i64 a0_1,.slice A0_2 l0_2.length c0_2]] rfl ga_ ?_;(with_reducible refine (land_Validate.calls k a0_0 a0_1 _ _ l0_2 t172 _ ?_ ?_ A2.out).mono ?_);exact cq HR0_2;exact HC0_2.out;rintro e w101 ⟨rfl,hb⟩;refine ⟨_,rfl,?_⟩;replace BK170:=bkb BK170 hb;replace BK171:=bkb BK171 hb;replace HB:=hbs hb;obtain ⟨_,_,_,_,_,_,_,_,_,_⟩:=cells5 BK171.out))
  refine bodyPost_ret (results_ct rfl _ _ gb171 104 #[.int .i64 0,.int .i64 0,.slice none 0 0,.slice none 0 0,.slice none 0 0] (0,0) _ rfl (by (with_reducible repeat (first|refine blk_drewN ?_ _|refine blk_drew ?_|refine blk_alloc ?_ _));exact blk_puts5 (blk_up BK171.out)) Try.underlying104 rfl (by kernel_rfl)) rfl ?_
  exact ⟨_,_,_,er_,nl_,nl_,nl_,hb_⟩
 rw [if_pos c3] at H
 have c3b0:=bqt c3
 have c3b1:=bnf c3
 clear c3
 have H':=Aside0.mk H
 clear H
 go_enter Try.func94,Try.ntmps94
 go_wp2_with (first|((with_reducible refine gate_dst (N:=1) rfl ?_);refine box_ev (N:=1) (cs:=#[.int .i64 a0_0,.int .i64 a0_1,.slice A0_2 l0_2.length c0_2]) (t:=53) ?_;intro gb170 hg w4 hbox hb;have BK170:=Aside0.mk (hbox);have GW170 : Aside0 (w.heap.size ≤ gb170):=gsz hg;have GE170:=GW170;replace HB:=hbs hb;clear hb hbox hg)|((with_reducible refine gate_dst (N:=2) rfl ?_);refine box_ev (N:=2) (cs:=#[.int .i64 0,.int .i64 0,.slice none 0 0,.slice none 0 0,.slice none 0 0]) (t:=104) ?_;intro gb171 hg w5 hbox hb;have BK171:=Aside0.mk (hbox);have GW171 : Aside0 (w.heap.size ≤ gb171):=gsz hg;have GE171:=GW171;have NB170_171:=nbl BK170 hg;have NB171_170:=nbr BK170 hg;replace BK170:=bkb BK170 hb;replace HB:=hbs hb;clear hb hbox hg;have hnb6:=NB170_171.out;have hnc6:=NB171_170.out;obtain ⟨_,_,_,_,_,_⟩:=cells3 BK170.out)|((with_reducible refine gate_callee (f:=55) rfl ?_);refine goesL_ (some 16) rfl rfl Try.func55 (by kernel_rfl) rfl #[.agg #[.int .i64 a0_0,.int .i64 a0_1,.slice A0_2 l0_2.length c0_2]] rfl ga_ ?_;(with_reducible refine (land_Validate.calls k a0_0 a0_1 _ _ l0_2 t172 _ ?_ ?_ A2.out).mono ?_);exact cq HR0_2;exact HC0_2.out;rintro e w8 ⟨rfl,hb⟩;refine ⟨_,rfl,?_⟩;replace BK170:=bkb BK170 hb;replace BK171:=bkb BK171 hb;replace HB:=hbs hb;obtain ⟨_,_,_,_,_,_⟩:=cells3 BK170.out)|((with_reducible refine gate_dst (N:=5) rfl ?_);refine box_ev (N:=5) (cs:=#[.int .i64 0,.int .i64 0,.slice none 0 0,.slice none 0 0,.slice none 0 0]) (t:=104) ?_;intro gb173 hg w10 hbox hb;have BK173:=Aside0.mk (hbox);have GW173 : Aside0 (w.heap.size ≤ gb173):=gsz hg;have GE173:=GW173;have NB170_173:=nbl BK170 hg;have NB173_170:=nbr BK170 hg;have NB171_173:=nbl BK171 hg;have NB173_171:=nbr BK171 hg;replace BK170:=bkb BK170 hb;replace BK171:=bkb BK171 hb;replace HB:=hbs hb;clear hb hbox hg;have hnb11:=NB173_170.out;have hnc11:=NB170_173.out;have hnb12:=NB173_171.out;have hnc12:=NB171_173.out;obtain ⟨_,_,_,_,_,_,_,_,_,_⟩:=cells5 BK173.out;obtain ⟨_,_,_,_,_,_⟩:=cells3 BK170.out))
 go_loopg [31] k (fun kq v31 w' => ∃ (x31_1 : Int) (x174002_1 : List Int) (x174003_1 : List Int) (x174004_1 : List Bool) (u174002 : Value) (u174003 : Value) (u174004 : Value),v31 = .int .i64 x31_1 ∧ Aside0 (water_groundOf.l0 kq (wrap64 (a0_0 * a0_1)) x31_1 a0_0 a0_1 l0_2 a0_0 a0_1 x174002_1 x174003_1 x174004_1 = some (r1,r2,r3,r4,r5,r6)) ∧ Aside0 (kq ≤ k) ∧ Aside0 (Kd.R (Kd.int .i64) 3 w' w.heap.size (fun k_ => some k_ ≠ (u174003 : Value).ownBlock) u174002 x174002_1) ∧ Aside0 (Kd.R (Kd.int .i64) 3 w' w.heap.size (fun k_ => some k_ ≠ (u174002 : Value).ownBlock) u174003 x174003_1) ∧ Aside0 (Kd.R Kd.bool 4 w' w.heap.size (fun _ => True) u174004 x174004_1) ∧ Aside0 (w'.heap[gb170]? = some (.cells #[.int .i64 a0_0,.int .i64 a0_1,(.slice A0_2 l0_2.length c0_2)] 53 (0,0))) ∧ Aside0 (w'.heap[gb171]? = some (.cells #[.int .i64 0,.int .i64 0,(.slice none 0 0),(.slice none 0 0),(.slice none 0 0)] 104 (0,0))) ∧ Aside0 (w'.heap[gb173]? = some (.cells #[.int .i64 a0_0,.int .i64 a0_1,u174002,u174003,u174004] 104 (0,0))) ∧ Aside0 (Below w.heap.size w w'))
 case atStart => exact ⟨(0),(([] : List Int)),(([] : List Int)),(([] : List Bool)),(.slice none 0 0),(.slice none 0 0),(.slice none 0 0),(by first|rfl|(simp;done)|(simp [*];done)),H',⟨Nat.le_refl _⟩,⟨nl_⟩,⟨nl_⟩,⟨nl_⟩,⟨by (with_reducible repeat (first|refine blk_drewN ?_ _|refine blk_drew ?_|refine blk_alloc ?_ _));refine blk_far ?_ NB170_173.out _;(with_reducible repeat (first|refine blk_drewN ?_ _|refine blk_drew ?_|refine blk_alloc ?_ _));refine blk_far ?_ NB170_173.out _;(with_reducible repeat (first|refine blk_drewN ?_ _|refine blk_drew ?_|refine blk_alloc ?_ _));refine blk_far ?_ NB170_173.out _;(with_reducible repeat (first|refine blk_drewN ?_ _|refine blk_drew ?_|refine blk_alloc ?_ _));refine blk_far ?_ NB170_173.out _;(with_reducible repeat (first|refine blk_drewN ?_ _|refine blk_drew ?_|refine blk_alloc ?_ _));refine blk_far ?_ NB170_173.out _;(with_reducible repeat (first|refine blk_drewN ?_ _|refine blk_drew ?_|refine blk_alloc ?_ _));exact BK170.out⟩,⟨by (with_reducible repeat (first|refine blk_drewN ?_ _|refine blk_drew ?_|refine blk_alloc ?_ _));refine blk_far ?_ NB171_173.out _;(with_reducible repeat (first|refine blk_drewN ?_ _|refine blk_drew ?_|refine blk_alloc ?_ _));refine blk_far ?_ NB171_173.out _;(with_reducible repeat (first|refine blk_drewN ?_ _|refine blk_drew ?_|refine blk_alloc ?_ _));refine blk_far ?_ NB171_173.out _;(with_reducible repeat (first|refine blk_drewN ?_ _|refine blk_drew ?_|refine blk_alloc ?_ _));refine blk_far ?_ NB171_173.out _;(with_reducible repeat (first|refine blk_drewN ?_ _|refine blk_drew ?_|refine blk_alloc ?_ _));refine blk_far ?_ NB171_173.out _;(with_reducible repeat (first|refine blk_drewN ?_ _|refine blk_drew ?_|refine blk_alloc ?_ _));exact BK171.out⟩,⟨by (with_reducible repeat (first|refine blk_drewN ?_ _|refine blk_drew ?_|refine blk_alloc ?_ _));exact blk_puts5 (blk_up BK173.out)⟩,⟨hb_⟩⟩
 case round =>
  clear H'
  obtain ⟨x31_1,x174002_1,x174003_1,x174004_1,u174002,u174003,u174004,rfl,HA,HK1,HO_174002,HO_174003,HO_174004,BK170,BK171,BK173,HB⟩:=hrel
  cases gk with
  | zero => exact absurd HA.out (by simp [water_groundOf.l0])
  | succ k1 =>
   have H:=HA.out
   clear HA
   simp only [water_groundOf.l0] at H
   by_cases c15 : x31_1 < (wrap64 (a0_0 * a0_1))
   rotate_left
   ·rw [if_neg c15] at H
    have c15b0 : decide (x31_1 < (wrap64 (a0_0 * a0_1))) = false:=decide_eq_false c15
    clear c15
    simp only [Option.some.injEq,Prod.mk.injEq] at H
    obtain ⟨rfl,rfl,rfl,rfl,rfl,rfl⟩:=H
    have hnb89:=NB173_170.out
    have hnc89:=NB170_173.out
    have hnb90:=NB173_171.out
    have hnc90:=NB171_173.out
    obtain ⟨_,_,_,_,_,_,_,_,_,_⟩:=cells5 BK173.out
    have hnb92:=NB171_170.out
    have hnc92:=NB170_171.out
    obtain ⟨_,_,_,_,_,_,_,_,_,_⟩:=cells5 BK171.out
    obtain ⟨Ao94,co94,eo94⟩:=Kd.R_slice HO_174002.out
    subst eo94
    obtain ⟨Ao95,co95,eo95⟩:=Kd.R_slice HO_174003.out
    subst eo95
    obtain ⟨Ao96,co96,eo96⟩:=Kd.R_slice HO_174004.out
    subst eo96
    go_wp2
    refine bodyPost_ret (results_ct rfl _ _ gb171 104 #[.int .i64 a0_0,.int .i64 a0_1,.slice Ao94 x174002_1.length co94,.slice Ao95 x174003_1.length co95,.slice Ao96 x174004_1.length co96] (0,0) _ rfl (by (with_reducible repeat (first|refine blk_drewN ?_ _|refine blk_drew ?_|refine blk_alloc ?_ _));exact blk_puts5 (blk_up BK171.out)) Try.underlying104 rfl (by kernel_rfl)) rfl ?_
    exact ⟨_,_,_,er_,by (with_reducible repeat (first|apply Kd.R_alloc|apply Kd.R_drewN|apply Kd.R_drew));exact Kd.R_mono (Kd.R_fars gb171 (Kd.R_types HO_174002.out BK171.out (by decide)) (fun _ hk => hk.2)) (fun _ hk => hk.1),by (with_reducible repeat (first|apply Kd.R_alloc|apply Kd.R_drewN|apply Kd.R_drew));exact Kd.R_mono (Kd.R_fars gb171 (Kd.R_types HO_174003.out BK171.out (by decide)) (fun _ hk => hk.2)) (fun _ hk => hk.1),by (with_reducible repeat (first|apply Kd.R_alloc|apply Kd.R_drewN|apply Kd.R_drew));exact Kd.R_mono (Kd.R_fars gb171 (Kd.R_types HO_174004.out BK171.out (by decide)) (fun _ hk => hk.2)) (fun _ hk => trivial),hb_⟩
   rw [if_pos c15] at H
   have c15b0 : decide (x31_1 < (wrap64 (a0_0 * a0_1))) = true:=decide_eq_true c15
   clear c15
   replace H:=ifn_ H;obtain ⟨c16,H⟩:=H
   have c16b0 : (a0_0 == 0) = false:=beq_eq_false_iff_ne.mpr c16
   have c16b1 : (a0_0 != 0) = true:=bne_iff_ne.mpr c16
   obtain ⟨ji17,hji17⟩ : ∃ j_ : Int,(wrap64 ((wrap64 ((wrap64 (Int.tdiv x31_1 a0_0)) * (wrap64 (a0_0 + 1)))) + (Int.tmod x31_1 a0_0))) = j_:=⟨_,rfl⟩
   replace H : (if 0 ≤ (ji17) then (if (ji17) < (l0_2.length : Int) then (if 0 ≤ (wrap64 ((ji17) + 1)) then (if (wrap64 ((ji17) + 1)) < (l0_2.length : Int) then (if 0 ≤ (wrap64 ((wrap64 ((ji17) + a0_0)) + 2)) then (if (wrap64 ((wrap64 ((ji17) + a0_0)) + 2)) < (l0_2.length : Int) then (if 0 ≤ (wrap64 ((wrap64 ((ji17) + a0_0)) + 1)) then (if (wrap64 ((wrap64 ((ji17) + a0_0)) + 1)) < (l0_2.length : Int) then (water_groundOf.l1 k1 (mn (mn (mn (rd l0_2 (ji17)) (rd l0_2 (wrap64 ((ji17) + 1)))) (rd l0_2 (wrap64 ((wrap64 ((ji17) + a0_0)) + 2)))) (rd l0_2 (wrap64 ((wrap64 ((ji17) + a0_0)) + 1)))) 0 (wrap64 (a0_0 * a0_1)) x31_1 (⟨rd l0_2 (ji17),rd l0_2 (wrap64 ((ji17) + 1)),rd l0_2 (wrap64 ((wrap64 ((ji17) + a0_0)) + 2)),rd l0_2 (wrap64 ((wrap64 ((ji17) + a0_0)) + 1))⟩ : S126) 0 a0_0 a0_1 l0_2 a0_0 a0_1 x174002_1 x174003_1 x174004_1 (rd l0_2 (ji17)) (rd l0_2 (wrap64 ((ji17) + 1))) (rd l0_2 (wrap64 ((wrap64 ((ji17) + a0_0)) + 2))) (rd l0_2 (wrap64 ((wrap64 ((ji17) + a0_0)) + 1)))) else (none)) else (none)) else (none)) else (none)) else (none)) else (none)) else (none)) else (none)) = some (r1,r2,r3,r4,r5,r6):=by first|(rw [hji17] at H;exact H)|(simp only [hji17] at H ⊢;exact H)
   have hji17w : (IntKind.i64.wrap ((wrap64 ((wrap64 (Int.tdiv x31_1 a0_0)) * (wrap64 (a0_0 + 1)))) + (Int.tmod x31_1 a0_0))) = ji17:=(i64_w _).trans hji17
   replace H:=ifp_ H;obtain ⟨c18,H⟩:=H
   have c18b0 : decide (0 ≤ (ji17)) = true:=decide_eq_true c18
   clear c18
   replace H:=ifp_ H;obtain ⟨c19,H⟩:=H
   have c19b0 : decide ((ji17) < (l0_2.length : Int)) = true:=decide_eq_true c19
   clear c19
   obtain ⟨ji20,hji20⟩ : ∃ j_ : Int,(wrap64 ((ji17) + 1)) = j_:=⟨_,rfl⟩
   replace H : (if 0 ≤ (ji20) then (if (ji20) < (l0_2.length : Int) then (if 0 ≤ (wrap64 ((wrap64 ((ji17) + a0_0)) + 2)) then (if (wrap64 ((wrap64 ((ji17) + a0_0)) + 2)) < (l0_2.length : Int) then (if 0 ≤ (wrap64 ((wrap64 ((ji17) + a0_0)) + 1)) then (if (wrap64 ((wrap64 ((ji17) + a0_0)) + 1)) < (l0_2.length : Int) then (water_groundOf.l1 k1 (mn (mn (mn (rd l0_2 (ji17)) (rd l0_2 (ji20))) (rd l0_2 (wrap64 ((wrap64 ((ji17) + a0_0)) + 2)))) (rd l0_2 (wrap64 ((wrap64 ((ji17) + a0_0)) + 1)))) 0 (wrap64 (a0_0 * a0_1)) x31_1 (⟨rd l0_2 (ji17),rd l0_2 (ji20),rd l0_2 (wrap64 ((wrap64 ((ji17) + a0_0)) + 2)),rd l0_2 (wrap64 ((wrap64 ((ji17) + a0_0)) + 1))⟩ : S126) 0 a0_0 a0_1 l0_2 a0_0 a0_1 x174002_1 x174003_1 x174004_1 (rd l0_2 (ji17)) (rd l0_2 (ji20)) (rd l0_2 (wrap64 ((wrap64 ((ji17) + a0_0)) + 2))) (rd l0_2 (wrap64 ((wrap64 ((ji17) + a0_0)) + 1)))) else (none)) else (none)) else (none)) else (none)) else (none)) else (none)) = some (r1,r2,r3,r4,r5,r6):=by first|(rw [hji20] at H;exact H)|(simp only [hji20] at H ⊢;exact H)
   have hji20w : (IntKind.i64.wrap ((ji17) + 1)) = ji20:=(i64_w _).trans hji20
   replace H:=ifp_ H;obtain ⟨c21,H⟩:=H
   have c21b0 : decide (0 ≤ (ji20)) = true:=decide_eq_true c21
   clear c21
   replace H:=ifp_ H;obtain ⟨c22,H⟩:=H
   have c22b0 : decide ((ji20) < (l0_2.length : Int)) = true:=decide_eq_true c22
   clear c22
   obtain ⟨ji23,hji23⟩ : ∃ j_ : Int,(wrap64 ((wrap64 ((ji17) + a0_0)) + 2)) = j_:=⟨_,rfl⟩
   replace H : (if 0 ≤ (ji23) then (if (ji23) < (l0_2.length : Int) then (if 0 ≤ (wrap64 ((wrap64 ((ji17) + a0_0)) + 1)) then (if (wrap64 ((wrap64 ((ji17) + a0_0)) + 1)) < (l0_2.length : Int) then (water_groundOf.l1 k1 (mn (mn (mn (rd l0_2 (ji17)) (rd l0_2 (ji20))) (rd l0_2 (ji23))) (rd l0_2 (wrap64 ((wrap64 ((ji17) + a0_0)) + 1)))) 0 (wrap64 (a0_0 * a0_1)) x31_1 (⟨rd l0_2 (ji17),rd l0_2 (ji20),rd l0_2 (ji23),rd l0_2 (wrap64 ((wrap64 ((ji17) + a0_0)) + 1))⟩ : S126) 0 a0_0 a0_1 l0_2 a0_0 a0_1 x174002_1 x174003_1 x174004_1 (rd l0_2 (ji17)) (rd l0_2 (ji20)) (rd l0_2 (ji23)) (rd l0_2 (wrap64 ((wrap64 ((ji17) + a0_0)) + 1)))) else (none)) else (none)) else (none)) else (none)) = some (r1,r2,r3,r4,r5,r6):=by first|(rw [hji23] at H;exact H)|(simp only [hji23] at H ⊢;exact H)
   have hji23w : (IntKind.i64.wrap ((wrap64 ((ji17) + a0_0)) + 2)) = ji23:=(i64_w _).trans hji23
   replace H:=ifp_ H;obtain ⟨c24,H⟩:=H
   have c24b0 : decide (0 ≤ (ji23)) = true:=decide_eq_true c24
   clear c24
   replace H:=ifp_ H;obtain ⟨c25,H⟩:=H
   have c25b0 : decide ((ji23) < (l0_2.length : Int)) = true:=decide_eq_true c25
   clear c25
   obtain ⟨ji26,hji26⟩ : ∃ j_ : Int,(wrap64 ((wrap64 ((ji17) + a0_0)) + 1)) = j_:=⟨_,rfl⟩
   replace H : (if 0 ≤ (ji26) then (if (ji26) < (l0_2.length : Int) then (water_groundOf.l1 k1 (mn (mn (mn (rd l0_2 (ji17)) (rd l0_2 (ji20))) (rd l0_2 (ji23))) (rd l0_2 (ji26))) 0 (wrap64 (a0_0 * a0_1)) x31_1 (⟨rd l0_2 (ji17),rd l0_2 (ji20),rd l0_2 (ji23),rd l0_2 (ji26)⟩ : S126) 0 a0_0 a0_1 l0_2 a0_0 a0_1 x174002_1 x174003_1 x174004_1 (rd l0_2 (ji17)) (rd l0_2 (ji20)) (rd l0_2 (ji23)) (rd l0_2 (ji26))) else (none)) else (none)) = some (r1,r2,r3,r4,r5,r6):=by first|(rw [hji26] at H;exact H)|(simp only [hji26] at H ⊢;exact H)
   have hji26w : (IntKind.i64.wrap ((wrap64 ((ji17) + a0_0)) + 1)) = ji26:=(i64_w _).trans hji26
   replace H:=ifp_ H;obtain ⟨c27,H⟩:=H
   have c27b0 : decide (0 ≤ (ji26)) = true:=decide_eq_true c27
   clear c27
   replace H:=ifp_ H;obtain ⟨c28,H⟩:=H
   have c28b0 : decide ((ji26) < (l0_2.length : Int)) = true:=decide_eq_true c28
   clear c28
   obtain ⟨ji29,hji29⟩ : ∃ j_ : Int,(mn (rd l0_2 (ji17)) (rd l0_2 (ji20))) = j_:=⟨_,rfl⟩
   replace H : (water_groundOf.l1 k1 (mn (mn (ji29) (rd l0_2 (ji23))) (rd l0_2 (ji26))) 0 (wrap64 (a0_0 * a0_1)) x31_1 (⟨rd l0_2 (ji17),rd l0_2 (ji20),rd l0_2 (ji23),rd l0_2 (ji26)⟩ : S126) 0 a0_0 a0_1 l0_2 a0_0 a0_1 x174002_1 x174003_1 x174004_1 (rd l0_2 (ji17)) (rd l0_2 (ji20)) (rd l0_2 (ji23)) (rd l0_2 (ji26))) = some (r1,r2,r3,r4,r5,r6):=by first|(rw [hji29] at H;exact H)|(simp only [hji29] at H ⊢;exact H)
   have hji29_ : (if (rd l0_2 (ji20)) < (rd l0_2 (ji17)) then (rd l0_2 (ji20)) else (rd l0_2 (ji17))) = ji29:=hji29
   obtain ⟨ji30,hji30⟩ : ∃ j_ : Int,(mn (ji29) (rd l0_2 (ji23))) = j_:=⟨_,rfl⟩
   replace H : (water_groundOf.l1 k1 (mn (ji30) (rd l0_2 (ji26))) 0 (wrap64 (a0_0 * a0_1)) x31_1 (⟨rd l0_2 (ji17),rd l0_2 (ji20),rd l0_2 (ji23),rd l0_2 (ji26)⟩ : S126) 0 a0_0 a0_1 l0_2 a0_0 a0_1 x174002_1 x174003_1 x174004_1 (rd l0_2 (ji17)) (rd l0_2 (ji20)) (rd l0_2 (ji23)) (rd l0_2 (ji26))) = some (r1,r2,r3,r4,r5,r6):=by first|(rw [hji30] at H;exact H)|(simp only [hji30] at H ⊢;exact H)
   have hji30_ : (if (rd l0_2 (ji23)) < (ji29) then (rd l0_2 (ji23)) else (ji29)) = ji30:=hji30
   obtain ⟨ji31,hji31⟩ : ∃ j_ : Int,(mn (ji30) (rd l0_2 (ji26))) = j_:=⟨_,rfl⟩
   replace H : (water_groundOf.l1 k1 ji31 0 (wrap64 (a0_0 * a0_1)) x31_1 (⟨rd l0_2 (ji17),rd l0_2 (ji20),rd l0_2 (ji23),rd l0_2 (ji26)⟩ : S126) 0 a0_0 a0_1 l0_2 a0_0 a0_1 x174002_1 x174003_1 x174004_1 (rd l0_2 (ji17)) (rd l0_2 (ji20)) (rd l0_2 (ji23)) (rd l0_2 (ji26))) = some (r1,r2,r3,r4,r5,r6):=by first|(rw [hji31] at H;exact H)|(simp only [hji31] at H ⊢;exact H)
   have hji31_ : (if (rd l0_2 (ji26)) < (ji30) then (rd l0_2 (ji26)) else (ji30)) = ji31:=hji31
   have H':=Aside0.mk H
   clear H
   try go_wp2
   replace HO_174002:=Aside0.mk (Kd.R_drew HO_174002.out)
   replace HO_174003:=Aside0.mk (Kd.R_drew HO_174003.out)
   replace HO_174004:=Aside0.mk (Kd.R_drew HO_174004.out)
   replace BK170:=Aside0.mk (blk_drew BK170.out)
   replace BK171:=Aside0.mk (blk_drew BK171.out)
   replace BK173:=Aside0.mk (blk_drew BK173.out)
   replace HB:=Aside0.mk (below_drew1 HB.out)
   refine start_ (n:=10) (S:=fun w' => w'.cell? ⟨gb170,0,none⟩ = some (.int .i64 a0_0) ∧ w'.cell? ⟨gb170,1,none⟩ = some (.int .i64 a0_1) ∧ w'.cell? ⟨gb170,2,none⟩ = some (.slice A0_2 l0_2.length c0_2)) (ds:=[]) #[false,false,false,false,false,false,false,false,false,false] (by kernel_rfl) rfl rfl ⟨(blk_cell BK170.out 0).trans rfl,(blk_cell BK170.out 1).trans rfl,(blk_cell BK170.out 2).trans rfl⟩ (fun hHeld => ?_);refine with_tabW water_groundOf.tab8 water_groundOf.bits8 (fun HT_ HW_ => ?_)
   generalize wr.drew = w32 at HO_174002 HO_174003 HO_174004 BK170 BK171 BK173 HB hHeld ⊢
   refine pI 0 (some 34) ?_
   refine pI 1 (some 35) ?_
   refine pI 4 (some 38) ?_
   refine pI 5 (some 39) ?_
   refine tI3 2 (some 36) hHeld ?_
   refine pI 3 (some 37) ?_
   refine pI 8 (some 7) ?_
   refine tI3 6 (some 40) hHeld ?_
   refine pI 7 (some 41) ?_
   refine pI 9 (some 8) ?_
   refine done_ (done_of HT_.out (by kernel_rfl)) ?_
   have hnb33:=NB170_171.out
   have hnc33:=NB171_170.out
   have hnb34:=NB170_173.out
   have hnc34:=NB173_170.out
   obtain ⟨_,_,_,_,_,_⟩:=cells3 BK170.out
   try go_wp2
   replace HO_174002:=Aside0.mk (Kd.R_drew HO_174002.out)
   replace HO_174003:=Aside0.mk (Kd.R_drew HO_174003.out)
   replace HO_174004:=Aside0.mk (Kd.R_drew HO_174004.out)
   replace BK170:=Aside0.mk (blk_drew BK170.out)
   replace BK171:=Aside0.mk (blk_drew BK171.out)
   replace BK173:=Aside0.mk (blk_drew BK173.out)
   replace HB:=Aside0.mk (below_drew1 HB.out)
   have p174 : 0 ≤ ((ji17) : Int):=of_decide_eq_true (by first|(with_reducible assumption)|assumption)
   have q174 : (ji17) < (l0_2.length : Int):=of_decide_eq_true (by first|(with_reducible assumption)|assumption)
   obtain ⟨ad174,e174,hx174_0⟩:=Kd.at_int HR0_2.out (ji17) p174 q174
   have hw174_0:=hx174_0
   cases e174
   replace hx174_0:=(HB.out.cell (World.block_lt_of_cell? w _ hx174_0)).trans hx174_0
   replace p174:=eq_true p174
   replace q174:=eq_true q174
   have p175 : 0 ≤ ((ji20) : Int):=of_decide_eq_true (by first|(with_reducible assumption)|assumption)
   have q175 : (ji20) < (l0_2.length : Int):=of_decide_eq_true (by first|(with_reducible assumption)|assumption)
   obtain ⟨ad175,e175,hx175_0⟩:=Kd.at_int HR0_2.out (ji20) p175 q175
   have hw175_0:=hx175_0
   obtain rfl : ad174 = ad175:=(by injection e175)
   replace hx175_0:=(HB.out.cell (World.block_lt_of_cell? w _ hx175_0)).trans hx175_0
   replace p175:=eq_true p175
   replace q175:=eq_true q175
   have p176 : 0 ≤ ((ji23) : Int):=of_decide_eq_true (by first|(with_reducible assumption)|assumption)
   have q176 : (ji23) < (l0_2.length : Int):=of_decide_eq_true (by first|(with_reducible assumption)|assumption)
   obtain ⟨ad176,e176,hx176_0⟩:=Kd.at_int HR0_2.out (ji23) p176 q176
   have hw176_0:=hx176_0
   obtain rfl : ad174 = ad176:=(by injection e176)
   replace hx176_0:=(HB.out.cell (World.block_lt_of_cell? w _ hx176_0)).trans hx176_0
   replace p176:=eq_true p176
   replace q176:=eq_true q176
   have p177 : 0 ≤ ((ji26) : Int):=of_decide_eq_true (by first|(with_reducible assumption)|assumption)
   have q177 : (ji26) < (l0_2.length : Int):=of_decide_eq_true (by first|(with_reducible assumption)|assumption)
   obtain ⟨ad177,e177,hx177_0⟩:=Kd.at_int HR0_2.out (ji26) p177 q177
   have hw177_0:=hx177_0
   obtain rfl : ad174 = ad177:=(by injection e177)
   replace hx177_0:=(HB.out.cell (World.block_lt_of_cell? w _ hx177_0)).trans hx177_0
   replace p177:=eq_true p177
   replace q177:=eq_true q177
   refine start_ (n:=32) (S:=fun w' => w'.cell? ⟨gb170,0,none⟩ = some (.int .i64 a0_0) ∧ w'.cell? ⟨gb170,1,none⟩ = some (.int .i64 a0_1) ∧ w'.cell? ⟨gb170,2,none⟩ = some (.slice (some ad174) l0_2.length c0_2) ∧ w'.cell? (ad174.add ((ji17)).toNat) = some (.int .i64 (rd l0_2 (ji17))) ∧ w'.cell? (ad174.add ((ji20)).toNat) = some (.int .i64 (rd l0_2 (ji20))) ∧ w'.cell? (ad174.add ((ji23)).toNat) = some (.int .i64 (rd l0_2 (ji23))) ∧ w'.cell? (ad174.add ((ji26)).toNat) = some (.int .i64 (rd l0_2 (ji26)))) (ds:=[]) #[false,false,false,false,false,false,false,false,false,false,false,false,false,false,false,false,false,false,false,false,false,false,false,false,false,false,false,false,false,false,false,false] (by kernel_rfl) rfl rfl ⟨(blk_cell BK170.out 0).trans rfl,(blk_cell BK170.out 1).trans rfl,(blk_cell BK170.out 2).trans rfl,((HB.out.cell (World.block_lt_of_cell? w _ hw174_0)).trans hw174_0),((HB.out.cell (World.block_lt_of_cell? w _ hw175_0)).trans hw175_0),((HB.out.cell (World.block_lt_of_cell? w _ hw176_0)).trans hw176_0),((HB.out.cell (World.block_lt_of_cell? w _ hw177_0)).trans hw177_0)⟩ (fun hHeld => ?_);refine with_tabW water_groundOf.tab10 water_groundOf.bits10 (fun HT_ HW_ => ?_)
   generalize w32.drew = w36 at HO_174002 HO_174003 HO_174004 BK170 BK171 BK173 HB hx174_0 hx175_0 hx176_0 hx177_0 hHeld ⊢
   refine pI 0 (some 49) ?_
   refine pI 2 (some 51) ?_
   refine pI 5 (some 54) ?_
   refine pI 7 (some 56) ?_
   refine pI 8 (some 57) ?_
   refine pI 11 (some 60) ?_
   refine pI 13 (some 62) ?_
   refine pI 14 (some 63) ?_
   refine pI 20 (some 69) ?_
   refine pI 22 (some 71) ?_
   refine pI 23 (some 72) ?_
   refine tI7 1 (some 50) hHeld ?_
   refine pI 3 (some 52) ?_
   refine tI7 4 (some 53) hHeld ?_
   refine tI7 6 (some 55) hHeld ?_
   refine pI 9 (some 58) ?_
   refine tI7 10 (some 59) hHeld ?_
   refine tI7 12 (some 61) hHeld ?_
   refine tI7 15 (some 64) hHeld ?_
   refine pI 16 (some 65) ?_
   refine pI 17 (some 66) ?_
   refine pI 18 (some 67) ?_
   refine tI7 19 (some 68) hHeld ?_
   refine tI7 21 (some 70) hHeld ?_
   refine tI7 24 (some 73) hHeld ?_
   refine pI 25 (some 74) ?_
   refine pI 26 (some 75) ?_
   refine pI 27 (some 76) ?_
   refine tI7 28 (some 77) hHeld ?_
   refine pI 29 (some 78) ?_
   refine oI 30 (some 10) (fun K hK => ?_)
   refine box_step ?hg (N:=10) ?hd (cs:=#[.int .i64 0,.int .i64 0,.int .i64 0,.int .i64 0]) (t:=126) ?hr ?_;(case hd => rfl);(case hg => rfl);(case hr => first|(go_simp;done)|(go_simp;rfl))
   intro gb178 hg w37 hbox hb
   have n0_:=rbw HO_174002 hb
   have n1_:=rbw HO_174003 hb
   have n2_:=rbw HO_174004 hb
   have n3_:=bkb BK170 hb
   have n4_:=bkb BK171 hb
   have n5_:=bkb BK173 hb
   have n6_:=Aside0.mk (below_step (hb_) hb)
   have n7_:=Aside0.mk (hbox)
   have n8_:=Aside0.mk ((by rw [hg];exact (below_size (hb_)) : w.heap.size ≤ gb178))
   have n9_:=Aside0.mk ((by rw [hg];exact (below_size (hb_)) : w.heap.size ≤ gb178))
   have n10_:=Aside0.mk ((by rw [hg];exact Nat.ne_of_lt (blk_lt (blk_up BK170.out)) : gb170 ≠ gb178))
   have n11_:=Aside0.mk ((by rw [hg];exact Nat.ne_of_gt (blk_lt (blk_up BK170.out)) : gb178 ≠ gb170))
   have n12_:=Aside0.mk ((by rw [hg];exact Nat.ne_of_lt (blk_lt (blk_up BK171.out)) : gb171 ≠ gb178))
   have n13_:=Aside0.mk ((by rw [hg];exact Nat.ne_of_gt (blk_lt (blk_up BK171.out)) : gb178 ≠ gb171))
   have n14_:=Aside0.mk ((by rw [hg];exact Nat.ne_of_lt (blk_lt (blk_up BK173.out)) : gb173 ≠ gb178))
   have n15_:=Aside0.mk ((by rw [hg];exact Nat.ne_of_gt (blk_lt (blk_up BK173.out)) : gb178 ≠ gb173))
   clear HO_174002
   clear HO_174003
   clear HO_174004
   clear BK170
   clear BK171
   clear BK173
   clear HB
   have HO_174002:=n0_
   have HO_174003:=n1_
   have HO_174004:=n2_
   have BK170:=n3_
   have BK171:=n4_
   have BK173:=n5_
   have HB:=n6_
   have BK178:=n7_
   have GW178:=n8_
   have GE178:=n9_
   have NB170_178:=n10_
   have NB178_170:=n11_
   have NB171_178:=n12_
   have NB178_171:=n13_
   have NB173_178:=n14_
   have NB178_173:=n15_
   clear n0_ n1_ n2_ n3_ n4_ n5_ n6_ n7_ n8_ n9_ n10_ n11_ n12_ n13_ n14_ n15_
   clear hb hbox hg
   refine hK.out _ _ ⟨(blk_cell BK170.out 0).trans rfl,(blk_cell BK170.out 1).trans rfl,(blk_cell BK170.out 2).trans rfl,((HB.out.cell (World.block_lt_of_cell? w _ hw174_0)).trans hw174_0),((HB.out.cell (World.block_lt_of_cell? w _ hw175_0)).trans hw175_0),((HB.out.cell (World.block_lt_of_cell? w _ hw176_0)).trans hw176_0),((HB.out.cell (World.block_lt_of_cell? w _ hw177_0)).trans hw177_0)⟩ (fun hHeld => ?_)
   clear hK K
   refine norm_ (a':=?_) ?_ ?_
   rotate_left
   ·show Act.put _ (some 10) _ = _
    simp only [Act.put,List.setIfInBounds_toArray,List.set_cons_zero,List.set_cons_succ,i64_w,i32_w]
    rfl
   refine oI 31 (none) (fun K hK => ?_)
   have hs38 : w37.cell? ⟨gb178,0,none⟩ = some (.int .i64 0):=(blk_cell BK178.out 0).trans rfl
   have hfs38:=blk_frozen BK178.out 0
   have hns38_0:=NB170_178.out
   have hns38_1:=NB171_178.out
   have hns38_2:=NB173_178.out
   have hms38_0:=NB178_170.out
   have hms38_1:=NB178_171.out
   have hms38_2:=NB178_173.out
   have hs39 : w37.cell? ⟨gb178,1,none⟩ = some (.int .i64 0):=(blk_cell BK178.out 1).trans rfl
   have hfs39:=blk_frozen BK178.out 1
   have hns39_0:=NB170_178.out
   have hns39_1:=NB171_178.out
   have hns39_2:=NB173_178.out
   have hms39_0:=NB178_170.out
   have hms39_1:=NB178_171.out
   have hms39_2:=NB178_173.out
   have hs40 : w37.cell? ⟨gb178,2,none⟩ = some (.int .i64 0):=(blk_cell BK178.out 2).trans rfl
   have hfs40:=blk_frozen BK178.out 2
   have hns40_0:=NB170_178.out
   have hns40_1:=NB171_178.out
   have hns40_2:=NB173_178.out
   have hms40_0:=NB178_170.out
   have hms40_1:=NB178_171.out
   have hms40_2:=NB178_173.out
   have hs41 : w37.cell? ⟨gb178,3,none⟩ = some (.int .i64 0):=(blk_cell BK178.out 3).trans rfl
   have hfs41:=blk_frozen BK178.out 3
   have hns41_0:=NB170_178.out
   have hns41_1:=NB171_178.out
   have hns41_2:=NB173_178.out
   have hms41_0:=NB178_170.out
   have hms41_1:=NB178_171.out
   have hms41_2:=NB178_173.out
   refine skip_ (w1:=?_) (by rfl) rfl ?_ ?_
   rotate_left
   ·go_simp
    rfl
   refine hK.out _ _ ⟨((cell_far (p:=⟨gb178,_,none⟩) NB170_178.out _).trans (((cell_far (p:=⟨gb178,_,none⟩) NB170_178.out _).trans (((cell_far (p:=⟨gb178,_,none⟩) NB170_178.out _).trans (((cell_far (p:=⟨gb178,_,none⟩) NB170_178.out _).trans (hHeld.1)))))))),((cell_far (p:=⟨gb178,_,none⟩) NB170_178.out _).trans (((cell_far (p:=⟨gb178,_,none⟩) NB170_178.out _).trans (((cell_far (p:=⟨gb178,_,none⟩) NB170_178.out _).trans (((cell_far (p:=⟨gb178,_,none⟩) NB170_178.out _).trans (hHeld.2.1)))))))),((cell_far (p:=⟨gb178,_,none⟩) NB170_178.out _).trans (((cell_far (p:=⟨gb178,_,none⟩) NB170_178.out _).trans (((cell_far (p:=⟨gb178,_,none⟩) NB170_178.out _).trans (((cell_far (p:=⟨gb178,_,none⟩) NB170_178.out _).trans (hHeld.2.2.1)))))))),((cell_far (p:=⟨gb178,_,none⟩) (by first|exact Nat.ne_of_lt (Nat.lt_of_lt_of_le (by have:=World.block_lt_of_cell? _ _ hw174_0;first|rwa [add_block] at this|exact this) GW178.out)|(rw [add_block];exact Nat.ne_of_lt (Nat.lt_of_lt_of_le (by have:=World.block_lt_of_cell? _ _ hw174_0;first|rwa [add_block] at this|exact this) GW178.out))|(show (Addr.add _ _).block ≠ _;rw [add_block];exact Nat.ne_of_lt (Nat.lt_of_lt_of_le (by have:=World.block_lt_of_cell? _ _ hw174_0;first|rwa [add_block] at this|exact this) GW178.out))|(dsimp only;exact Nat.ne_of_lt (Nat.lt_of_lt_of_le (by have:=World.block_lt_of_cell? _ _ hw174_0;first|rwa [add_block] at this|exact this) GW178.out))) _).trans (((cell_far (p:=⟨gb178,_,none⟩) (by first|exact Nat.ne_of_lt (Nat.lt_of_lt_of_le (by have:=World.block_lt_of_cell? _ _ hw174_0;first|rwa [add_block] at this|exact this) GW178.out)|(rw [add_block];exact Nat.ne_of_lt (Nat.lt_of_lt_of_le (by have:=World.block_lt_of_cell? _ _ hw174_0;first|rwa [add_block] at this|exact this) GW178.out))|(show (Addr.add _ _).block ≠ _;rw [add_block];exact Nat.ne_of_lt (Nat.lt_of_lt_of_le (by have:=World.block_lt_of_cell? _ _ hw174_0;first|rwa [add_block] at this|exact this) GW178.out))|(dsimp only;exact Nat.ne_of_lt (Nat.lt_of_lt_of_le (by have:=World.block_lt_of_cell? _ _ hw174_0;first|rwa [add_block] at this|exact this) GW178.out))) _).trans (((cell_far (p:=⟨gb178,_,none⟩) (by first|exact Nat.ne_of_lt (Nat.lt_of_lt_of_le (by have:=World.block_lt_of_cell? _ _ hw174_0;first|rwa [add_block] at this|exact this) GW178.out)|(rw [add_block];exact Nat.ne_of_lt (Nat.lt_of_lt_of_le (by have:=World.block_lt_of_cell? _ _ hw174_0;first|rwa [add_block] at this|exact this) GW178.out))|(show (Addr.add _ _).block ≠ _;rw [add_block];exact Nat.ne_of_lt (Nat.lt_of_lt_of_le (by have:=World.block_lt_of_cell? _ _ hw174_0;first|rwa [add_block] at this|exact this) GW178.out))|(dsimp only;exact Nat.ne_of_lt (Nat.lt_of_lt_of_le (by have:=World.block_lt_of_cell? _ _ hw174_0;first|rwa [add_block] at this|exact this) GW178.out))) _).trans (((cell_far (p:=⟨gb178,_,none⟩) (by first|exact Nat.ne_of_lt (Nat.lt_of_lt_of_le (by have:=World.block_lt_of_cell? _ _ hw174_0;first|rwa [add_block] at this|exact this) GW178.out)|(rw [add_block];exact Nat.ne_of_lt (Nat.lt_of_lt_of_le (by have:=World.block_lt_of_cell? _ _ hw174_0;first|rwa [add_block] at this|exact this) GW178.out))|(show (Addr.add _ _).block ≠ _;rw [add_block];exact Nat.ne_of_lt (Nat.lt_of_lt_of_le (by have:=World.block_lt_of_cell? _ _ hw174_0;first|rwa [add_block] at this|exact this) GW178.out))|(dsimp only;exact Nat.ne_of_lt (Nat.lt_of_lt_of_le (by have:=World.block_lt_of_cell? _ _ hw174_0;first|rwa [add_block] at this|exact this) GW178.out))) _).trans (hHeld.2.2.2.1)))))))),((cell_far (p:=⟨gb178,_,none⟩) (by first|exact Nat.ne_of_lt (Nat.lt_of_lt_of_le (by have:=World.block_lt_of_cell? _ _ hw175_0;first|rwa [add_block] at this|exact this) GW178.out)|(rw [add_block];exact Nat.ne_of_lt (Nat.lt_of_lt_of_le (by have:=World.block_lt_of_cell? _ _ hw175_0;first|rwa [add_block] at this|exact this) GW178.out))|(show (Addr.add _ _).block ≠ _;rw [add_block];exact Nat.ne_of_lt (Nat.lt_of_lt_of_le (by have:=World.block_lt_of_cell? _ _ hw175_0;first|rwa [add_block] at this|exact this) GW178.out))|(dsimp only;exact Nat.ne_of_lt (Nat.lt_of_lt_of_le (by have:=World.block_lt_of_cell? _ _ hw175_0;first|rwa [add_block] at this|exact this) GW178.out))) _).trans (((cell_far (p:=⟨gb178,_,none⟩) (by first|exact Nat.ne_of_lt (Nat.lt_of_lt_of_le (by have:=World.block_lt_of_cell? _ _ hw175_0;first|rwa [add_block] at this|exact this) GW178.out)|(rw [add_block];exact Nat.ne_of_lt (Nat.lt_of_lt_of_le (by have:=World.block_lt_of_cell? _ _ hw175_0;first|rwa [add_block] at this|exact this) GW178.out))|(show (Addr.add _ _).block ≠ _;rw [add_block];exact Nat.ne_of_lt (Nat.lt_of_lt_of_le (by have:=World.block_lt_of_cell? _ _ hw175_0;first|rwa [add_block] at this|exact this) GW178.out))|(dsimp only;exact Nat.ne_of_lt (Nat.lt_of_lt_of_le (by have:=World.block_lt_of_cell? _ _ hw175_0;first|rwa [add_block] at this|exact this) GW178.out))) _).trans (((cell_far (p:=⟨gb178,_,none⟩) (by first|exact Nat.ne_of_lt (Nat.lt_of_lt_of_le (by have:=World.block_lt_of_cell? _ _ hw175_0;first|rwa [add_block] at this|exact this) GW178.out)|(rw [add_block];exact Nat.ne_of_lt (Nat.lt_of_lt_of_le (by have:=World.block_lt_of_cell? _ _ hw175_0;first|rwa [add_block] at this|exact this) GW178.out))|(show (Addr.add _ _).block ≠ _;rw [add_block];exact Nat.ne_of_lt (Nat.lt_of_lt_of_le (by have:=World.block_lt_of_cell? _ _ hw175_0;first|rwa [add_block] at this|exact this) GW178.out))|(dsimp only;exact Nat.ne_of_lt (Nat.lt_of_lt_of_le (by have:=World.block_lt_of_cell? _ _ hw175_0;first|rwa [add_block] at this|exact this) GW178.out))) _).trans (((cell_far (p:=⟨gb178,_,none⟩) (by first|exact Nat.ne_of_lt (Nat.lt_of_lt_of_le (by have:=World.block_lt_of_cell? _ _ hw175_0;first|rwa [add_block] at this|exact this) GW178.out)|(rw [add_block];exact Nat.ne_of_lt (Nat.lt_of_lt_of_le (by have:=World.block_lt_of_cell? _ _ hw175_0;first|rwa [add_block] at this|exact this) GW178.out))|(show (Addr.add _ _).block ≠ _;rw [add_block];exact Nat.ne_of_lt (Nat.lt_of_lt_of_le (by have:=World.block_lt_of_cell? _ _ hw175_0;first|rwa [add_block] at this|exact this) GW178.out))|(dsimp only;exact Nat.ne_of_lt (Nat.lt_of_lt_of_le (by have:=World.block_lt_of_cell? _ _ hw175_0;first|rwa [add_block] at this|exact this) GW178.out))) _).trans (hHeld.2.2.2.2.1)))))))),((cell_far (p:=⟨gb178,_,none⟩) (by first|exact Nat.ne_of_lt (Nat.lt_of_lt_of_le (by have:=World.block_lt_of_cell? _ _ hw176_0;first|rwa [add_block] at this|exact this) GW178.out)|(rw [add_block];exact Nat.ne_of_lt (Nat.lt_of_lt_of_le (by have:=World.block_lt_of_cell? _ _ hw176_0;first|rwa [add_block] at this|exact this) GW178.out))|(show (Addr.add _ _).block ≠ _;rw [add_block];exact Nat.ne_of_lt (Nat.lt_of_lt_of_le (by have:=World.block_lt_of_cell? _ _ hw176_0;first|rwa [add_block] at this|exact this) GW178.out))|(dsimp only;exact Nat.ne_of_lt (Nat.lt_of_lt_of_le (by have:=World.block_lt_of_cell? _ _ hw176_0;first|rwa [add_block] at this|exact this) GW178.out))) _).trans (((cell_far (p:=⟨gb178,_,none⟩) (by first|exact Nat.ne_of_lt (Nat.lt_of_lt_of_le (by have:=World.block_lt_of_cell? _ _ hw176_0;first|rwa [add_block] at this|exact this) GW178.out)|(rw [add_block];exact Nat.ne_of_lt (Nat.lt_of_lt_of_le (by have:=World.block_lt_of_cell? _ _ hw176_0;first|rwa [add_block] at this|exact this) GW178.out))|(show (Addr.add _ _).block ≠ _;rw [add_block];exact Nat.ne_of_lt (Nat.lt_of_lt_of_le (by have:=World.block_lt_of_cell? _ _ hw176_0;first|rwa [add_block] at this|exact this) GW178.out))|(dsimp only;exact Nat.ne_of_lt (Nat.lt_of_lt_of_le (by have:=World.block_lt_of_cell? _ _ hw176_0;first|rwa [add_block] at this|exact this) GW178.out))) _).trans (((cell_far (p:=⟨gb178,_,none⟩) (by first|exact Nat.ne_of_lt (Nat.lt_of_lt_of_le (by have:=World.block_lt_of_cell? _ _ hw176_0;first|rwa [add_block] at this|exact this) GW178.out)|(rw [add_block];exact Nat.ne_of_lt (Nat.lt_of_lt_of_le (by have:=World.block_lt_of_cell? _ _ hw176_0;first|rwa [add_block] at this|exact this) GW178.out))|(show (Addr.add _ _).block ≠ _;rw [add_block];exact Nat.ne_of_lt (Nat.lt_of_lt_of_le (by have:=World.block_lt_of_cell? _ _ hw176_0;first|rwa [add_block] at this|exact this) GW178.out))|(dsimp only;exact Nat.ne_of_lt (Nat.lt_of_lt_of_le (by have:=World.block_lt_of_cell? _ _ hw176_0;first|rwa [add_block] at this|exact this) GW178.out))) _).trans (((cell_far (p:=⟨gb178,_,none⟩) (by first|exact Nat.ne_of_lt (Nat.lt_of_lt_of_le (by have:=World.block_lt_of_cell? _ _ hw176_0;first|rwa [add_block] at this|exact this) GW178.out)|(rw [add_block];exact Nat.ne_of_lt (Nat.lt_of_lt_of_le (by have:=World.block_lt_of_cell? _ _ hw176_0;first|rwa [add_block] at this|exact this) GW178.out))|(show (Addr.add _ _).block ≠ _;rw [add_block];exact Nat.ne_of_lt (Nat.lt_of_lt_of_le (by have:=World.block_lt_of_cell? _ _ hw176_0;first|rwa [add_block] at this|exact this) GW178.out))|(dsimp only;exact Nat.ne_of_lt (Nat.lt_of_lt_of_le (by have:=World.block_lt_of_cell? _ _ hw176_0;first|rwa [add_block] at this|exact this) GW178.out))) _).trans (hHeld.2.2.2.2.2.1)))))))),((cell_far (p:=⟨gb178,_,none⟩) (by first|exact Nat.ne_of_lt (Nat.lt_of_lt_of_le (by have:=World.block_lt_of_cell? _ _ hw177_0;first|rwa [add_block] at this|exact this) GW178.out)|(rw [add_block];exact Nat.ne_of_lt (Nat.lt_of_lt_of_le (by have:=World.block_lt_of_cell? _ _ hw177_0;first|rwa [add_block] at this|exact this) GW178.out))|(show (Addr.add _ _).block ≠ _;rw [add_block];exact Nat.ne_of_lt (Nat.lt_of_lt_of_le (by have:=World.block_lt_of_cell? _ _ hw177_0;first|rwa [add_block] at this|exact this) GW178.out))|(dsimp only;exact Nat.ne_of_lt (Nat.lt_of_lt_of_le (by have:=World.block_lt_of_cell? _ _ hw177_0;first|rwa [add_block] at this|exact this) GW178.out))) _).trans (((cell_far (p:=⟨gb178,_,none⟩) (by first|exact Nat.ne_of_lt (Nat.lt_of_lt_of_le (by have:=World.block_lt_of_cell? _ _ hw177_0;first|rwa [add_block] at this|exact this) GW178.out)|(rw [add_block];exact Nat.ne_of_lt (Nat.lt_of_lt_of_le (by have:=World.block_lt_of_cell? _ _ hw177_0;first|rwa [add_block] at this|exact this) GW178.out))|(show (Addr.add _ _).block ≠ _;rw [add_block];exact Nat.ne_of_lt (Nat.lt_of_lt_of_le (by have:=World.block_lt_of_cell? _ _ hw177_0;first|rwa [add_block] at this|exact this) GW178.out))|(dsimp only;exact Nat.ne_of_lt (Nat.lt_of_lt_of_le (by have:=World.block_lt_of_cell? _ _ hw177_0;first|rwa [add_block] at this|exact this) GW178.out))) _).trans (((cell_far (p:=⟨gb178,_,none⟩) (by first|exact Nat.ne_of_lt (Nat.lt_of_lt_of_le (by have:=World.block_lt_of_cell? _ _ hw177_0;first|rwa [add_block] at this|exact this) GW178.out)|(rw [add_block];exact Nat.ne_of_lt (Nat.lt_of_lt_of_le (by have:=World.block_lt_of_cell? _ _ hw177_0;first|rwa [add_block] at this|exact this) GW178.out))|(show (Addr.add _ _).block ≠ _;rw [add_block];exact Nat.ne_of_lt (Nat.lt_of_lt_of_le (by have:=World.block_lt_of_cell? _ _ hw177_0;first|rwa [add_block] at this|exact this) GW178.out))|(dsimp only;exact Nat.ne_of_lt (Nat.lt_of_lt_of_le (by have:=World.block_lt_of_cell? _ _ hw177_0;first|rwa [add_block] at this|exact this) GW178.out))) _).trans (((cell_far (p:=⟨gb178,_,none⟩) (by first|exact Nat.ne_of_lt (Nat.lt_of_lt_of_le (by have:=World.block_lt_of_cell? _ _ hw177_0;first|rwa [add_block] at this|exact this) GW178.out)|(rw [add_block];exact Nat.ne_of_lt (Nat.lt_of_lt_of_le (by have:=World.block_lt_of_cell? _ _ hw177_0;first|rwa [add_block] at this|exact this) GW178.out))|(show (Addr.add _ _).block ≠ _;rw [add_block];exact Nat.ne_of_lt (Nat.lt_of_lt_of_le (by have:=World.block_lt_of_cell? _ _ hw177_0;first|rwa [add_block] at this|exact this) GW178.out))|(dsimp only;exact Nat.ne_of_lt (Nat.lt_of_lt_of_le (by have:=World.block_lt_of_cell? _ _ hw177_0;first|rwa [add_block] at this|exact this) GW178.out))) _).trans (hHeld.2.2.2.2.2.2))))))))⟩ (fun hHeld => ?_)
   clear hK K
   refine done_ (done_of HT_.out (by kernel_rfl)) ?_
   have hnb42:=NB178_170.out
   have hnc42:=NB170_178.out
   have hnb43:=NB178_171.out
   have hnc43:=NB171_178.out
   have hnb44:=NB178_173.out
   have hnc44:=NB173_178.out
   obtain ⟨_,_,_,_,_,_,_,_⟩:=cells4 BK178.out
   try go_wp2
   go_loopg [12,89] k1 (fun kq v12 v89 w' => ∃ (x12_2 : Int) (x89_2 : Int),v12 = .int .i64 x12_2 ∧ v89 = .int .i64 x89_2 ∧ Aside0 (water_groundOf.l1 kq ji31 x12_2 (wrap64 (a0_0 * a0_1)) x31_1 (⟨rd l0_2 (ji17),rd l0_2 (ji20),rd l0_2 (ji23),rd l0_2 (ji26)⟩ : S126) x89_2 a0_0 a0_1 l0_2 a0_0 a0_1 x174002_1 x174003_1 x174004_1 (rd l0_2 (ji17)) (rd l0_2 (ji20)) (rd l0_2 (ji23)) (rd l0_2 (ji26)) = some (r1,r2,r3,r4,r5,r6)) ∧ Aside0 (kq ≤ k1) ∧ Aside0 (Kd.R (Kd.int .i64) 3 w' w.heap.size (fun k_ => some k_ ≠ (u174003 : Value).ownBlock) u174002 x174002_1) ∧ Aside0 (Kd.R (Kd.int .i64) 3 w' w.heap.size (fun k_ => some k_ ≠ (u174002 : Value).ownBlock) u174003 x174003_1) ∧ Aside0 (Kd.R Kd.bool 4 w' w.heap.size (fun _ => True) u174004 x174004_1) ∧ Aside0 (w'.heap[gb170]? = some (.cells #[.int .i64 a0_0,.int .i64 a0_1,(.slice (some ad174) l0_2.length c0_2)] 53 (0,0))) ∧ Aside0 (w'.heap[gb171]? = some (.cells #[.int .i64 0,.int .i64 0,(.slice none 0 0),(.slice none 0 0),(.slice none 0 0)] 104 (0,0))) ∧ Aside0 (w'.heap[gb173]? = some (.cells #[.int .i64 a0_0,.int .i64 a0_1,u174002,u174003,u174004] 104 (0,0))) ∧ Aside0 (w'.heap[gb178]? = some (.cells #[.int .i64 (rd l0_2 (ji17)),.int .i64 (rd l0_2 (ji20)),.int .i64 (rd l0_2 (ji23)),.int .i64 (rd l0_2 (ji26))] 126 (0,0))) ∧ Aside0 (Below w.heap.size w w'))
   case atStart => exact ⟨(0),(0),(by first|rfl|(simp;done)|(simp [*];done)),(by first|rfl|(simp;done)|(simp [*];done)),H',⟨Nat.le_refl _⟩,⟨by (with_reducible repeat (first|apply Kd.R_alloc|apply Kd.R_drewN|apply Kd.R_drew));exact Kd.R_mono (Kd.R_fars gb178 (Kd.R_types HO_174002.out BK178.out (by decide)) (fun _ hk => hk.2)) (fun _ hk => hk.1)⟩,⟨by (with_reducible repeat (first|apply Kd.R_alloc|apply Kd.R_drewN|apply Kd.R_drew));exact Kd.R_mono (Kd.R_fars gb178 (Kd.R_types HO_174003.out BK178.out (by decide)) (fun _ hk => hk.2)) (fun _ hk => hk.1)⟩,⟨by (with_reducible repeat (first|apply Kd.R_alloc|apply Kd.R_drewN|apply Kd.R_drew));exact Kd.R_mono (Kd.R_fars gb178 (Kd.R_types HO_174004.out BK178.out (by decide)) (fun _ hk => hk.2)) (fun _ hk => trivial)⟩,⟨by (with_reducible repeat (first|refine blk_drewN ?_ _|refine blk_drew ?_|refine blk_alloc ?_ _));refine blk_far ?_ NB170_178.out _;(with_reducible repeat (first|refine blk_drewN ?_ _|refine blk_drew ?_|refine blk_alloc ?_ _));refine blk_far ?_ NB170_178.out _;(with_reducible repeat (first|refine blk_drewN ?_ _|refine blk_drew ?_|refine blk_alloc ?_ _));refine blk_far ?_ NB170_178.out _;(with_reducible repeat (first|refine blk_drewN ?_ _|refine blk_drew ?_|refine blk_alloc ?_ _));refine blk_far ?_ NB170_178.out _;(with_reducible repeat (first|refine blk_drewN ?_ _|refine blk_drew ?_|refine blk_alloc ?_ _));exact BK170.out⟩,⟨by (with_reducible repeat (first|refine blk_drewN ?_ _|refine blk_drew ?_|refine blk_alloc ?_ _));refine blk_far ?_ NB171_178.out _;(with_reducible repeat (first|refine blk_drewN ?_ _|refine blk_drew ?_|refine blk_alloc ?_ _));refine blk_far ?_ NB171_178.out _;(with_reducible repeat (first|refine blk_drewN ?_ _|refine blk_drew ?_|refine blk_alloc ?_ _));refine blk_far ?_ NB171_178.out _;(with_reducible repeat (first|refine blk_drewN ?_ _|refine blk_drew ?_|refine blk_alloc ?_ _));refine blk_far ?_ NB171_178.out _;(with_reducible repeat (first|refine blk_drewN ?_ _|refine blk_drew ?_|refine blk_alloc ?_ _));exact BK171.out⟩,⟨by (with_reducible repeat (first|refine blk_drewN ?_ _|refine blk_drew ?_|refine blk_alloc ?_ _));refine blk_far ?_ NB173_178.out _;(with_reducible repeat (first|refine blk_drewN ?_ _|refine blk_drew ?_|refine blk_alloc ?_ _));refine blk_far ?_ NB173_178.out _;(with_reducible repeat (first|refine blk_drewN ?_ _|refine blk_drew ?_|refine blk_alloc ?_ _));refine blk_far ?_ NB173_178.out _;(with_reducible repeat (first|refine blk_drewN ?_ _|refine blk_drew ?_|refine blk_alloc ?_ _));refine blk_far ?_ NB173_178.out _;(with_reducible repeat (first|refine blk_drewN ?_ _|refine blk_drew ?_|refine blk_alloc ?_ _));exact BK173.out⟩,⟨by (with_reducible repeat (first|refine blk_drewN ?_ _|refine blk_drew ?_|refine blk_alloc ?_ _));exact blk_puts4 (blk_up BK178.out)⟩,⟨hb_⟩⟩
   case round =>
    clear H'
    obtain ⟨x12_2,x89_2,rfl,rfl,HA,HK2,HO_174002,HO_174003,HO_174004,BK170,BK171,BK173,BK178,HB⟩:=hrel
    cases gk with
    | zero => exact absurd HA.out (by simp [water_groundOf.l1])
    | succ k2 =>
     have H:=HA.out
     clear HA
     simp only [water_groundOf.l1] at H
     by_cases c46 : x89_2 < 4
     ·rw [if_pos c46] at H
      have c46b0 : decide (x89_2 < 4) = true:=decide_eq_true c46
      clear c46
      replace H:=ifp_ H;obtain ⟨c47,H⟩:=H
      have c47b0 : decide (0 ≤ x89_2) = true:=decide_eq_true c47
      clear c47
      have hix48:=fun (W_ : World) => (ix126_run (rd l0_2 (ji17)) (rd l0_2 (ji20)) (rd l0_2 (ji23)) (rd l0_2 (ji26)) x89_2 (of_decide_eq_true (by first|(with_reducible assumption)|assumption)) (of_decide_eq_true (by first|(with_reducible assumption)|assumption)) W_ : (Instr.index 126 (.agg #[.int .i64 (rd l0_2 (ji17)),.int .i64 (rd l0_2 (ji20)),.int .i64 (rd l0_2 (ji23)),.int .i64 (rd l0_2 (ji26))]) (.int .i64 x89_2)).run Try.prog W_ = .ok (.int .i64 (ix126 (⟨rd l0_2 (ji17),rd l0_2 (ji20),rd l0_2 (ji23),rd l0_2 (ji26)⟩ : S126) x89_2)) W_)
      by_cases c49 : (ix126 (⟨rd l0_2 (ji17),rd l0_2 (ji20),rd l0_2 (ji23),rd l0_2 (ji26)⟩ : S126) x89_2) > ji31
      ·rw [if_pos c49] at H
       have c49b0 : decide (ji31 < (ix126 (⟨rd l0_2 (ji17),rd l0_2 (ji20),rd l0_2 (ji23),rd l0_2 (ji26)⟩ : S126) x89_2)) = true:=decide_eq_true c49
       clear c49
       have c50b0:=eq_true (of_decide_eq_true (by first|(with_reducible assumption)|assumption) : 0 ≤ x89_2)
       obtain ⟨ji51,hji51⟩ : ∃ j_ : Int,(shl .i64 1 x89_2) = j_:=⟨_,rfl⟩
       replace H : (if (ix126 (⟨rd l0_2 (ji17),rd l0_2 (ji20),rd l0_2 (ji23),rd l0_2 (ji26)⟩ : S126) x89_2) > (wrap64 (ji31 + 1)) then (water_groundOf.l1 k2 ji31 (Go.bits .or .i64 (Go.bits .or .i64 x12_2 (ji51)) 16) (wrap64 (a0_0 * a0_1)) x31_1 (⟨rd l0_2 (ji17),rd l0_2 (ji20),rd l0_2 (ji23),rd l0_2 (ji26)⟩ : S126) (wrap64 (x89_2 + 1)) a0_0 a0_1 l0_2 a0_0 a0_1 x174002_1 x174003_1 x174004_1 (rd l0_2 (ji17)) (rd l0_2 (ji20)) (rd l0_2 (ji23)) (rd l0_2 (ji26))) else (water_groundOf.l1 k2 ji31 (Go.bits .or .i64 x12_2 (ji51)) (wrap64 (a0_0 * a0_1)) x31_1 (⟨rd l0_2 (ji17),rd l0_2 (ji20),rd l0_2 (ji23),rd l0_2 (ji26)⟩ : S126) (wrap64 (x89_2 + 1)) a0_0 a0_1 l0_2 a0_0 a0_1 x174002_1 x174003_1 x174004_1 (rd l0_2 (ji17)) (rd l0_2 (ji20)) (rd l0_2 (ji23)) (rd l0_2 (ji26)))) = some (r1,r2,r3,r4,r5,r6):=by first|(rw [hji51] at H;exact H)|(simp only [hji51] at H ⊢;exact H)
       have hji51_ : (IntKind.i64.wrap (1 * 2 ^ min x89_2.toNat 64)) = ji51:=hji51
       have hji51z : x89_2 ≤ 64 → (IntKind.i64.wrap (1 * 2 ^ x89_2.toNat)) = ji51:=shl_small hji51
       have hji51u : (IntKind.i64.wrap (2 ^ min x89_2.toNat 64)) = ji51:=by have h_:=hji51_;rw [Int.one_mul] at h_;exact h_
       have hji51v : x89_2 ≤ 64 → (IntKind.i64.wrap (2 ^ x89_2.toNat)) = ji51:=fun hle_ => by have h_:=hji51z hle_;rw [Int.one_mul] at h_;exact h_
       have hji51y : (wrap64 (1 * 2 ^ min x89_2.toNat 64)) = ji51:=(i64_w _).symm.trans hji51_
       have hji51x : x89_2 ≤ 64 → (wrap64 (1 * 2 ^ x89_2.toNat)) = ji51:=fun h_ => (i64_w _).symm.trans (hji51z h_)
       by_cases c52 : (ix126 (⟨rd l0_2 (ji17),rd l0_2 (ji20),rd l0_2 (ji23),rd l0_2 (ji26)⟩ : S126) x89_2) > (wrap64 (ji31 + 1))
       ·rw [if_pos c52] at H
        have c52b0 : decide ((wrap64 (ji31 + 1)) < (ix126 (⟨rd l0_2 (ji17),rd l0_2 (ji20),rd l0_2 (ji23),rd l0_2 (ji26)⟩ : S126) x89_2)) = true:=decide_eq_true c52
        clear c52
        have H':=Aside0.mk H
        clear H
        go_wp2
        go_roundg k2
        case measure => have:=HK1.out;have:=HK2.out;omega
        case rel => exact ⟨(Go.bits .or .i64 (Go.bits .or .i64 x12_2 (ji51)) 16),(wrap64 (x89_2 + 1)),(by first|rfl|(simp;done)|(simp only [← hji51] <;> (first|rfl|simp))|(simp [*];done)),(by first|rfl|(simp;done)|(simp [*];done)),H',⟨by have:=HK1.out;have:=HK2.out;omega⟩,⟨Kd.R_up HO_174002.out⟩,⟨Kd.R_up HO_174003.out⟩,⟨Kd.R_up HO_174004.out⟩,⟨blk_up BK170.out⟩,⟨blk_up BK171.out⟩,⟨blk_up BK173.out⟩,⟨blk_up BK178.out⟩,⟨hb_⟩⟩
       ·rw [if_neg c52] at H
        have c52b0 : decide ((wrap64 (ji31 + 1)) < (ix126 (⟨rd l0_2 (ji17),rd l0_2 (ji20),rd l0_2 (ji23),rd l0_2 (ji26)⟩ : S126) x89_2)) = false:=decide_eq_false c52
        clear c52
        have H':=Aside0.mk H
        clear H
        go_wp2
        go_roundg k2
        case measure => have:=HK1.out;have:=HK2.out;omega
        case rel => exact ⟨(Go.bits .or .i64 x12_2 (ji51)),(wrap64 (x89_2 + 1)),(by first|rfl|(simp;done)|(simp only [← hji51] <;> (first|rfl|simp))|(simp [*];done)),(by first|rfl|(simp;done)|(simp [*];done)),H',⟨by have:=HK1.out;have:=HK2.out;omega⟩,⟨Kd.R_up HO_174002.out⟩,⟨Kd.R_up HO_174003.out⟩,⟨Kd.R_up HO_174004.out⟩,⟨blk_up BK170.out⟩,⟨blk_up BK171.out⟩,⟨blk_up BK173.out⟩,⟨blk_up BK178.out⟩,⟨hb_⟩⟩
      ·rw [if_neg c49] at H
       have c49b0 : decide (ji31 < (ix126 (⟨rd l0_2 (ji17),rd l0_2 (ji20),rd l0_2 (ji23),rd l0_2 (ji26)⟩ : S126) x89_2)) = false:=decide_eq_false c49
       clear c49
       by_cases c53 : (ix126 (⟨rd l0_2 (ji17),rd l0_2 (ji20),rd l0_2 (ji23),rd l0_2 (ji26)⟩ : S126) x89_2) > (wrap64 (ji31 + 1))
       ·rw [if_pos c53] at H
        have c53b0 : decide ((wrap64 (ji31 + 1)) < (ix126 (⟨rd l0_2 (ji17),rd l0_2 (ji20),rd l0_2 (ji23),rd l0_2 (ji26)⟩ : S126) x89_2)) = true:=decide_eq_true c53
        clear c53
        have H':=Aside0.mk H
        clear H
        go_wp2
        go_roundg k2
        case measure => have:=HK1.out;have:=HK2.out;omega
        case rel => exact ⟨(Go.bits .or .i64 x12_2 16),(wrap64 (x89_2 + 1)),(by first|rfl|(simp;done)|(simp [*];done)),(by first|rfl|(simp;done)|(simp [*];done)),H',⟨by have:=HK1.out;have:=HK2.out;omega⟩,⟨Kd.R_up HO_174002.out⟩,⟨Kd.R_up HO_174003.out⟩,⟨Kd.R_up HO_174004.out⟩,⟨blk_up BK170.out⟩,⟨blk_up BK171.out⟩,⟨blk_up BK173.out⟩,⟨blk_up BK178.out⟩,⟨hb_⟩⟩
       ·rw [if_neg c53] at H
        have c53b0 : decide ((wrap64 (ji31 + 1)) < (ix126 (⟨rd l0_2 (ji17),rd l0_2 (ji20),rd l0_2 (ji23),rd l0_2 (ji26)⟩ : S126) x89_2)) = false:=decide_eq_false c53
        clear c53
        have H':=Aside0.mk H
        clear H
        go_wp2
        go_roundg k2
        case measure => have:=HK1.out;have:=HK2.out;omega
        case rel => exact ⟨(x12_2),(wrap64 (x89_2 + 1)),(by first|rfl|(simp;done)|(simp [*];done)),(by first|rfl|(simp;done)|(simp [*];done)),H',⟨by have:=HK1.out;have:=HK2.out;omega⟩,⟨Kd.R_up HO_174002.out⟩,⟨Kd.R_up HO_174003.out⟩,⟨Kd.R_up HO_174004.out⟩,⟨blk_up BK170.out⟩,⟨blk_up BK171.out⟩,⟨blk_up BK173.out⟩,⟨blk_up BK178.out⟩,⟨hb_⟩⟩
     rw [if_neg c46] at H
     have c46b0 : decide (x89_2 < 4) = false:=decide_eq_false c46
     clear c46
     obtain ⟨y179,hy179⟩ : ∃ y_ : List Int,y_ = (([x12_2] : List Int)):=⟨_,rfl⟩
     replace H : (if x174002_1.length + y179.length < 17592186044416 then ((some (([ji31] : List Int) : List Int)).bind fun y185 => (if x174003_1.length + y185.length < 17592186044416 then ((some (([decide ((mx (mx (mx (rd l0_2 (ji17)) (rd l0_2 (ji20))) (rd l0_2 (ji23))) (rd l0_2 (ji26))) ≤ 2)] : List Bool) : List Bool)).bind fun y191 => (if x174004_1.length + y191.length < 140737488355328 then (water_groundOf.l0 k2 (wrap64 (a0_0 * a0_1)) (wrap64 (x31_1 + 1)) a0_0 a0_1 l0_2 a0_0 a0_1 (x174002_1 ++ y179) (x174003_1 ++ y185) (x174004_1 ++ y191)) else (none))) else (none))) else (none)) = some (r1,r2,r3,r4,r5,r6):=by first|(rw [hy179];with_reducible exact H)|(have H2_:=(Option.bind_some _ _).symm.trans H;rw [hy179];with_reducible exact H2_)|(have H2_:=(Option.bind_some _ _).symm.trans H;with_reducible exact H2_)|with_reducible exact H|(rw [hy179];exact H)|exact H
     have Ny179:=Aside0.mk hy179
     clear hy179
     replace H:=ifp_ H;obtain ⟨c54,H⟩:=H
     have LMc54:=Aside0.mk c54
     clear c54
     obtain ⟨y182,hy182⟩ : ∃ y_ : List Int,y_ = (x174002_1 ++ y179):=⟨_,rfl⟩
     replace H : ((some (([ji31] : List Int) : List Int)).bind fun y185 => (if x174003_1.length + y185.length < 17592186044416 then ((some (([decide ((mx (mx (mx (rd l0_2 (ji17)) (rd l0_2 (ji20))) (rd l0_2 (ji23))) (rd l0_2 (ji26))) ≤ 2)] : List Bool) : List Bool)).bind fun y191 => (if x174004_1.length + y191.length < 140737488355328 then (water_groundOf.l0 k2 (wrap64 (a0_0 * a0_1)) (wrap64 (x31_1 + 1)) a0_0 a0_1 l0_2 a0_0 a0_1 y182 (x174003_1 ++ y185) (x174004_1 ++ y191)) else (none))) else (none))) = some (r1,r2,r3,r4,r5,r6):=by first|(rw [hy182];with_reducible exact H)|(have H2_:=(Option.bind_some _ _).symm.trans H;rw [hy182];with_reducible exact H2_)|(have H2_:=(Option.bind_some _ _).symm.trans H;with_reducible exact H2_)|with_reducible exact H|(rw [hy182];exact H)|exact H
     have Ny182:=Aside0.mk hy182
     clear hy182
     obtain ⟨y185,hy185⟩ : ∃ y_ : List Int,y_ = (([ji31] : List Int)):=⟨_,rfl⟩
     replace H : (if x174003_1.length + y185.length < 17592186044416 then ((some (([decide ((mx (mx (mx (rd l0_2 (ji17)) (rd l0_2 (ji20))) (rd l0_2 (ji23))) (rd l0_2 (ji26))) ≤ 2)] : List Bool) : List Bool)).bind fun y191 => (if x174004_1.length + y191.length < 140737488355328 then (water_groundOf.l0 k2 (wrap64 (a0_0 * a0_1)) (wrap64 (x31_1 + 1)) a0_0 a0_1 l0_2 a0_0 a0_1 y182 (x174003_1 ++ y185) (x174004_1 ++ y191)) else (none))) else (none)) = some (r1,r2,r3,r4,r5,r6):=by first|(rw [hy185];with_reducible exact H)|(have H2_:=(Option.bind_some _ _).symm.trans H;rw [hy185];with_reducible exact H2_)|(have H2_:=(Option.bind_some _ _).symm.trans H;with_reducible exact H2_)|with_reducible exact H|(rw [hy185];exact H)|exact H
     have Ny185:=Aside0.mk hy185
     clear hy185
     replace H:=ifp_ H;obtain ⟨c55,H⟩:=H
     have LMc55:=Aside0.mk c55
     clear c55
     obtain ⟨y188,hy188⟩ : ∃ y_ : List Int,y_ = (x174003_1 ++ y185):=⟨_,rfl⟩
     replace H : ((some (([decide ((mx (mx (mx (rd l0_2 (ji17)) (rd l0_2 (ji20))) (rd l0_2 (ji23))) (rd l0_2 (ji26))) ≤ 2)] : List Bool) : List Bool)).bind fun y191 => (if x174004_1.length + y191.length < 140737488355328 then (water_groundOf.l0 k2 (wrap64 (a0_0 * a0_1)) (wrap64 (x31_1 + 1)) a0_0 a0_1 l0_2 a0_0 a0_1 y182 y188 (x174004_1 ++ y191)) else (none))) = some (r1,r2,r3,r4,r5,r6):=by first|(rw [hy188];with_reducible exact H)|(have H2_:=(Option.bind_some _ _).symm.trans H;rw [hy188];with_reducible exact H2_)|(have H2_:=(Option.bind_some _ _).symm.trans H;with_reducible exact H2_)|with_reducible exact H|(rw [hy188];exact H)|exact H
     have Ny188:=Aside0.mk hy188
     clear hy188
     obtain ⟨ji56,hji56⟩ : ∃ j_ : Int,(mx (rd l0_2 (ji17)) (rd l0_2 (ji20))) = j_:=⟨_,rfl⟩
     replace H : ((some (([decide ((mx (mx (ji56) (rd l0_2 (ji23))) (rd l0_2 (ji26))) ≤ 2)] : List Bool) : List Bool)).bind fun y191 => (if x174004_1.length + y191.length < 140737488355328 then (water_groundOf.l0 k2 (wrap64 (a0_0 * a0_1)) (wrap64 (x31_1 + 1)) a0_0 a0_1 l0_2 a0_0 a0_1 y182 y188 (x174004_1 ++ y191)) else (none))) = some (r1,r2,r3,r4,r5,r6):=by first|(rw [hji56] at H;exact H)|(simp only [hji56] at H ⊢;exact H)
     have hji56_ : (if (rd l0_2 (ji17)) < (rd l0_2 (ji20)) then (rd l0_2 (ji20)) else (rd l0_2 (ji17))) = ji56:=hji56
     obtain ⟨ji57,hji57⟩ : ∃ j_ : Int,(mx (ji56) (rd l0_2 (ji23))) = j_:=⟨_,rfl⟩
     replace H : ((some (([decide ((mx (ji57) (rd l0_2 (ji26))) ≤ 2)] : List Bool) : List Bool)).bind fun y191 => (if x174004_1.length + y191.length < 140737488355328 then (water_groundOf.l0 k2 (wrap64 (a0_0 * a0_1)) (wrap64 (x31_1 + 1)) a0_0 a0_1 l0_2 a0_0 a0_1 y182 y188 (x174004_1 ++ y191)) else (none))) = some (r1,r2,r3,r4,r5,r6):=by first|(rw [hji57] at H;exact H)|(simp only [hji57] at H ⊢;exact H)
     have hji57_ : (if (ji56) < (rd l0_2 (ji23)) then (rd l0_2 (ji23)) else (ji56)) = ji57:=hji57
     obtain ⟨ji58,hji58⟩ : ∃ j_ : Int,(mx (ji57) (rd l0_2 (ji26))) = j_:=⟨_,rfl⟩
     replace H : ((some (([decide ((ji58) ≤ 2)] : List Bool) : List Bool)).bind fun y191 => (if x174004_1.length + y191.length < 140737488355328 then (water_groundOf.l0 k2 (wrap64 (a0_0 * a0_1)) (wrap64 (x31_1 + 1)) a0_0 a0_1 l0_2 a0_0 a0_1 y182 y188 (x174004_1 ++ y191)) else (none))) = some (r1,r2,r3,r4,r5,r6):=by first|(rw [hji58] at H;exact H)|(simp only [hji58] at H ⊢;exact H)
     have hji58_ : (if (ji57) < (rd l0_2 (ji26)) then (rd l0_2 (ji26)) else (ji57)) = ji58:=hji58
     obtain ⟨y191,hy191⟩ : ∃ y_ : List Bool,y_ = (([decide ((ji58) ≤ 2)] : List Bool)):=⟨_,rfl⟩
     replace H : (if x174004_1.length + y191.length < 140737488355328 then (water_groundOf.l0 k2 (wrap64 (a0_0 * a0_1)) (wrap64 (x31_1 + 1)) a0_0 a0_1 l0_2 a0_0 a0_1 y182 y188 (x174004_1 ++ y191)) else (none)) = some (r1,r2,r3,r4,r5,r6):=by first|(rw [hy191];with_reducible exact H)|(have H2_:=(Option.bind_some _ _).symm.trans H;rw [hy191];with_reducible exact H2_)|(have H2_:=(Option.bind_some _ _).symm.trans H;with_reducible exact H2_)|with_reducible exact H|(rw [hy191];exact H)|exact H
     have Ny191:=Aside0.mk hy191
     clear hy191
     replace H:=ifp_ H;obtain ⟨c59,H⟩:=H
     have LMc59:=Aside0.mk c59
     clear c59
     obtain ⟨y194,hy194⟩ : ∃ y_ : List Bool,y_ = (x174004_1 ++ y191):=⟨_,rfl⟩
     replace H : (water_groundOf.l0 k2 (wrap64 (a0_0 * a0_1)) (wrap64 (x31_1 + 1)) a0_0 a0_1 l0_2 a0_0 a0_1 y182 y188 y194) = some (r1,r2,r3,r4,r5,r6):=by first|(rw [hy194];with_reducible exact H)|(have H2_:=(Option.bind_some _ _).symm.trans H;rw [hy194];with_reducible exact H2_)|(have H2_:=(Option.bind_some _ _).symm.trans H;with_reducible exact H2_)|with_reducible exact H|(rw [hy194];exact H)|exact H
     have Ny194:=Aside0.mk hy194
     clear hy194
     have H':=Aside0.mk H
     clear H
     obtain ⟨Ao60,co60,eo60⟩:=Kd.R_slice HO_174002.out
     subst eo60
     obtain ⟨Ao61,co61,eo61⟩:=Kd.R_slice HO_174003.out
     subst eo61
     try go_wp2
     replace HO_174002:=Aside0.mk (Kd.R_drew HO_174002.out)
     replace HO_174003:=Aside0.mk (Kd.R_drew HO_174003.out)
     replace HO_174004:=Aside0.mk (Kd.R_drew HO_174004.out)
     replace BK170:=Aside0.mk (blk_drew BK170.out)
     replace BK171:=Aside0.mk (blk_drew BK171.out)
     replace BK173:=Aside0.mk (blk_drew BK173.out)
     replace BK178:=Aside0.mk (blk_drew BK178.out)
     replace HB:=Aside0.mk (below_drew1 HB.out)
     refine start_ (n:=14) (S:=fun w' => w'.cell? ⟨gb173,0,none⟩ = some (.int .i64 a0_0) ∧ w'.cell? ⟨gb173,1,none⟩ = some (.int .i64 a0_1) ∧ w'.cell? ⟨gb173,2,none⟩ = some (.slice Ao60 x174002_1.length co60) ∧ w'.cell? ⟨gb173,3,none⟩ = some (.slice Ao61 x174003_1.length co61) ∧ w'.cell? ⟨gb173,4,none⟩ = some (u174004)) (ds:=[11,13]) #[false,false,false,false,false,false,false,false,false,false,false,false,false,false] (by kernel_rfl) rfl rfl ⟨(blk_cell BK173.out 0).trans rfl,(blk_cell BK173.out 1).trans rfl,(blk_cell BK173.out 2).trans rfl,(blk_cell BK173.out 3).trans rfl,(blk_cell BK173.out 4).trans rfl⟩ (fun hHeld => ?_);refine with_tabW water_groundOf.tab20 water_groundOf.bits20 (fun HT_ HW_ => ?_)
     generalize wr.drew = w62 at HO_174002 HO_174003 HO_174004 BK170 BK171 BK173 BK178 HB hHeld ⊢
     refine pI 0 (some 107) ?_
     refine pI 2 (some 109) ?_
     refine pI 5 (some 112) ?_
     refine pI 7 (some 114) ?_
     refine tI5 1 (some 108) hHeld ?_
     refine tI5 6 (some 113) hHeld ?_
     refine join_ (σ:=Value × Value × Value) 4 #[true,true,true,true,true,true,true,true,true,false,true,false,false,false] (fun s_ => [(110,s_.1),(111,s_.2.1),(115,s_.2.2),(117,.pointer (some ⟨gb173,2,none⟩))]) (fun s_ w' => (w'.cell? ⟨gb173,0,none⟩ = some (.int .i64 a0_0) ∧ w'.cell? ⟨gb173,1,none⟩ = some (.int .i64 a0_1) ∧ w'.cell? ⟨gb173,2,none⟩ = some (.slice Ao60 x174002_1.length co60) ∧ w'.cell? ⟨gb173,3,none⟩ = some (.slice Ao61 x174003_1.length co61) ∧ w'.cell? ⟨gb173,4,none⟩ = some (u174004)) ∧ (Kd.R (Kd.int .i64) 3 w' w.heap.size (fun k_ => some k_ ≠ (s_.2.1 : Value).ownBlock ∧ some k_ ≠ (s_.2.2 : Value).ownBlock ∧ some k_ ≠ (.slice Ao61 x174003_1.length co61 : Value).ownBlock) s_.1 y179) ∧ (Kd.R (Kd.int .i64) 3 w' w.heap.size (fun k_ => some k_ ≠ (s_.1 : Value).ownBlock ∧ some k_ ≠ (s_.2.2 : Value).ownBlock ∧ some k_ ≠ (.slice Ao61 x174003_1.length co61 : Value).ownBlock) s_.2.1 y182) ∧ (Kd.R (Kd.int .i64) 3 w' w.heap.size (fun k_ => some k_ ≠ (s_.1 : Value).ownBlock ∧ some k_ ≠ (s_.2.1 : Value).ownBlock ∧ some k_ ≠ (.slice Ao61 x174003_1.length co61 : Value).ownBlock) s_.2.2 y185) ∧ (Kd.R (Kd.int .i64) 3 w' w.heap.size (fun k_ => some k_ ≠ (s_.1 : Value).ownBlock ∧ some k_ ≠ (s_.2.1 : Value).ownBlock ∧ some k_ ≠ (s_.2.2 : Value).ownBlock) (.slice Ao61 x174003_1.length co61) x174003_1) ∧ (Kd.R Kd.bool 4 w' w.heap.size (fun _ => True) u174004 x174004_1) ∧ (w'.heap[gb170]? = some (.cells #[.int .i64 a0_0,.int .i64 a0_1,.slice (some ad174) l0_2.length c0_2] 53 (0,0))) ∧ (w'.heap[gb171]? = some (.cells #[.int .i64 0,.int .i64 0,.slice none 0 0,.slice none 0 0,.slice none 0 0] 104 (0,0))) ∧ (w'.heap[gb173]? = some (.cells #[.int .i64 a0_0,.int .i64 a0_1,.slice Ao60 x174002_1.length co60,.slice Ao61 x174003_1.length co61,u174004] 104 (0,0))) ∧ (w'.heap[gb178]? = some (.cells #[.int .i64 (rd l0_2 (ji17)),.int .i64 (rd l0_2 (ji20)),.int .i64 (rd l0_2 (ji23)),.int .i64 (rd l0_2 (ji26))] 126 (0,0))) ∧ (Below w.heap.size w w')) ?_ ?_
     rotate_left
     ·intro hCont
      refine two_ (i:=3) (j:=8) (Ni:=some 110) (Nj:=some 115) #[true,true,true,true,false,true,true,true,false,false,false,false,false,false] #[true,true,true,false,false,true,true,true,true,false,false,false,false,false] rfl rfl rfl rfl (two_of HT_.out (by kernel_rfl)) (by decide) (by decide) (fun K hK => ?_) (fun K hK => ?_)
      ·skip
       refine Kd.R_lit_step (Kd.int .i64) _ 3 ?hg (N:=110) ?hd (xs:=([x12_2] : List Int)) (inner:=[.int .i64 x12_2]) (ok:=fun _ => True) (okp:=fun _ => True) ?hr ?hp (fun _ hk => hk) trivial (Below.refl _ _) (Nat.le_refl _) (by simp) ?_;(case hd => rfl);(case hg => rfl);(case hr => first|(go_simp;done)|(go_simp;rfl));(case hp => exact (Reps.one (show Kd.M (Kd.int .i64) _ _ _ x12_2 [.int .i64 x12_2] from rfl) (Reps.none _ _)))
       intro v180 w63 ho64 hb hg_ hnew_
       clear hg_ hnew_
       (first|rw [← Ny179.out] at ho64|(simp only [Int.reduceToNat] at ho64;rw [← Ny179.out] at ho64))
       have n0_:=Aside0.mk (Kd.R_elder' (Kd.R_up HO_174002.out) (Kd.R_base ho64) hb)
       have n1_:=Aside0.mk (Kd.R_elder' (Kd.R_up HO_174003.out) (Kd.R_base ho64) hb)
       have n2_:=rbw HO_174004 hb
       have n3_:=Aside0.mk (Kd.R_lower (Kd.R_new' (Kd.R_new' ho64 (Kd.R_lt (Kd.R_up HO_174002.out))) (Kd.R_lt (Kd.R_up HO_174003.out))) (below_size (hb_)))
       have n4_:=bkb BK170 hb
       have n5_:=bkb BK171 hb
       have n6_:=bkb BK173 hb
       have n7_:=bkb BK178 hb
       have n8_:=Aside0.mk (below_step (hb_) hb)
       clear HO_174002
       clear HO_174003
       clear HO_174004
       clear BK170
       clear BK171
       clear BK173
       clear BK178
       clear HB
       have HO_174002:=n0_
       have HO_174003:=n1_
       have HO_174004:=n2_
       have HO181:=n3_
       have BK170:=n4_
       have BK171:=n5_
       have BK173:=n6_
       have BK178:=n7_
       have HB:=n8_
       clear n0_ n1_ n2_ n3_ n4_ n5_ n6_ n7_ n8_
       clear hb ho64
       obtain ⟨Ao66,co66,eo66⟩:=Kd.R_slice HO181.out
       (first|subst eo66|(injection eo66 with f1_ f2_ f3_;have f4_:=f1_.symm;have f5_:=f3_.symm;clear f1_ f2_ f3_;subst f4_;subst f5_))
       refine hK.out _ _ ⟨(blk_cell BK173.out 0).trans rfl,(blk_cell BK173.out 1).trans rfl,(blk_cell BK173.out 2).trans rfl,(blk_cell BK173.out 3).trans rfl,(blk_cell BK173.out 4).trans rfl⟩ (fun hHeld => ?_)
       clear hK K
       refine norm_ (a':=?_) ?_ ?_
       rotate_left
       ·show Act.put _ (some 110) _ = _
        simp only [Act.put,List.setIfInBounds_toArray,List.set_cons_zero,List.set_cons_succ,i64_w,i32_w]
        rfl
       refine two_ (i:=4) (j:=8) (Ni:=some 111) (Nj:=some 115) #[true,true,true,true,true,true,true,true,false,false,false,false,false,false] #[true,true,true,true,false,true,true,true,true,false,false,false,false,false] rfl rfl rfl rfl (two_of HT_.out (by kernel_rfl)) (by decide) (by decide) (fun K hK => ?_) (fun K hK => ?_)
       ·skip
        refine Kd.R_append_rows_step (Kd.int .i64) (w0:=w) w.heap.size (by rfl) (.tmp 108) (.tmp 110) 22 3 (.int .i64 0) 8 rfl Try.underlying22 info3 rfl (by decide) (by omega) (.slice Ao60 x174002_1.length co60) x174002_1 y179 _ _ _ (fun k_ => some k_ ≠ (.slice Ao61 x174003_1.length co61 : Value).ownBlock ∧ some k_ ≠ (.slice Ao66 y179.length co66 : Value).ownBlock) (fun _ => False) rfl rfl ?aO ?aR (fun _ _ h => h) (fun _ h => h.elim) ?aF ?aB ?aS ?aL ?_
        (case aR => exact Kd.C_up (Kd.R_reads' HO181.out).2.2)
        (case aB => exact (hb_))
        (case aF => exact (fun k_ hk => ⟨Kd.fresh' (Kd.R_lt (Kd.R_up HO_174003.out)) k_ hk,Kd.fresh' (Kd.R_lt (Kd.R_up HO181.out)) k_ hk⟩))
        (case aO => exact (Kd.R_up HO_174002.out))
        (case aS => exact (below_size (hb_)))
        (case aL => have:=LMc54.out;omega)
        intro v183 w65 ho hb hg hat
        rw [← Ny182.out] at ho
        have n0_:=Aside0.mk (Kd.R_after (ok:=(fun k_ => some k_ ≠ (.slice Ao66 y179.length co66 : Value).ownBlock)) (by (with_reducible repeat (first|apply Kd.R_alloc|apply Kd.R_drewN|apply Kd.R_drew));exact Kd.R_mono HO_174003.out (fun _ hk => ⟨hk.2,hk.1⟩)) hg hat)
        have n1_:=Aside0.mk (Kd.R_over' (Kd.R_up HO_174004.out) (Kd.R_typed (Kd.R_up HO_174002.out)) (by decide) hg)
        have n2_:=Aside0.mk (blk_grown (blk_up BK170.out) hg (Kd.R_ne HO_174002.out BK170.out (by decide)))
        have n3_:=Aside0.mk (blk_grown (blk_up BK171.out) hg (Kd.R_ne HO_174002.out BK171.out (by decide)))
        have n4_:=Aside0.mk (blk_grown (blk_up BK173.out) hg (Kd.R_ne HO_174002.out BK173.out (by decide)))
        have n5_:=Aside0.mk (blk_grown (blk_up BK178.out) hg (Kd.R_ne HO_174002.out BK178.out (by decide)))
        have n6_:=Aside0.mk (Kd.R_after (ok:=(fun k_ => some k_ ≠ (.slice Ao61 x174003_1.length co61 : Value).ownBlock)) (by (with_reducible repeat (first|apply Kd.R_alloc|apply Kd.R_drewN|apply Kd.R_drew));exact Kd.R_mono HO181.out (fun _ hk => ⟨hk.2,hk.1.2⟩)) hg hat)
        have n7_:=Aside0.mk (hb)
        have n8_:=Aside0.mk (ho)
        clear HO_174003
        clear HO_174004
        clear BK170
        clear BK171
        clear BK173
        clear BK178
        clear HO181
        clear HB
        clear HO_174002
        have HO_174003:=n0_
        have HO_174004:=n1_
        have BK170:=n2_
        have BK171:=n3_
        have BK173:=n4_
        have BK178:=n5_
        have HO181:=n6_
        have HB:=n7_
        have HO184:=n8_
        clear n0_ n1_ n2_ n3_ n4_ n5_ n6_ n7_ n8_
        clear ho hb hg hat
        refine hK.out _ _ ⟨(blk_cell BK173.out 0).trans rfl,(blk_cell BK173.out 1).trans rfl,(blk_cell BK173.out 2).trans rfl,(blk_cell BK173.out 3).trans rfl,(blk_cell BK173.out 4).trans rfl⟩ (fun hHeld => ?_)
        clear hK K
        refine norm_ (a':=?_) ?_ ?_
        rotate_left
        ·show Act.put _ (some 111) _ = _
         simp only [Act.put,List.setIfInBounds_toArray,List.set_cons_zero,List.set_cons_succ,i64_w,i32_w]
         rfl
        refine pI 10 (some 117) ?_
        refine oI 8 (some 115) (fun K hK => ?_)
        refine Kd.R_lit_step (Kd.int .i64) _ 3 ?hg (N:=115) ?hd (xs:=([ji31] : List Int)) (inner:=[.int .i64 ji31]) (ok:=fun _ => True) (okp:=fun _ => True) ?hr ?hp (fun _ hk => hk) trivial (Below.refl _ _) (Nat.le_refl _) (by simp) ?_;(case hd => rfl);(case hg => rfl);(case hr => first|(go_simp;done)|(go_simp;rfl));(case hp => exact (Reps.one (show Kd.M (Kd.int .i64) _ _ _ ji31 [.int .i64 ji31] from rfl) (Reps.none _ _)))
        intro v186 w67 ho68 hb hg_ hnew_
        clear hg_ hnew_
        (first|rw [← Ny185.out] at ho68|(simp only [Int.reduceToNat] at ho68;rw [← Ny185.out] at ho68))
        have n0_:=Aside0.mk (Kd.R_elder' (Kd.R_up HO_174003.out) (Kd.R_base ho68) hb)
        have n1_:=rbw HO_174004 hb
        have n2_:=Aside0.mk (Kd.R_elder' (Kd.R_up HO181.out) (Kd.R_base ho68) hb)
        have n3_:=Aside0.mk (Kd.R_elder' (Kd.R_up HO184.out) (Kd.R_base ho68) hb)
        have n4_:=Aside0.mk (Kd.R_lower (Kd.R_new' (Kd.R_new' (Kd.R_new' ho68 (Kd.R_lt (Kd.R_up HO_174003.out))) (Kd.R_lt (Kd.R_up HO181.out))) (Kd.R_lt (Kd.R_up HO184.out))) (below_size (hb_)))
        have n5_:=bkb BK170 hb
        have n6_:=bkb BK171 hb
        have n7_:=bkb BK173 hb
        have n8_:=bkb BK178 hb
        have n9_:=Aside0.mk (below_step (hb_) hb)
        clear HO_174003
        clear HO_174004
        clear HO181
        clear HO184
        clear BK170
        clear BK171
        clear BK173
        clear BK178
        clear HB
        have HO_174003:=n0_
        have HO_174004:=n1_
        have HO181:=n2_
        have HO184:=n3_
        have HO187:=n4_
        have BK170:=n5_
        have BK171:=n6_
        have BK173:=n7_
        have BK178:=n8_
        have HB:=n9_
        clear n0_ n1_ n2_ n3_ n4_ n5_ n6_ n7_ n8_ n9_
        clear hb ho68
        refine hK.out _ _ ⟨(blk_cell BK173.out 0).trans rfl,(blk_cell BK173.out 1).trans rfl,(blk_cell BK173.out 2).trans rfl,(blk_cell BK173.out 3).trans rfl,(blk_cell BK173.out 4).trans rfl⟩ (fun hHeld => ?_)
        clear hK K
        refine norm_ (a':=?_) ?_ ?_
        rotate_left
        ·show Act.put _ (some 115) _ = _
         simp only [Act.put,List.setIfInBounds_toArray,List.set_cons_zero,List.set_cons_succ,i64_w,i32_w]
         rfl
        exact norm_ (by simp only [putAll,Act.put,List.setIfInBounds_toArray,List.set_cons_zero,List.set_cons_succ]) (hCont (.slice Ao66 y179.length co66,v183,v186) _ ⟨hHeld,(by (with_reducible repeat (first|apply Kd.R_alloc|apply Kd.R_drewN|apply Kd.R_drew));exact Kd.R_mono HO181.out (fun _ hk => ⟨hk.1.2,⟨hk.2,hk.1.1⟩⟩)),(by (with_reducible repeat (first|apply Kd.R_alloc|apply Kd.R_drewN|apply Kd.R_drew));exact Kd.R_mono HO184.out (fun _ hk => ⟨hk.1.2,⟨hk.2,hk.1.1⟩⟩)),(by (with_reducible repeat (first|apply Kd.R_alloc|apply Kd.R_drewN|apply Kd.R_drew));exact Kd.R_mono HO187.out (fun _ hk => ⟨hk.1.2,⟨hk.2,hk.1.1.2⟩⟩)),(by (with_reducible repeat (first|apply Kd.R_alloc|apply Kd.R_drewN|apply Kd.R_drew));exact Kd.R_mono HO_174003.out (fun _ hk => ⟨hk.1.1,⟨hk.1.2,hk.2⟩⟩)),(Kd.R_up HO_174004.out),(blk_up BK170.out),(blk_up BK171.out),(blk_up BK173.out),(blk_up BK178.out),(hb_)⟩)
       ·skip
        refine Kd.R_lit_step (Kd.int .i64) _ 3 ?hg (N:=115) ?hd (xs:=([ji31] : List Int)) (inner:=[.int .i64 ji31]) (ok:=fun _ => True) (okp:=fun _ => True) ?hr ?hp (fun _ hk => hk) trivial (Below.refl _ _) (Nat.le_refl _) (by simp) ?_;(case hd => rfl);(case hg => rfl);(case hr => first|(go_simp;done)|(go_simp;rfl));(case hp => exact (Reps.one (show Kd.M (Kd.int .i64) _ _ _ ji31 [.int .i64 ji31] from rfl) (Reps.none _ _)))
        intro v186 w65 ho66 hb hg_ hnew_
        clear hg_ hnew_
        (first|rw [← Ny185.out] at ho66|(simp only [Int.reduceToNat] at ho66;rw [← Ny185.out] at ho66))
        have n0_:=Aside0.mk (Kd.R_elder' (Kd.R_up HO_174002.out) (Kd.R_base ho66) hb)
        have n1_:=Aside0.mk (Kd.R_elder' (Kd.R_up HO_174003.out) (Kd.R_base ho66) hb)
        have n2_:=rbw HO_174004 hb
        have n3_:=Aside0.mk (Kd.R_elder' (Kd.R_up HO181.out) (Kd.R_base ho66) hb)
        have n4_:=Aside0.mk (Kd.R_lower (Kd.R_new' (Kd.R_new' (Kd.R_new' ho66 (Kd.R_lt (Kd.R_up HO_174002.out))) (Kd.R_lt (Kd.R_up HO_174003.out))) (Kd.R_lt (Kd.R_up HO181.out))) (below_size (hb_)))
        have n5_:=bkb BK170 hb
        have n6_:=bkb BK171 hb
        have n7_:=bkb BK173 hb
        have n8_:=bkb BK178 hb
        have n9_:=Aside0.mk (below_step (hb_) hb)
        clear HO_174002
        clear HO_174003
        clear HO_174004
        clear HO181
        clear BK170
        clear BK171
        clear BK173
        clear BK178
        clear HB
        have HO_174002:=n0_
        have HO_174003:=n1_
        have HO_174004:=n2_
        have HO181:=n3_
        have HO187:=n4_
        have BK170:=n5_
        have BK171:=n6_
        have BK173:=n7_
        have BK178:=n8_
        have HB:=n9_
        clear n0_ n1_ n2_ n3_ n4_ n5_ n6_ n7_ n8_ n9_
        clear hb ho66
        obtain ⟨Ao68,co68,eo68⟩:=Kd.R_slice HO181.out
        (first|subst eo68|(injection eo68 with f1_ f2_ f3_;have f4_:=f1_.symm;have f5_:=f3_.symm;clear f1_ f2_ f3_;subst f4_;subst f5_))
        refine hK.out _ _ ⟨(blk_cell BK173.out 0).trans rfl,(blk_cell BK173.out 1).trans rfl,(blk_cell BK173.out 2).trans rfl,(blk_cell BK173.out 3).trans rfl,(blk_cell BK173.out 4).trans rfl⟩ (fun hHeld => ?_)
        clear hK K
        refine norm_ (a':=?_) ?_ ?_
        rotate_left
        ·show Act.put _ (some 115) _ = _
         simp only [Act.put,List.setIfInBounds_toArray,List.set_cons_zero,List.set_cons_succ,i64_w,i32_w]
         rfl
        refine oI 4 (some 111) (fun K hK => ?_)
        refine Kd.R_append_rows_step (Kd.int .i64) (w0:=w) w.heap.size (by rfl) (.tmp 108) (.tmp 110) 22 3 (.int .i64 0) 8 rfl Try.underlying22 info3 rfl (by decide) (by omega) (.slice Ao60 x174002_1.length co60) x174002_1 y179 _ _ _ (fun k_ => some k_ ≠ (.slice Ao61 x174003_1.length co61 : Value).ownBlock ∧ some k_ ≠ (.slice Ao68 y179.length co68 : Value).ownBlock ∧ some k_ ≠ (v186 : Value).ownBlock) (fun _ => False) rfl rfl ?aO ?aR (fun _ _ h => h) (fun _ h => h.elim) ?aF ?aB ?aS ?aL ?_
        (case aR => exact Kd.C_up (Kd.R_reads' HO181.out).2.2)
        (case aB => exact (hb_))
        (case aF => exact (fun k_ hk => ⟨Kd.fresh' (Kd.R_lt (Kd.R_up HO_174003.out)) k_ hk,Kd.fresh' (Kd.R_lt (Kd.R_up HO181.out)) k_ hk,Kd.fresh' (Kd.R_lt (Kd.R_up HO187.out)) k_ hk⟩))
        (case aO => exact (by (with_reducible repeat (first|apply Kd.R_alloc|apply Kd.R_drewN|apply Kd.R_drew));exact Kd.R_mono HO_174002.out (fun _ hk => ⟨hk.1.1,⟨hk.1.2,hk.2⟩⟩)))
        (case aS => exact (below_size (hb_)))
        (case aL => have:=LMc54.out;omega)
        intro v183 w67 ho hb hg hat
        rw [← Ny182.out] at ho
        have n0_:=Aside0.mk (Kd.R_after (ok:=(fun k_ => some k_ ≠ (.slice Ao68 y179.length co68 : Value).ownBlock ∧ some k_ ≠ (v186 : Value).ownBlock)) (by (with_reducible repeat (first|apply Kd.R_alloc|apply Kd.R_drewN|apply Kd.R_drew));exact Kd.R_mono HO_174003.out (fun _ hk => ⟨⟨hk.1.2,hk.2⟩,hk.1.1⟩)) hg hat)
        have n1_:=Aside0.mk (Kd.R_over' (Kd.R_up HO_174004.out) (Kd.R_typed (Kd.R_up HO_174002.out)) (by decide) hg)
        have n2_:=Aside0.mk (blk_grown (blk_up BK170.out) hg (Kd.R_ne HO_174002.out BK170.out (by decide)))
        have n3_:=Aside0.mk (blk_grown (blk_up BK171.out) hg (Kd.R_ne HO_174002.out BK171.out (by decide)))
        have n4_:=Aside0.mk (blk_grown (blk_up BK173.out) hg (Kd.R_ne HO_174002.out BK173.out (by decide)))
        have n5_:=Aside0.mk (blk_grown (blk_up BK178.out) hg (Kd.R_ne HO_174002.out BK178.out (by decide)))
        have n6_:=Aside0.mk (Kd.R_after (ok:=(fun k_ => some k_ ≠ (.slice Ao61 x174003_1.length co61 : Value).ownBlock ∧ some k_ ≠ (v186 : Value).ownBlock)) (by (with_reducible repeat (first|apply Kd.R_alloc|apply Kd.R_drewN|apply Kd.R_drew));exact Kd.R_mono HO181.out (fun _ hk => ⟨⟨hk.1.2,hk.2⟩,hk.1.1.2⟩)) hg hat)
        have n7_:=Aside0.mk (Kd.R_after (ok:=(fun k_ => some k_ ≠ (.slice Ao61 x174003_1.length co61 : Value).ownBlock ∧ some k_ ≠ (.slice Ao68 y179.length co68 : Value).ownBlock)) (by (with_reducible repeat (first|apply Kd.R_alloc|apply Kd.R_drewN|apply Kd.R_drew));exact Kd.R_mono HO187.out (fun _ hk => ⟨⟨hk.1.2,hk.2⟩,hk.1.1.2⟩)) hg hat)
        have n8_:=Aside0.mk (hb)
        have n9_:=Aside0.mk (ho)
        clear HO_174003
        clear HO_174004
        clear BK170
        clear BK171
        clear BK173
        clear BK178
        clear HO181
        clear HO187
        clear HB
        clear HO_174002
        have HO_174003:=n0_
        have HO_174004:=n1_
        have BK170:=n2_
        have BK171:=n3_
        have BK173:=n4_
        have BK178:=n5_
        have HO181:=n6_
        have HO187:=n7_
        have HB:=n8_
        have HO184:=n9_
        clear n0_ n1_ n2_ n3_ n4_ n5_ n6_ n7_ n8_ n9_
        clear ho hb hg hat
        refine hK.out _ _ ⟨(blk_cell BK173.out 0).trans rfl,(blk_cell BK173.out 1).trans rfl,(blk_cell BK173.out 2).trans rfl,(blk_cell BK173.out 3).trans rfl,(blk_cell BK173.out 4).trans rfl⟩ (fun hHeld => ?_)
        clear hK K
        refine norm_ (a':=?_) ?_ ?_
        rotate_left
        ·show Act.put _ (some 111) _ = _
         simp only [Act.put,List.setIfInBounds_toArray,List.set_cons_zero,List.set_cons_succ,i64_w,i32_w]
         rfl
        refine pI 10 (some 117) ?_
        exact norm_ (by simp only [putAll,Act.put,List.setIfInBounds_toArray,List.set_cons_zero,List.set_cons_succ]) (hCont (.slice Ao68 y179.length co68,v183,v186) _ ⟨hHeld,(by (with_reducible repeat (first|apply Kd.R_alloc|apply Kd.R_drewN|apply Kd.R_drew));exact Kd.R_mono HO181.out (fun _ hk => ⟨hk.2,⟨hk.1.2,hk.1.1⟩⟩)),(by (with_reducible repeat (first|apply Kd.R_alloc|apply Kd.R_drewN|apply Kd.R_drew));exact Kd.R_mono HO184.out (fun _ hk => ⟨hk.2.1,⟨hk.2.2,hk.1⟩⟩)),(by (with_reducible repeat (first|apply Kd.R_alloc|apply Kd.R_drewN|apply Kd.R_drew));exact Kd.R_mono HO187.out (fun _ hk => ⟨hk.1.2,⟨hk.2,hk.1.1⟩⟩)),(by (with_reducible repeat (first|apply Kd.R_alloc|apply Kd.R_drewN|apply Kd.R_drew));exact Kd.R_mono HO_174003.out (fun _ hk => ⟨hk.1.1,⟨hk.2,hk.1.2⟩⟩)),(Kd.R_up HO_174004.out),(blk_up BK170.out),(blk_up BK171.out),(blk_up BK173.out),(blk_up BK178.out),(hb_)⟩)
      ·skip
       refine Kd.R_lit_step (Kd.int .i64) _ 3 ?hg (N:=115) ?hd (xs:=([ji31] : List Int)) (inner:=[.int .i64 ji31]) (ok:=fun _ => True) (okp:=fun _ => True) ?hr ?hp (fun _ hk => hk) trivial (Below.refl _ _) (Nat.le_refl _) (by simp) ?_;(case hd => rfl);(case hg => rfl);(case hr => first|(go_simp;done)|(go_simp;rfl));(case hp => exact (Reps.one (show Kd.M (Kd.int .i64) _ _ _ ji31 [.int .i64 ji31] from rfl) (Reps.none _ _)))
       intro v186 w63 ho64 hb hg_ hnew_
       clear hg_ hnew_
       (first|rw [← Ny185.out] at ho64|(simp only [Int.reduceToNat] at ho64;rw [← Ny185.out] at ho64))
       have n0_:=Aside0.mk (Kd.R_elder' (Kd.R_up HO_174002.out) (Kd.R_base ho64) hb)
       have n1_:=Aside0.mk (Kd.R_elder' (Kd.R_up HO_174003.out) (Kd.R_base ho64) hb)
       have n2_:=rbw HO_174004 hb
       have n3_:=Aside0.mk (Kd.R_lower (Kd.R_new' (Kd.R_new' ho64 (Kd.R_lt (Kd.R_up HO_174002.out))) (Kd.R_lt (Kd.R_up HO_174003.out))) (below_size (hb_)))
       have n4_:=bkb BK170 hb
       have n5_:=bkb BK171 hb
       have n6_:=bkb BK173 hb
       have n7_:=bkb BK178 hb
       have n8_:=Aside0.mk (below_step (hb_) hb)
       clear HO_174002
       clear HO_174003
       clear HO_174004
       clear BK170
       clear BK171
       clear BK173
       clear BK178
       clear HB
       have HO_174002:=n0_
       have HO_174003:=n1_
       have HO_174004:=n2_
       have HO187:=n3_
       have BK170:=n4_
       have BK171:=n5_
       have BK173:=n6_
       have BK178:=n7_
       have HB:=n8_
       clear n0_ n1_ n2_ n3_ n4_ n5_ n6_ n7_ n8_
       clear hb ho64
       refine hK.out _ _ ⟨(blk_cell BK173.out 0).trans rfl,(blk_cell BK173.out 1).trans rfl,(blk_cell BK173.out 2).trans rfl,(blk_cell BK173.out 3).trans rfl,(blk_cell BK173.out 4).trans rfl⟩ (fun hHeld => ?_)
       clear hK K
       refine norm_ (a':=?_) ?_ ?_
       rotate_left
       ·show Act.put _ (some 115) _ = _
        simp only [Act.put,List.setIfInBounds_toArray,List.set_cons_zero,List.set_cons_succ,i64_w,i32_w]
        rfl
       refine oI 3 (some 110) (fun K hK => ?_)
       refine Kd.R_lit_step (Kd.int .i64) _ 3 ?hg (N:=110) ?hd (xs:=([x12_2] : List Int)) (inner:=[.int .i64 x12_2]) (ok:=fun _ => True) (okp:=fun _ => True) ?hr ?hp (fun _ hk => hk) trivial (Below.refl _ _) (Nat.le_refl _) (by simp) ?_;(case hd => rfl);(case hg => rfl);(case hr => first|(go_simp;done)|(go_simp;rfl));(case hp => exact (Reps.one (show Kd.M (Kd.int .i64) _ _ _ x12_2 [.int .i64 x12_2] from rfl) (Reps.none _ _)))
       intro v180 w65 ho66 hb hg_ hnew_
       clear hg_ hnew_
       (first|rw [← Ny179.out] at ho66|(simp only [Int.reduceToNat] at ho66;rw [← Ny179.out] at ho66))
       have n0_:=Aside0.mk (Kd.R_elder' (Kd.R_up HO_174002.out) (Kd.R_base ho66) hb)
       have n1_:=Aside0.mk (Kd.R_elder' (Kd.R_up HO_174003.out) (Kd.R_base ho66) hb)
       have n2_:=rbw HO_174004 hb
       have n3_:=Aside0.mk (Kd.R_elder' (Kd.R_up HO187.out) (Kd.R_base ho66) hb)
       have n4_:=Aside0.mk (Kd.R_lower (Kd.R_new' (Kd.R_new' (Kd.R_new' ho66 (Kd.R_lt (Kd.R_up HO_174002.out))) (Kd.R_lt (Kd.R_up HO_174003.out))) (Kd.R_lt (Kd.R_up HO187.out))) (below_size (hb_)))
       have n5_:=bkb BK170 hb
       have n6_:=bkb BK171 hb
       have n7_:=bkb BK173 hb
       have n8_:=bkb BK178 hb
       have n9_:=Aside0.mk (below_step (hb_) hb)
       clear HO_174002
       clear HO_174003
       clear HO_174004
       clear HO187
       clear BK170
       clear BK171
       clear BK173
       clear BK178
       clear HB
       have HO_174002:=n0_
       have HO_174003:=n1_
       have HO_174004:=n2_
       have HO187:=n3_
       have HO181:=n4_
       have BK170:=n5_
       have BK171:=n6_
       have BK173:=n7_
       have BK178:=n8_
       have HB:=n9_
       clear n0_ n1_ n2_ n3_ n4_ n5_ n6_ n7_ n8_ n9_
       clear hb ho66
       obtain ⟨Ao68,co68,eo68⟩:=Kd.R_slice HO181.out
       (first|subst eo68|(injection eo68 with f1_ f2_ f3_;have f4_:=f1_.symm;have f5_:=f3_.symm;clear f1_ f2_ f3_;subst f4_;subst f5_))
       refine hK.out _ _ ⟨(blk_cell BK173.out 0).trans rfl,(blk_cell BK173.out 1).trans rfl,(blk_cell BK173.out 2).trans rfl,(blk_cell BK173.out 3).trans rfl,(blk_cell BK173.out 4).trans rfl⟩ (fun hHeld => ?_)
       clear hK K
       refine norm_ (a':=?_) ?_ ?_
       rotate_left
       ·show Act.put _ (some 110) _ = _
        simp only [Act.put,List.setIfInBounds_toArray,List.set_cons_zero,List.set_cons_succ,i64_w,i32_w]
        rfl
       refine oI 4 (some 111) (fun K hK => ?_)
       refine Kd.R_append_rows_step (Kd.int .i64) (w0:=w) w.heap.size (by rfl) (.tmp 108) (.tmp 110) 22 3 (.int .i64 0) 8 rfl Try.underlying22 info3 rfl (by decide) (by omega) (.slice Ao60 x174002_1.length co60) x174002_1 y179 _ _ _ (fun k_ => some k_ ≠ (.slice Ao61 x174003_1.length co61 : Value).ownBlock ∧ some k_ ≠ (v186 : Value).ownBlock ∧ some k_ ≠ (.slice Ao68 y179.length co68 : Value).ownBlock) (fun _ => False) rfl rfl ?aO ?aR (fun _ _ h => h) (fun _ h => h.elim) ?aF ?aB ?aS ?aL ?_
       (case aR => exact Kd.C_up (Kd.R_reads' HO181.out).2.2)
       (case aB => exact (hb_))
       (case aF => exact (fun k_ hk => ⟨Kd.fresh' (Kd.R_lt (Kd.R_up HO_174003.out)) k_ hk,Kd.fresh' (Kd.R_lt (Kd.R_up HO187.out)) k_ hk,Kd.fresh' (Kd.R_lt (Kd.R_up HO181.out)) k_ hk⟩))
       (case aO => exact (by (with_reducible repeat (first|apply Kd.R_alloc|apply Kd.R_drewN|apply Kd.R_drew));exact Kd.R_mono HO_174002.out (fun _ hk => ⟨hk.1.1,⟨hk.1.2,hk.2⟩⟩)))
       (case aS => exact (below_size (hb_)))
       (case aL => have:=LMc54.out;omega)
       intro v183 w67 ho hb hg hat
       rw [← Ny182.out] at ho
       have n0_:=Aside0.mk (Kd.R_after (ok:=(fun k_ => some k_ ≠ (v186 : Value).ownBlock ∧ some k_ ≠ (.slice Ao68 y179.length co68 : Value).ownBlock)) (by (with_reducible repeat (first|apply Kd.R_alloc|apply Kd.R_drewN|apply Kd.R_drew));exact Kd.R_mono HO_174003.out (fun _ hk => ⟨⟨hk.1.2,hk.2⟩,hk.1.1⟩)) hg hat)
       have n1_:=Aside0.mk (Kd.R_over' (Kd.R_up HO_174004.out) (Kd.R_typed (Kd.R_up HO_174002.out)) (by decide) hg)
       have n2_:=Aside0.mk (blk_grown (blk_up BK170.out) hg (Kd.R_ne HO_174002.out BK170.out (by decide)))
       have n3_:=Aside0.mk (blk_grown (blk_up BK171.out) hg (Kd.R_ne HO_174002.out BK171.out (by decide)))
       have n4_:=Aside0.mk (blk_grown (blk_up BK173.out) hg (Kd.R_ne HO_174002.out BK173.out (by decide)))
       have n5_:=Aside0.mk (blk_grown (blk_up BK178.out) hg (Kd.R_ne HO_174002.out BK178.out (by decide)))
       have n6_:=Aside0.mk (Kd.R_after (ok:=(fun k_ => some k_ ≠ (.slice Ao61 x174003_1.length co61 : Value).ownBlock ∧ some k_ ≠ (.slice Ao68 y179.length co68 : Value).ownBlock)) (by (with_reducible repeat (first|apply Kd.R_alloc|apply Kd.R_drewN|apply Kd.R_drew));exact Kd.R_mono HO187.out (fun _ hk => ⟨⟨hk.1.2,hk.2⟩,hk.1.1.2⟩)) hg hat)
       have n7_:=Aside0.mk (Kd.R_after (ok:=(fun k_ => some k_ ≠ (.slice Ao61 x174003_1.length co61 : Value).ownBlock ∧ some k_ ≠ (v186 : Value).ownBlock)) (by (with_reducible repeat (first|apply Kd.R_alloc|apply Kd.R_drewN|apply Kd.R_drew));exact Kd.R_mono HO181.out (fun _ hk => ⟨⟨hk.1.2,hk.2⟩,hk.1.1.2⟩)) hg hat)
       have n8_:=Aside0.mk (hb)
       have n9_:=Aside0.mk (ho)
       clear HO_174003
       clear HO_174004
       clear BK170
       clear BK171
       clear BK173
       clear BK178
       clear HO187
       clear HO181
       clear HB
       clear HO_174002
       have HO_174003:=n0_
       have HO_174004:=n1_
       have BK170:=n2_
       have BK171:=n3_
       have BK173:=n4_
       have BK178:=n5_
       have HO187:=n6_
       have HO181:=n7_
       have HB:=n8_
       have HO184:=n9_
       clear n0_ n1_ n2_ n3_ n4_ n5_ n6_ n7_ n8_ n9_
       clear ho hb hg hat
       refine hK.out _ _ ⟨(blk_cell BK173.out 0).trans rfl,(blk_cell BK173.out 1).trans rfl,(blk_cell BK173.out 2).trans rfl,(blk_cell BK173.out 3).trans rfl,(blk_cell BK173.out 4).trans rfl⟩ (fun hHeld => ?_)
       clear hK K
       refine norm_ (a':=?_) ?_ ?_
       rotate_left
       ·show Act.put _ (some 111) _ = _
        simp only [Act.put,List.setIfInBounds_toArray,List.set_cons_zero,List.set_cons_succ,i64_w,i32_w]
        rfl
       refine pI 10 (some 117) ?_
       exact norm_ (by simp only [putAll,Act.put,List.setIfInBounds_toArray,List.set_cons_zero,List.set_cons_succ]) (hCont (.slice Ao68 y179.length co68,v183,v186) _ ⟨hHeld,(by (with_reducible repeat (first|apply Kd.R_alloc|apply Kd.R_drewN|apply Kd.R_drew));exact Kd.R_mono HO181.out (fun _ hk => ⟨hk.2,⟨hk.1.2,hk.1.1⟩⟩)),(by (with_reducible repeat (first|apply Kd.R_alloc|apply Kd.R_drewN|apply Kd.R_drew));exact Kd.R_mono HO184.out (fun _ hk => ⟨hk.2.2,⟨hk.2.1,hk.1⟩⟩)),(by (with_reducible repeat (first|apply Kd.R_alloc|apply Kd.R_drewN|apply Kd.R_drew));exact Kd.R_mono HO187.out (fun _ hk => ⟨hk.1.2,⟨hk.2,hk.1.1⟩⟩)),(by (with_reducible repeat (first|apply Kd.R_alloc|apply Kd.R_drewN|apply Kd.R_drew));exact Kd.R_mono HO_174003.out (fun _ hk => ⟨hk.1.2,⟨hk.2,hk.1.1⟩⟩)),(Kd.R_up HO_174004.out),(blk_up BK170.out),(blk_up BK171.out),(blk_up BK173.out),(blk_up BK178.out),(hb_)⟩)
     rintro ⟨v180,v183,v186⟩ w69 ⟨hS_,h0_,h1_,h2_,h3_,h4_,h5_,h6_,h7_,h8_,h9_⟩
     have n0_ : Aside0 (Kd.R (Kd.int .i64) 3 w69 w.heap.size (fun k_ => some k_ ≠ (v183 : Value).ownBlock ∧ some k_ ≠ (v186 : Value).ownBlock ∧ some k_ ≠ (.slice Ao61 x174003_1.length co61 : Value).ownBlock) v180 y179):=⟨h0_⟩
     have n1_ : Aside0 (Kd.R (Kd.int .i64) 3 w69 w.heap.size (fun k_ => some k_ ≠ (v180 : Value).ownBlock ∧ some k_ ≠ (v186 : Value).ownBlock ∧ some k_ ≠ (.slice Ao61 x174003_1.length co61 : Value).ownBlock) v183 y182):=⟨h1_⟩
     have n2_ : Aside0 (Kd.R (Kd.int .i64) 3 w69 w.heap.size (fun k_ => some k_ ≠ (v180 : Value).ownBlock ∧ some k_ ≠ (v183 : Value).ownBlock ∧ some k_ ≠ (.slice Ao61 x174003_1.length co61 : Value).ownBlock) v186 y185):=⟨h2_⟩
     have n3_ : Aside0 (Kd.R (Kd.int .i64) 3 w69 w.heap.size (fun k_ => some k_ ≠ (v180 : Value).ownBlock ∧ some k_ ≠ (v183 : Value).ownBlock ∧ some k_ ≠ (v186 : Value).ownBlock) (.slice Ao61 x174003_1.length co61) x174003_1):=⟨h3_⟩
     have n4_ : Aside0 (Kd.R Kd.bool 4 w69 w.heap.size (fun _ => True) u174004 x174004_1):=⟨h4_⟩
     have n5_ : Aside0 (w69.heap[gb170]? = some (.cells #[.int .i64 a0_0,.int .i64 a0_1,.slice (some ad174) l0_2.length c0_2] 53 (0,0))):=⟨h5_⟩
     have n6_ : Aside0 (w69.heap[gb171]? = some (.cells #[.int .i64 0,.int .i64 0,.slice none 0 0,.slice none 0 0,.slice none 0 0] 104 (0,0))):=⟨h6_⟩
     have n7_ : Aside0 (w69.heap[gb173]? = some (.cells #[.int .i64 a0_0,.int .i64 a0_1,.slice Ao60 x174002_1.length co60,.slice Ao61 x174003_1.length co61,u174004] 104 (0,0))):=⟨h7_⟩
     have n8_ : Aside0 (w69.heap[gb178]? = some (.cells #[.int .i64 (rd l0_2 (ji17)),.int .i64 (rd l0_2 (ji20)),.int .i64 (rd l0_2 (ji23)),.int .i64 (rd l0_2 (ji26))] 126 (0,0))):=⟨h8_⟩
     have n9_ : Aside0 (Below w.heap.size w w69):=⟨h9_⟩
     clear HO_174002
     clear HO_174003
     clear HO_174004
     clear BK170
     clear BK171
     clear BK173
     clear BK178
     clear HB
     clear h0_ h1_ h2_ h3_ h4_ h5_ h6_ h7_ h8_ h9_
     have HO181:=n0_
     have HO184:=n1_
     have HO187:=n2_
     have HO_174003:=n3_
     have HO_174004:=n4_
     have BK170:=n5_
     have BK171:=n6_
     have BK173:=n7_
     have BK178:=n8_
     have HB:=n9_
     clear n0_ n1_ n2_ n3_ n4_ n5_ n6_ n7_ n8_ n9_
     have hHeld : w69.cell? ⟨gb173,0,none⟩ = some (.int .i64 a0_0) ∧ w69.cell? ⟨gb173,1,none⟩ = some (.int .i64 a0_1) ∧ w69.cell? ⟨gb173,2,none⟩ = some (.slice Ao60 x174002_1.length co60) ∧ w69.cell? ⟨gb173,3,none⟩ = some (.slice Ao61 x174003_1.length co61) ∧ w69.cell? ⟨gb173,4,none⟩ = some (u174004):=hS_
     obtain ⟨Ao71,co71,eo71⟩:=Kd.R_slice HO187.out
     (first|subst eo71|(injection eo71 with f1_ f2_ f3_;have f4_:=f1_.symm;have f5_:=f3_.symm;clear f1_ f2_ f3_;subst f4_;subst f5_))
     refine norm_ (a':=?_) ?_ ?_
     rotate_left
     ·simp only [putAll,Act.put,List.setIfInBounds_toArray,List.set_cons_zero,List.set_cons_succ]
      rfl
     refine oI 9 (some 116) (fun K hK => ?_)
     refine Kd.R_append_rows_step (Kd.int .i64) (w0:=w) w.heap.size (by rfl) (.tmp 113) (.tmp 115) 22 3 (.int .i64 0) 8 rfl Try.underlying22 info3 rfl (by decide) (by omega) (.slice Ao61 x174003_1.length co61) x174003_1 y185 _ _ _ (fun k_ => some k_ ≠ (v180 : Value).ownBlock ∧ some k_ ≠ (v183 : Value).ownBlock ∧ some k_ ≠ (.slice Ao71 y185.length co71 : Value).ownBlock) (fun _ => False) rfl rfl ?aO ?aR (fun _ _ h => h) (fun _ h => h.elim) ?aF ?aB ?aS ?aL ?_
     (case aR => exact Kd.C_up (Kd.R_reads' HO187.out).2.2)
     (case aB => exact (hb_))
     (case aF => exact (fun k_ hk => ⟨Kd.fresh' (Kd.R_lt (Kd.R_up HO181.out)) k_ hk,Kd.fresh' (Kd.R_lt (Kd.R_up HO184.out)) k_ hk,Kd.fresh' (Kd.R_lt (Kd.R_up HO187.out)) k_ hk⟩))
     (case aO => exact (Kd.R_up HO_174003.out))
     (case aS => exact (below_size (hb_)))
     (case aL => have:=LMc55.out;omega)
     intro v189 w70 ho hb hg hat
     rw [← Ny188.out] at ho
     have n0_:=Aside0.mk (Kd.R_over' (Kd.R_up HO_174004.out) (Kd.R_typed (Kd.R_up HO_174003.out)) (by decide) hg)
     have n1_:=Aside0.mk (blk_grown (blk_up BK170.out) hg (Kd.R_ne HO_174003.out BK170.out (by decide)))
     have n2_:=Aside0.mk (blk_grown (blk_up BK171.out) hg (Kd.R_ne HO_174003.out BK171.out (by decide)))
     have n3_:=Aside0.mk (blk_grown (blk_up BK173.out) hg (Kd.R_ne HO_174003.out BK173.out (by decide)))
     have n4_:=Aside0.mk (blk_grown (blk_up BK178.out) hg (Kd.R_ne HO_174003.out BK178.out (by decide)))
     have n5_:=Aside0.mk (Kd.R_after (ok:=(fun k_ => some k_ ≠ (v183 : Value).ownBlock ∧ some k_ ≠ (.slice Ao71 y185.length co71 : Value).ownBlock)) (by (with_reducible repeat (first|apply Kd.R_alloc|apply Kd.R_drewN|apply Kd.R_drew));exact Kd.R_mono HO181.out (fun _ hk => ⟨⟨hk.1,hk.2.1⟩,hk.2.2⟩)) hg hat)
     have n6_:=Aside0.mk (Kd.R_after (ok:=(fun k_ => some k_ ≠ (v180 : Value).ownBlock ∧ some k_ ≠ (.slice Ao71 y185.length co71 : Value).ownBlock)) (by (with_reducible repeat (first|apply Kd.R_alloc|apply Kd.R_drewN|apply Kd.R_drew));exact Kd.R_mono HO184.out (fun _ hk => ⟨⟨hk.1,hk.2.1⟩,hk.2.2⟩)) hg hat)
     have n7_:=Aside0.mk (Kd.R_after (ok:=(fun k_ => some k_ ≠ (v180 : Value).ownBlock ∧ some k_ ≠ (v183 : Value).ownBlock)) (by (with_reducible repeat (first|apply Kd.R_alloc|apply Kd.R_drewN|apply Kd.R_drew));exact Kd.R_mono HO187.out (fun _ hk => ⟨⟨hk.1,hk.2.1⟩,hk.2.2⟩)) hg hat)
     have n8_:=Aside0.mk (hb)
     have n9_:=Aside0.mk (ho)
     clear HO_174004
     clear BK170
     clear BK171
     clear BK173
     clear BK178
     clear HO181
     clear HO184
     clear HO187
     clear HB
     clear HO_174003
     have HO_174004:=n0_
     have BK170:=n1_
     have BK171:=n2_
     have BK173:=n3_
     have BK178:=n4_
     have HO181:=n5_
     have HO184:=n6_
     have HO187:=n7_
     have HB:=n8_
     have HO190:=n9_
     clear n0_ n1_ n2_ n3_ n4_ n5_ n6_ n7_ n8_ n9_
     clear ho hb hg hat
     obtain ⟨Ao72,co72,eo72⟩:=Kd.R_slice HO184.out
     (first|subst eo72|(injection eo72 with f1_ f2_ f3_;have f4_:=f1_.symm;have f5_:=f3_.symm;clear f1_ f2_ f3_;subst f4_;subst f5_))
     obtain ⟨Ao74,co74,eo74⟩:=Kd.R_slice HO190.out
     (first|subst eo74|(injection eo74 with f1_ f2_ f3_;have f4_:=f1_.symm;have f5_:=f3_.symm;clear f1_ f2_ f3_;subst f4_;subst f5_))
     refine hK.out _ _ ⟨(blk_cell BK173.out 0).trans rfl,(blk_cell BK173.out 1).trans rfl,(blk_cell BK173.out 2).trans rfl,(blk_cell BK173.out 3).trans rfl,(blk_cell BK173.out 4).trans rfl⟩ (fun hHeld => ?_)
     clear hK K
     refine norm_ (a':=?_) ?_ ?_
     rotate_left
     ·show Act.put _ (some 116) _ = _
      simp only [Act.put,List.setIfInBounds_toArray,List.set_cons_zero,List.set_cons_succ,i64_w,i32_w]
      rfl
     refine last_ (i:=11) (N:=none) #[true,true,true,true,true,true,true,true,true,true,true,true,false,false] rfl rfl (one_of HT_.out (by kernel_rfl)) (by decide) (fun K hK => ?_)
     have hs73 : w70.cell? ⟨gb173,2,none⟩ = some (.slice Ao60 x174002_1.length co60):=(blk_cell BK173.out 2).trans rfl
     have hfs73:=blk_frozen BK173.out 2
     have hns73_0:=NB170_173.out
     have hns73_1:=NB171_173.out
     have hns73_3:=NB178_173.out
     have hms73_0:=NB173_170.out
     have hms73_1:=NB173_171.out
     have hms73_3:=NB173_178.out
     refine skip_ (w1:=?_) (by rfl) rfl ?_ ?_
     rotate_left
     ·go_simp
      rfl
     refine hK.out _ _ ?_
     clear hK K
     refine pI 12 (some 118) ?_
     refine last_ (i:=13) (N:=none) #[true,true,true,true,true,true,true,true,true,true,true,true,true,true] rfl rfl (one_of HT_.out (by kernel_rfl)) (by decide) (fun K hK => ?_)
     have hs75 : w70.cell? ⟨gb173,3,none⟩ = some (.slice Ao61 x174003_1.length co61):=(blk_cell BK173.out 3).trans rfl
     have hfs75:=blk_frozen BK173.out 3
     have hns75_0:=NB170_173.out
     have hns75_1:=NB171_173.out
     have hns75_3:=NB178_173.out
     have hms75_0:=NB173_170.out
     have hms75_1:=NB173_171.out
     have hms75_3:=NB173_178.out
     refine skip_ (w1:=?_) (by rfl) rfl ?_ ?_
     rotate_left
     ·go_simp
      rfl
     refine hK.out _ _ ?_
     clear hK K
     refine done_ (done_of HT_.out (by kernel_rfl)) ?_
     have hnb76:=NB173_170.out
     have hnc76:=NB170_173.out
     have hnb77:=NB173_171.out
     have hnc77:=NB171_173.out
     have hnb78:=NB173_178.out
     have hnc78:=NB178_173.out
     obtain ⟨_,_,_,_,_,_,_,_,_,_⟩:=cells5 BK173.out
     have hnb80:=NB178_170.out
     have hnc80:=NB170_178.out
     have hnb81:=NB178_171.out
     have hnc81:=NB171_178.out
     obtain ⟨_,_,_,_,_,_,_,_⟩:=cells4 BK178.out
     try go_wp2_with (first|((with_reducible refine gate_dst (N:=131) rfl ?_);refine Kd.R_lit Kd.bool _ 4 ?hg (N:=131) ?hd (xs:=([decide ((ji58) ≤ 2)] : List Bool)) (inner:=[.bool (decide ((ji58) ≤ 2))]) (ok:=fun _ => True) (okp:=fun _ => True) ?hr ?hp (fun _ hk => hk) trivial (Below.refl _ _) (Nat.le_refl _) (by simp) ?_;(case hd => rfl);(case hg => rfl);(case hr => first|(go_simp;done)|(go_simp;rfl));(case hp => exact (Reps.one (show Kd.M Kd.bool _ _ _ (decide ((ji58) ≤ 2)) [.bool (decide ((ji58) ≤ 2))] from rfl) (Reps.none _ _)));intro v192 w83 ho84 hb hg_ hnew_;clear hg_ hnew_;(first|rw [← Ny191.out] at ho84|(simp only [Int.reduceToNat] at ho84;rw [← Ny191.out] at ho84));have HO193:=Aside0.mk (Kd.R_lower (Kd.R_new' ho84 (Kd.R_lt (by (with_reducible repeat (first|apply Kd.R_alloc|apply Kd.R_drewN|apply Kd.R_drew));exact (Kd.R_mono (Kd.R_fars gb173 (Kd.R_types HO_174004.out BK173.out (by decide)) (fun _ hk => hk.2)) (fun _ h_ => h_.1))))) (below_size (hb_)));replace HO_174004:=Aside0.mk (Kd.R_elder' (by (with_reducible repeat (first|apply Kd.R_alloc|apply Kd.R_drewN|apply Kd.R_drew));exact (Kd.R_mono (Kd.R_fars gb173 (Kd.R_types HO_174004.out BK173.out (by decide)) (fun _ hk => hk.2)) (fun _ h_ => h_.1))) (Kd.R_base ho84) hb);replace HO181:=Aside0.mk (Kd.R_below (by (with_reducible repeat (first|apply Kd.R_alloc|apply Kd.R_drewN|apply Kd.R_drew));exact (Kd.R_mono (Kd.R_fars gb173 (Kd.R_types HO181.out BK173.out (by decide)) (fun _ hk => hk.2)) (fun _ h_ => h_.1))) hb);replace HO184:=Aside0.mk (Kd.R_below (by (with_reducible repeat (first|apply Kd.R_alloc|apply Kd.R_drewN|apply Kd.R_drew));exact (Kd.R_mono (Kd.R_fars gb173 (Kd.R_types HO184.out BK173.out (by decide)) (fun _ hk => hk.2)) (fun _ h_ => h_.1))) hb);replace HO187:=Aside0.mk (Kd.R_below (by (with_reducible repeat (first|apply Kd.R_alloc|apply Kd.R_drewN|apply Kd.R_drew));exact (Kd.R_mono (Kd.R_fars gb173 (Kd.R_types HO187.out BK173.out (by decide)) (fun _ hk => hk.2)) (fun _ h_ => h_.1))) hb);replace HO190:=Aside0.mk (Kd.R_below (by (with_reducible repeat (first|apply Kd.R_alloc|apply Kd.R_drewN|apply Kd.R_drew));exact (Kd.R_mono (Kd.R_fars gb173 (Kd.R_types HO190.out BK173.out (by decide)) (fun _ hk => hk.2)) (fun _ h_ => h_.1))) hb);replace BK170:=Aside0.mk (blk_below (g:=gb170) (o:=.cells #[.int .i64 a0_0,.int .i64 a0_1,.slice (some ad174) l0_2.length c0_2] 53 (0,0)) (by (with_reducible repeat (first|refine blk_drewN ?_ _|refine blk_drew ?_|refine blk_alloc ?_ _));refine blk_far ?_ NB170_173.out _;(with_reducible repeat (first|refine blk_drewN ?_ _|refine blk_drew ?_|refine blk_alloc ?_ _));refine blk_far ?_ NB170_173.out _;(with_reducible repeat (first|refine blk_drewN ?_ _|refine blk_drew ?_|refine blk_alloc ?_ _));exact BK170.out) hb);replace BK171:=Aside0.mk (blk_below (g:=gb171) (o:=.cells #[.int .i64 0,.int .i64 0,.slice none 0 0,.slice none 0 0,.slice none 0 0] 104 (0,0)) (by (with_reducible repeat (first|refine blk_drewN ?_ _|refine blk_drew ?_|refine blk_alloc ?_ _));refine blk_far ?_ NB171_173.out _;(with_reducible repeat (first|refine blk_drewN ?_ _|refine blk_drew ?_|refine blk_alloc ?_ _));refine blk_far ?_ NB171_173.out _;(with_reducible repeat (first|refine blk_drewN ?_ _|refine blk_drew ?_|refine blk_alloc ?_ _));exact BK171.out) hb);replace BK173:=Aside0.mk (blk_below (g:=gb173) (o:=.cells #[.int .i64 a0_0,.int .i64 a0_1,.slice Ao72 y182.length co72,.slice Ao74 y188.length co74,u174004] 104 (0,0)) (by (with_reducible repeat (first|refine blk_drewN ?_ _|refine blk_drew ?_|refine blk_alloc ?_ _));refine blk_put (cs:=#[.int .i64 a0_0,.int .i64 a0_1,.slice Ao72 y182.length co72,.slice Ao61 x174003_1.length co61,u174004]) ?_ 3 _ rfl;(with_reducible repeat (first|refine blk_drewN ?_ _|refine blk_drew ?_|refine blk_alloc ?_ _));refine blk_put (cs:=#[.int .i64 a0_0,.int .i64 a0_1,.slice Ao60 x174002_1.length co60,.slice Ao61 x174003_1.length co61,u174004]) ?_ 2 _ rfl;(with_reducible repeat (first|refine blk_drewN ?_ _|refine blk_drew ?_|refine blk_alloc ?_ _));exact BK173.out) hb);replace BK178:=Aside0.mk (blk_below (g:=gb178) (o:=.cells #[.int .i64 (rd l0_2 (ji17)),.int .i64 (rd l0_2 (ji20)),.int .i64 (rd l0_2 (ji23)),.int .i64 (rd l0_2 (ji26))] 126 (0,0)) (by (with_reducible repeat (first|refine blk_drewN ?_ _|refine blk_drew ?_|refine blk_alloc ?_ _));refine blk_far ?_ NB178_173.out _;(with_reducible repeat (first|refine blk_drewN ?_ _|refine blk_drew ?_|refine blk_alloc ?_ _));refine blk_far ?_ NB178_173.out _;(with_reducible repeat (first|refine blk_drewN ?_ _|refine blk_drew ?_|refine blk_alloc ?_ _));exact BK178.out) hb);replace HB:=hbs hb;clear hb ho84;obtain ⟨Ao86,co86,eo86⟩:=Kd.R_slice HO193.out;subst eo86)|((with_reducible refine gate_builtin (b:=.append) (xs:=#[.tmp 120,.tmp 131]) rfl ?_);at_builtin;refine Kd.R_append_rows Kd.bool (w0:=w) w.heap.size rfl (.tmp 120) (.tmp 131) 102 4 (.bool false) 1 rfl Try.underlying102 info4 rfl (by decide) (by omega) u174004 x174004_1 y191 _ _ _ (fun k_ => some k_ ≠ (.slice Ao86 y191.length co86 : Value).ownBlock) (fun _ => False) rfl rfl ?aO ?aR (fun _ _ h => h) (fun _ h => h.elim) ?aF ?aB ?aS ?aL ?_;(case aR => exact Kd.C_up (Kd.R_reads' HO193.out).2.2);(case aB => exact (hb_));(case aF => exact (fun k_ hk => Kd.fresh' (Kd.R_lt (Kd.R_up HO193.out)) k_ hk));(case aO => exact (by (with_reducible repeat (first|apply Kd.R_alloc|apply Kd.R_drewN|apply Kd.R_drew));exact Kd.R_mono HO_174004.out (fun _ hk => hk.2)));(case aS => exact (below_size (hb_)));(case aL => have:=LMc59.out;omega);intro v195 w85 ho hb hg hat;rw [← Ny194.out] at ho;have HO196:=Aside0.mk (ho);replace BK170:=Aside0.mk (blk_grown (blk_up BK170.out) hg (Kd.R_ne HO_174004.out BK170.out (by decide)));replace BK171:=Aside0.mk (blk_grown (blk_up BK171.out) hg (Kd.R_ne HO_174004.out BK171.out (by decide)));replace BK173:=Aside0.mk (blk_grown (blk_up BK173.out) hg (Kd.R_ne HO_174004.out BK173.out (by decide)));replace BK178:=Aside0.mk (blk_grown (blk_up BK178.out) hg (Kd.R_ne HO_174004.out BK178.out (by decide)));replace HO181:=Aside0.mk (Kd.R_over' (Kd.R_up HO181.out) (Kd.R_typed (Kd.R_up HO_174004.out)) (by decide) hg);replace HO184:=Aside0.mk (Kd.R_over' (Kd.R_up HO184.out) (Kd.R_typed (Kd.R_up HO_174004.out)) (by decide) hg);replace HO187:=Aside0.mk (Kd.R_over' (Kd.R_up HO187.out) (Kd.R_typed (Kd.R_up HO_174004.out)) (by decide) hg);replace HO190:=Aside0.mk (Kd.R_over' (Kd.R_up HO190.out) (Kd.R_typed (Kd.R_up HO_174004.out)) (by decide) hg);replace HO193:=Aside0.mk (Kd.R_after (ok:=(fun _ => True)) (Kd.R_up HO193.out) hg hat);replace HB:=Aside0.mk (hb);clear HO_174004;clear ho hb hg hat;obtain ⟨Ao87,co87,eo87⟩:=Kd.R_slice HO196.out;subst eo87;obtain ⟨_,_,_,_,_,_,_,_,_,_⟩:=cells5 BK173.out))
     go_roundg k2
     case measure => have:=HK1.out;have:=HK2.out;omega
     case rel => exact ⟨(wrap64 (x31_1 + 1)),(y182),(y188),(y194),(.slice Ao72 y182.length co72),(.slice Ao74 y188.length co74),(.slice Ao87 y194.length co87),(by first|rfl|(simp;done)|(simp [*];done)),H',⟨by have:=HK1.out;have:=HK2.out;omega⟩,⟨by (with_reducible repeat (first|apply Kd.R_alloc|apply Kd.R_drewN|apply Kd.R_drew));exact Kd.R_mono (Kd.R_far (p:=⟨gb173,4,none⟩) (Kd.R_types HO184.out BK173.out (by decide)) (fun _ hk => hk.2) (.slice Ao87 y194.length co87)) (fun _ hk => hk.1.2)⟩,⟨by (with_reducible repeat (first|apply Kd.R_alloc|apply Kd.R_drewN|apply Kd.R_drew));exact Kd.R_mono (Kd.R_far (p:=⟨gb173,4,none⟩) (Kd.R_types HO190.out BK173.out (by decide)) (fun _ hk => hk.2) (.slice Ao87 y194.length co87)) (fun _ hk => hk.1.2.1)⟩,⟨by (with_reducible repeat (first|apply Kd.R_alloc|apply Kd.R_drewN|apply Kd.R_drew));exact Kd.R_mono (Kd.R_far (p:=⟨gb173,4,none⟩) (Kd.R_types HO196.out BK173.out (by decide)) (fun _ hk => hk.2) (.slice Ao87 y194.length co87)) (fun _ hk => trivial)⟩,⟨by (with_reducible repeat (first|refine blk_drewN ?_ _|refine blk_drew ?_|refine blk_alloc ?_ _));refine blk_far ?_ NB170_173.out _;(with_reducible repeat (first|refine blk_drewN ?_ _|refine blk_drew ?_|refine blk_alloc ?_ _));exact BK170.out⟩,⟨by (with_reducible repeat (first|refine blk_drewN ?_ _|refine blk_drew ?_|refine blk_alloc ?_ _));refine blk_far ?_ NB171_173.out _;(with_reducible repeat (first|refine blk_drewN ?_ _|refine blk_drew ?_|refine blk_alloc ?_ _));exact BK171.out⟩,⟨by (with_reducible repeat (first|refine blk_drewN ?_ _|refine blk_drew ?_|refine blk_alloc ?_ _));refine blk_put (cs:=#[.int .i64 a0_0,.int .i64 a0_1,.slice Ao72 y182.length co72,.slice Ao74 y188.length co74,u174004]) ?_ 4 _ rfl;(with_reducible repeat (first|refine blk_drewN ?_ _|refine blk_drew ?_|refine blk_alloc ?_ _));exact BK173.out⟩,⟨hb_⟩⟩

/-! ### water_incline: function 104 -/
def water_incline.f (a0 : Int) : Option (Bool) := if a0 = 3 then (some true) else (if a0 = 6 then (some true) else (if a0 = 9 then (some true) else (some (a0 == 12))))
set_option maxHeartbeats 8000000 in
set_option maxRecDepth 100000 in
theorem water_incline.calls (a0 : Int) (r : Bool) (w : World) (h : water_incline.f a0 = some r) :
  Calls Try.prog 104 #[.int .i64 a0] w fun e w' => e = .returned (.bool r) ∧ Drawn0 w w':=by
 have H : (if a0 = 3 then (some true) else (if a0 = 6 then (some true) else (if a0 = 9 then (some true) else (some (a0 == 12))))) = some r:=h
 clear h
 by_cases c2 : a0 = 3
 ·rw [if_pos c2] at H
  have c2b0:=bqt c2
  have c2b1:=bnf c2
  clear c2
  obtain rfl:=Option.some.inj H
  go_enter Try.func104,Try.ntmps104
  go_wp2
  go_ret
  exact ⟨by first|rfl|(simp;done)|(simp [*];done),by repeat (first|exact Drawn0.refl _|apply Drawn0.step)⟩
 rw [if_neg c2] at H
 have c2b0:=bqf c2
 have c2b1:=bnt c2
 by_cases c3 : a0 = 6
 ·rw [if_pos c3] at H
  have c3b0:=bqt c3
  have c3b1:=bnf c3
  clear c3
  obtain rfl:=Option.some.inj H
  go_enter Try.func104,Try.ntmps104
  go_wp2
  go_ret
  exact ⟨by first|rfl|(simp;done)|(simp [*];done),by repeat (first|exact Drawn0.refl _|apply Drawn0.step)⟩
 ·rw [if_neg c3] at H
  have c3b0:=bqf c3
  have c3b1:=bnt c3
  by_cases c4 : a0 = 9
  ·rw [if_pos c4] at H
   have c4b0:=bqt c4
   have c4b1:=bnf c4
   clear c4
   obtain rfl:=Option.some.inj H
   go_enter Try.func104,Try.ntmps104
   go_wp2
   go_ret
   exact ⟨by first|rfl|(simp;done)|(simp [*];done),by repeat (first|exact Drawn0.refl _|apply Drawn0.step)⟩
  ·rw [if_neg c4] at H
   have c4b0:=bqf c4
   have c4b1:=bnt c4
   obtain rfl:=Option.some.inj H
   go_enter Try.func104,Try.ntmps104
   go_wp2
   go_ret
   exact ⟨by first|rfl|(simp;done)|(simp [*];done),by repeat (first|exact Drawn0.refl _|apply Drawn0.step)⟩

/-! ### water_ground_may: function 95 -/
mutual
def water_ground_may.j0 : Nat → Int → Int → Bool → Int → Int → List Int → List Int → List Bool → Option (Int)
 | 0,_,_,_,_,_,_,_,_ => none
 | k + 1,x1,x2,x7,x198000,x198001,x198002,x198003,x198004 => if x7 = true then (water_ground_may.j1 k x1 x2 x7 x198000 x198001 x198002 x198003 x198004) else (if x2 = 2 then (if 0 ≤ x1 then (if x1 < (x198004.length : Int) then (if rdOf false x198004 x1 = true then (water_ground_may.j1 k x1 x2 (rdOf false x198004 x1) x198000 x198001 x198002 x198003 x198004) else (if x2 = 3 then (if x1 < (x198002.length : Int) then (water_ground_may.j1 k x1 x2 ((rd x198002 x1) != 0) x198000 x198001 x198002 x198003 x198004) else (none)) else (water_ground_may.j1 k x1 x2 false x198000 x198001 x198002 x198003 x198004))) else (none)) else (none)) else (if x2 = 3 then (if 0 ≤ x1 then (if x1 < (x198004.length : Int) then (if rdOf false x198004 x1 = true then (water_ground_may.j1 k x1 x2 false x198000 x198001 x198002 x198003 x198004) else (if x1 < (x198002.length : Int) then (water_ground_may.j1 k x1 x2 ((rd x198002 x1) != 0) x198000 x198001 x198002 x198003 x198004) else (none))) else (none)) else (none)) else (water_ground_may.j1 k x1 x2 false x198000 x198001 x198002 x198003 x198004)))
def water_ground_may.j1 : Nat → Int → Int → Bool → Int → Int → List Int → List Int → List Bool → Option (Int)
 | 0,_,_,_,_,_,_,_,_ => none
 | k + 1,x1,x2,x7,x198000,x198001,x198002,x198003,x198004 => if x7 = true then (some 9) else (if x2 = 1 then (if 0 ≤ x1 then (if x1 < (x198002.length : Int) then (water_ground_may.j2 k x1 x2 ((rd x198002 x1) != 0) x198000 x198001 x198002 x198003 x198004) else (none)) else (none)) else (water_ground_may.j2 k x1 x2 false x198000 x198001 x198002 x198003 x198004))
def water_ground_may.j2 : Nat → Int → Int → Bool → Int → Int → List Int → List Int → List Bool → Option (Int)
 | 0,_,_,_,_,_,_,_,_ => none
 | k + 1,x1,x2,x44,x198000,x198001,x198002,x198003,x198004 => if x44 = true then (some 5) else (if x2 = 2 then (if 0 ≤ x1 then (if x1 < (x198002.length : Int) then ((water_incline.f (rd x198002 x1)).bind fun t206 => (if t206 = true then (some 0) else (some 5))) else (none)) else (none)) else (some 0))
end
def water_ground_may.f (k : Nat) (a0_0 : Int) (a0_1 : Int) (l0_2 : List Int) (l0_3 : List Int) (l0_4 : List Bool) (a1 : Int) (a2 : Int) : Option (Int) := if a2 = 1 then (if 0 ≤ a1 then (if a1 < (l0_4.length : Int) then (water_ground_may.j0 k a1 a2 (rdOf false l0_4 a1) a0_0 a0_1 l0_2 l0_3 l0_4) else (none)) else (none)) else (water_ground_may.j0 k a1 a2 false a0_0 a0_1 l0_2 l0_3 l0_4)
theorem water_ground_may.mono_l : ∀ k, (∀ y0 y1 y2 y3 y4 y5 y6 y7, LeO (water_ground_may.j0 k y0 y1 y2 y3 y4 y5 y6 y7) (water_ground_may.j0 (k + 1) y0 y1 y2 y3 y4 y5 y6 y7)) ∧ (∀ y0 y1 y2 y3 y4 y5 y6 y7, LeO (water_ground_may.j1 k y0 y1 y2 y3 y4 y5 y6 y7) (water_ground_may.j1 (k + 1) y0 y1 y2 y3 y4 y5 y6 y7)) ∧ (∀ y0 y1 y2 y3 y4 y5 y6 y7, LeO (water_ground_may.j2 k y0 y1 y2 y3 y4 y5 y6 y7) (water_ground_may.j2 (k + 1) y0 y1 y2 y3 y4 y5 y6 y7))
 | 0 => ⟨fun _ _ _ _ _ _ _ _ r h => by simp [water_ground_may.j0] at h,fun _ _ _ _ _ _ _ _ r h => by simp [water_ground_may.j1] at h,fun _ _ _ _ _ _ _ _ r h => by simp [water_ground_may.j2] at h⟩
 | k + 1 => by
  obtain ⟨ih0,ih1,ih2⟩:=water_ground_may.mono_l k
  refine ⟨?_,?_,?_⟩
  ·intro y0 y1 y2 y3 y4 y5 y6 y7
   unfold water_ground_may.j0
   repeat' first
   | (with_reducible exact ih0 _ _ _ _ _ _ _ _)
   | (with_reducible exact ih1 _ _ _ _ _ _ _ _)
   | (with_reducible exact ih2 _ _ _ _ _ _ _ _)
   | (with_reducible exact LeO.refl _)
   | (with_reducible exact LeO.none _)
   | (with_reducible refine LeO.ite ?_ ?_)
   | (with_reducible refine LeO.bind ?_ (fun _ => ?_))
   | exact ih0 _ _ _ _ _ _ _ _
   | exact ih1 _ _ _ _ _ _ _ _
   | exact ih2 _ _ _ _ _ _ _ _
   | exact LeO.none _
   | refine LeO.ite ?_ ?_
   | refine LeO.bind ?_ (fun _ => ?_)
  ·intro y0 y1 y2 y3 y4 y5 y6 y7
   unfold water_ground_may.j1
   repeat' first
   | (with_reducible exact ih0 _ _ _ _ _ _ _ _)
   | (with_reducible exact ih1 _ _ _ _ _ _ _ _)
   | (with_reducible exact ih2 _ _ _ _ _ _ _ _)
   | (with_reducible exact LeO.refl _)
   | (with_reducible exact LeO.none _)
   | (with_reducible refine LeO.ite ?_ ?_)
   | (with_reducible refine LeO.bind ?_ (fun _ => ?_))
   | exact ih0 _ _ _ _ _ _ _ _
   | exact ih1 _ _ _ _ _ _ _ _
   | exact ih2 _ _ _ _ _ _ _ _
   | exact LeO.none _
   | refine LeO.ite ?_ ?_
   | refine LeO.bind ?_ (fun _ => ?_)
  ·intro y0 y1 y2 y3 y4 y5 y6 y7
   unfold water_ground_may.j2
   repeat' first
   | (with_reducible exact ih0 _ _ _ _ _ _ _ _)
   | (with_reducible exact ih1 _ _ _ _ _ _ _ _)
   | (with_reducible exact ih2 _ _ _ _ _ _ _ _)
   | (with_reducible exact LeO.refl _)
   | (with_reducible exact LeO.none _)
   | (with_reducible refine LeO.ite ?_ ?_)
   | (with_reducible refine LeO.bind ?_ (fun _ => ?_))
   | exact ih0 _ _ _ _ _ _ _ _
   | exact ih1 _ _ _ _ _ _ _ _
   | exact ih2 _ _ _ _ _ _ _ _
   | exact LeO.none _
   | refine LeO.ite ?_ ?_
   | refine LeO.bind ?_ (fun _ => ?_)
theorem water_ground_may.mono : ∀ a0 a1 a2 a3 a4 a5 a6 k, LeO (water_ground_may.f k a0 a1 a2 a3 a4 a5 a6) (water_ground_may.f (k + 1) a0 a1 a2 a3 a4 a5 a6) := by
 intro a0 a1 a2 a3 a4 a5 a6 k
 obtain ⟨ih0,ih1,ih2⟩:=water_ground_may.mono_l k
 unfold water_ground_may.f
 repeat' first
   | (with_reducible exact ih0 _ _ _ _ _ _ _ _)
   | (with_reducible exact ih1 _ _ _ _ _ _ _ _)
   | (with_reducible exact ih2 _ _ _ _ _ _ _ _)
   | (with_reducible exact LeO.refl _)
   | (with_reducible exact LeO.none _)
   | (with_reducible refine LeO.ite ?_ ?_)
   | (with_reducible refine LeO.bind ?_ (fun _ => ?_))
   | exact ih0 _ _ _ _ _ _ _ _
   | exact ih1 _ _ _ _ _ _ _ _
   | exact ih2 _ _ _ _ _ _ _ _
   | exact LeO.none _
   | refine LeO.ite ?_ ?_
   | refine LeO.bind ?_ (fun _ => ?_)
set_option maxHeartbeats 8000000 in
set_option maxRecDepth 100000 in
theorem water_ground_may.calls (k : Nat) (a0_0 : Int) (a0_1 : Int) (A0_2 : Option Addr) (c0_2 : Nat) (l0_2 : List Int) (A0_3 : Option Addr) (c0_3 : Nat) (l0_3 : List Int) (A0_4 : Option Addr) (c0_4 : Nat) (l0_4 : List Bool) (a1 : Int) (a2 : Int) (r : Int) (w : World) (hr0_2 : Kd.C (Kd.int .i64) w A0_2 l0_2.length l0_2) (hc0_2 : l0_2.length ≤ c0_2) (hr0_3 : Kd.C (Kd.int .i64) w A0_3 l0_3.length l0_3) (hc0_3 : l0_3.length ≤ c0_3) (hr0_4 : Kd.C Kd.bool w A0_4 l0_4.length l0_4) (hc0_4 : l0_4.length ≤ c0_4) (h : water_ground_may.f k a0_0 a0_1 l0_2 l0_3 l0_4 a1 a2 = some r) :
  Calls Try.prog 95 #[.agg #[.int .i64 a0_0,.int .i64 a0_1,.slice A0_2 l0_2.length c0_2,.slice A0_3 l0_3.length c0_3,.slice A0_4 l0_4.length c0_4],.int .i64 a1,.int .i64 a2] w fun e w' => e = .returned (.int .i64 r) ∧ Below w.heap.size w w':=by
 have hu104:=Try.underlying104
 have HR0_2:=Aside0.mk hr0_2
 have HC0_2:=Aside0.mk hc0_2
 clear hr0_2 hc0_2
 have HR0_3:=Aside0.mk hr0_3
 have HC0_3:=Aside0.mk hc0_3
 clear hr0_3 hc0_3
 have HR0_4:=Aside0.mk hr0_4
 have HC0_4:=Aside0.mk hc0_4
 clear hr0_4 hc0_4
 have HB:=Aside0.mk (Below.refl w.heap.size w)
 have H : (if a2 = 1 then (if 0 ≤ a1 then (if a1 < (l0_4.length : Int) then (water_ground_may.j0 k a1 a2 (rdOf false l0_4 a1) a0_0 a0_1 l0_2 l0_3 l0_4) else (none)) else (none)) else (water_ground_may.j0 k a1 a2 false a0_0 a0_1 l0_2 l0_3 l0_4)) = some r:=h
 clear h
 have HC4:=Aside0.mk H
 clear H
 go_enter Try.func95,Try.ntmps95
 go_upto_region 1 with (first|((with_reducible refine gate_dst (N:=3) rfl ?_);refine box_ev (N:=3) (cs:=#[.int .i64 a0_0,.int .i64 a0_1,.slice A0_2 l0_2.length c0_2,.slice A0_3 l0_3.length c0_3,.slice A0_4 l0_4.length c0_4]) (t:=104) ?_;intro gb197 hg w5 hbox hb;have BK197:=Aside0.mk (hbox);have GW197 : Aside0 (w.heap.size ≤ gb197):=gsz hg;have GE197:=GW197;replace HB:=hbs hb;clear hb hbox hg))
 (try simp only [Act.put,List.setIfInBounds_toArray,List.set_cons_zero,List.set_cons_succ])
 go_cut [7] (fun v7 wc => ∃ (kq : Nat) (x7_3 : Bool),v7 = .bool x7_3 ∧ Aside0 (water_ground_may.j0 kq a1 a2 x7_3 a0_0 a0_1 l0_2 l0_3 l0_4 = some r) ∧ Aside0 (kq ≤ k) ∧ Aside0 (wc.heap[gb197]? = some (.cells #[.int .i64 a0_0,.int .i64 a0_1,(.slice A0_2 l0_2.length c0_2),(.slice A0_3 l0_3.length c0_3),(.slice A0_4 l0_4.length c0_4)] 104 (0,0))) ∧ Aside0 (Below w.heap.size w wc))
 case first =>
  have H:=HC4.out
  clear HC4
  by_cases c6 : a2 = 1
  ·rw [if_pos c6] at H
   have c6b0:=bqt c6
   have c6b1:=bnf c6
   clear c6
   (first|rw [c6b0]|(simp only [i64_w,i32_w];rw [c6b0])|skip)
   replace H:=ifp_ H;obtain ⟨c7,H⟩:=H
   have c7b0 : decide (0 ≤ a1) = true:=decide_eq_true c7
   clear c7
   replace H:=ifp_ H;obtain ⟨c8,H⟩:=H
   have c8b0 : decide (a1 < (l0_4.length : Int)) = true:=decide_eq_true c8
   clear c8
   have H':=Aside0.mk H
   clear H
   obtain ⟨_,_,_,_,_,_,_,_,_,_⟩:=cells5 BK197.out
   have p198 : 0 ≤ (a1 : Int):=of_decide_eq_true (by first|(with_reducible assumption)|assumption)
   have q198 : a1 < (l0_4.length : Int):=of_decide_eq_true (by first|(with_reducible assumption)|assumption)
   obtain ⟨ad198,e198,hx198_0⟩:=Kd.at_bool HR0_4.out a1 p198 q198
   cases e198
   replace hx198_0:=(HB.out.cell (World.block_lt_of_cell? w _ hx198_0)).trans hx198_0
   replace p198:=eq_true p198
   replace q198:=eq_true q198
   go_wp2
   go_meet
   case rel => exact ⟨_,(rdOf false l0_4 a1),(by first|rfl|(simp;done)|(simp [*];done)),H',⟨by first|omega|exact Nat.le_refl _⟩,⟨blk_up BK197.out⟩,⟨hb_⟩⟩
  ·rw [if_neg c6] at H
   have c6b0:=bqf c6
   have c6b1:=bnt c6
   (first|rw [c6b0]|(simp only [i64_w,i32_w];rw [c6b0])|skip)
   have H':=Aside0.mk H
   clear H
   go_wp2
   go_meet
   case rel => exact ⟨_,(false),(by first|rfl|(simp;done)|(simp [*];done)),H',⟨by first|omega|exact Nat.le_refl _⟩,⟨blk_up BK197.out⟩,⟨hb_⟩⟩
 case rest =>
  clear HC4
  obtain ⟨kq,x7_3,rfl,HA,HJ3,BK197,HB⟩:=hcut
  cases kq with
  | zero => exact absurd HA.out (by simp [water_ground_may.j0])
  | succ kj3 =>
   have H:=HA.out
   clear HA
   simp only [water_ground_may.j0] at H
   have HC10:=Aside0.mk H
   clear H
   go_upto_if 7 with (fail)
   go_cut [7] (fun v7 wc => ∃ (kq : Nat) (x7_9 : Bool),v7 = .bool x7_9 ∧ Aside0 (water_ground_may.j1 kq a1 a2 x7_9 a0_0 a0_1 l0_2 l0_3 l0_4 = some r) ∧ Aside0 (kq ≤ kj3) ∧ Aside0 (wc.heap[gb197]? = some (.cells #[.int .i64 a0_0,.int .i64 a0_1,(.slice A0_2 l0_2.length c0_2),(.slice A0_3 l0_3.length c0_3),(.slice A0_4 l0_4.length c0_4)] 104 (0,0))) ∧ Aside0 (Below w.heap.size w wc))
   case first =>
    have H:=HC10.out
    clear HC10
    by_cases c11 : x7_3 = true
    ·subst c11
     have H1 : (water_ground_may.j1 kj3 a1 a2 true a0_0 a0_1 l0_2 l0_3 l0_4) = some r:=by rw [if_pos rfl] at H;exact H
     clear H
     have H:=H1
     clear H1
     have H':=Aside0.mk H
     clear H
     go_wp2
     go_meet
     case rel => exact ⟨_,(true),(by first|rfl|(simp;done)|(simp [*];done)),H',⟨by have:=HJ3.out;first|omega|exact Nat.le_refl _⟩,⟨blk_up BK197.out⟩,⟨hb_⟩⟩
    ·replace c11:=Bool.eq_false_iff.mpr c11
     subst c11
     have H1 : (if a2 = 2 then (if 0 ≤ a1 then (if a1 < (l0_4.length : Int) then (if rdOf false l0_4 a1 = true then (water_ground_may.j1 kj3 a1 a2 (rdOf false l0_4 a1) a0_0 a0_1 l0_2 l0_3 l0_4) else (if a2 = 3 then (if a1 < (l0_2.length : Int) then (water_ground_may.j1 kj3 a1 a2 ((rd l0_2 a1) != 0) a0_0 a0_1 l0_2 l0_3 l0_4) else (none)) else (water_ground_may.j1 kj3 a1 a2 false a0_0 a0_1 l0_2 l0_3 l0_4))) else (none)) else (none)) else (if a2 = 3 then (if 0 ≤ a1 then (if a1 < (l0_4.length : Int) then (if rdOf false l0_4 a1 = true then (water_ground_may.j1 kj3 a1 a2 false a0_0 a0_1 l0_2 l0_3 l0_4) else (if a1 < (l0_2.length : Int) then (water_ground_may.j1 kj3 a1 a2 ((rd l0_2 a1) != 0) a0_0 a0_1 l0_2 l0_3 l0_4) else (none))) else (none)) else (none)) else (water_ground_may.j1 kj3 a1 a2 false a0_0 a0_1 l0_2 l0_3 l0_4))) = some r:=by rw [if_neg (show ¬ (false = true) by decide)] at H;exact H
     clear H
     have H:=H1
     clear H1
     by_cases c12 : a2 = 2
     rotate_left
     ·rw [if_neg c12] at H
      have c12b0:=bqf c12
      have c12b1:=bnt c12
      (first|rw [c12b0]|(simp only [i64_w,i32_w];rw [c12b0])|skip)
      by_cases c22 : a2 = 3
      rotate_left
      ·rw [if_neg c22] at H
       have c22b0:=bqf c22
       have c22b1:=bnt c22
       have H':=Aside0.mk H
       clear H
       go_wp2
       go_meet
       case rel => exact ⟨_,(false),(by first|rfl|(simp;done)|(simp [*];done)),H',⟨by have:=HJ3.out;first|omega|exact Nat.le_refl _⟩,⟨blk_up BK197.out⟩,⟨hb_⟩⟩
      rw [if_pos c22] at H
      have c22b0:=bqt c22
      have c22b1:=bnf c22
      clear c22
      replace H:=ifp_ H;obtain ⟨c23,H⟩:=H
      have c23b0 : decide (0 ≤ a1) = true:=decide_eq_true c23
      clear c23
      replace H:=ifp_ H;obtain ⟨c24,H⟩:=H
      have c24b0 : decide (a1 < (l0_4.length : Int)) = true:=decide_eq_true c24
      clear c24
      obtain ⟨bq25,hbq25⟩ : ∃ b_ : Bool,b_ = (rdOf false l0_4 a1):=⟨_,rfl⟩
      replace H : (if bq25 = true then (water_ground_may.j1 kj3 a1 a2 false a0_0 a0_1 l0_2 l0_3 l0_4) else (if a1 < (l0_2.length : Int) then (water_ground_may.j1 kj3 a1 a2 ((rd l0_2 a1) != 0) a0_0 a0_1 l0_2 l0_3 l0_4) else (none))) = some r:=by rw [← hbq25] at H;exact H
      have Nbq25:=Aside0.mk hbq25
      clear hbq25
      by_cases c26 : bq25 = true
      ·subst c26
       have H1 : (water_ground_may.j1 kj3 a1 a2 false a0_0 a0_1 l0_2 l0_3 l0_4) = some r:=by rw [if_pos rfl] at H;exact H
       clear H
       have H:=H1
       clear H1
       have H':=Aside0.mk H
       clear H
       obtain ⟨_,_,_,_,_,_,_,_,_,_⟩:=cells5 BK197.out
       have p202 : 0 ≤ (a1 : Int):=of_decide_eq_true (by first|(with_reducible assumption)|assumption)
       have q202 : a1 < (l0_4.length : Int):=of_decide_eq_true (by first|(with_reducible assumption)|assumption)
       obtain ⟨ad202,e202,hx202_0⟩:=Kd.at_bool HR0_4.out a1 p202 q202
       (try rw [← Nbq25.out] at hx202_0)
       cases e202
       replace hx202_0:=(HB.out.cell (World.block_lt_of_cell? w _ hx202_0)).trans hx202_0
       replace p202:=eq_true p202
       replace q202:=eq_true q202
       go_wp2
       go_meet
       case rel => exact ⟨_,(false),(by first|rfl|(simp;done)|(simp [*];done)),H',⟨by have:=HJ3.out;first|omega|exact Nat.le_refl _⟩,⟨blk_up BK197.out⟩,⟨hb_⟩⟩
      ·replace c26:=Bool.eq_false_iff.mpr c26
       subst c26
       have H1 : (if a1 < (l0_2.length : Int) then (water_ground_may.j1 kj3 a1 a2 ((rd l0_2 a1) != 0) a0_0 a0_1 l0_2 l0_3 l0_4) else (none)) = some r:=by rw [if_neg (show ¬ (false = true) by decide)] at H;exact H
       clear H
       have H:=H1
       clear H1
       replace H:=ifp_ H;obtain ⟨c28,H⟩:=H
       have c28b0 : decide (a1 < (l0_2.length : Int)) = true:=decide_eq_true c28
       clear c28
       have H':=Aside0.mk H
       clear H
       obtain ⟨_,_,_,_,_,_,_,_,_,_⟩:=cells5 BK197.out
       have p202 : 0 ≤ (a1 : Int):=of_decide_eq_true (by first|(with_reducible assumption)|assumption)
       have q202 : a1 < (l0_4.length : Int):=of_decide_eq_true (by first|(with_reducible assumption)|assumption)
       obtain ⟨ad202,e202,hx202_0⟩:=Kd.at_bool HR0_4.out a1 p202 q202
       (try rw [← Nbq25.out] at hx202_0)
       cases e202
       replace hx202_0:=(HB.out.cell (World.block_lt_of_cell? w _ hx202_0)).trans hx202_0
       replace p202:=eq_true p202
       replace q202:=eq_true q202
       have p203 : 0 ≤ (a1 : Int):=of_decide_eq_true (by first|(with_reducible assumption)|assumption)
       have q203 : a1 < (l0_2.length : Int):=of_decide_eq_true (by first|(with_reducible assumption)|assumption)
       obtain ⟨ad203,e203,hx203_0⟩:=Kd.at_int HR0_2.out a1 p203 q203
       cases e203
       replace hx203_0:=(HB.out.cell (World.block_lt_of_cell? w _ hx203_0)).trans hx203_0
       replace p203:=eq_true p203
       replace q203:=eq_true q203
       go_wp2
       go_meet
       case rel => exact ⟨_,(((rd l0_2 a1) != 0)),(by first|rfl|(simp;done)|(simp [*];done)),H',⟨by have:=HJ3.out;first|omega|exact Nat.le_refl _⟩,⟨blk_up BK197.out⟩,⟨hb_⟩⟩
     rw [if_pos c12] at H
     have c12b0:=bqt c12
     have c12b1:=bnf c12
     clear c12
     (first|rw [c12b0]|(simp only [i64_w,i32_w];rw [c12b0])|skip)
     replace H:=ifp_ H;obtain ⟨c13,H⟩:=H
     have c13b0 : decide (0 ≤ a1) = true:=decide_eq_true c13
     clear c13
     replace H:=ifp_ H;obtain ⟨c14,H⟩:=H
     have c14b0 : decide (a1 < (l0_4.length : Int)) = true:=decide_eq_true c14
     clear c14
     obtain ⟨bq15,hbq15⟩ : ∃ b_ : Bool,b_ = (rdOf false l0_4 a1):=⟨_,rfl⟩
     replace H : (if bq15 = true then (water_ground_may.j1 kj3 a1 a2 bq15 a0_0 a0_1 l0_2 l0_3 l0_4) else (if a2 = 3 then (if a1 < (l0_2.length : Int) then (water_ground_may.j1 kj3 a1 a2 ((rd l0_2 a1) != 0) a0_0 a0_1 l0_2 l0_3 l0_4) else (none)) else (water_ground_may.j1 kj3 a1 a2 false a0_0 a0_1 l0_2 l0_3 l0_4))) = some r:=by rw [← hbq15] at H;exact H
     have Nbq15:=Aside0.mk hbq15
     clear hbq15
     by_cases c16 : bq15 = true
     ·subst c16
      have H1 : (water_ground_may.j1 kj3 a1 a2 true a0_0 a0_1 l0_2 l0_3 l0_4) = some r:=by rw [if_pos rfl] at H;exact H
      clear H
      have H:=H1
      clear H1
      have H':=Aside0.mk H
      clear H
      obtain ⟨_,_,_,_,_,_,_,_,_,_⟩:=cells5 BK197.out
      have p199 : 0 ≤ (a1 : Int):=of_decide_eq_true (by first|(with_reducible assumption)|assumption)
      have q199 : a1 < (l0_4.length : Int):=of_decide_eq_true (by first|(with_reducible assumption)|assumption)
      obtain ⟨ad199,e199,hx199_0⟩:=Kd.at_bool HR0_4.out a1 p199 q199
      (try rw [← Nbq15.out] at hx199_0)
      cases e199
      replace hx199_0:=(HB.out.cell (World.block_lt_of_cell? w _ hx199_0)).trans hx199_0
      replace p199:=eq_true p199
      replace q199:=eq_true q199
      go_wp2
      go_meet
      case rel => exact ⟨_,(true),(by first|rfl|(simp;done)|(simp [*];done)),H',⟨by have:=HJ3.out;first|omega|exact Nat.le_refl _⟩,⟨blk_up BK197.out⟩,⟨hb_⟩⟩
     ·replace c16:=Bool.eq_false_iff.mpr c16
      subst c16
      have H1 : (if a2 = 3 then (if a1 < (l0_2.length : Int) then (water_ground_may.j1 kj3 a1 a2 ((rd l0_2 a1) != 0) a0_0 a0_1 l0_2 l0_3 l0_4) else (none)) else (water_ground_may.j1 kj3 a1 a2 false a0_0 a0_1 l0_2 l0_3 l0_4)) = some r:=by rw [if_neg (show ¬ (false = true) by decide)] at H;exact H
      clear H
      have H:=H1
      clear H1
      by_cases c18 : a2 = 3
      ·rw [if_pos c18] at H
       have c18b0:=bqt c18
       have c18b1:=bnf c18
       clear c18
       replace H:=ifp_ H;obtain ⟨c19,H⟩:=H
       have c19b0 : decide (a1 < (l0_2.length : Int)) = true:=decide_eq_true c19
       clear c19
       have H':=Aside0.mk H
       clear H
       obtain ⟨_,_,_,_,_,_,_,_,_,_⟩:=cells5 BK197.out
       have p199 : 0 ≤ (a1 : Int):=of_decide_eq_true (by first|(with_reducible assumption)|assumption)
       have q199 : a1 < (l0_4.length : Int):=of_decide_eq_true (by first|(with_reducible assumption)|assumption)
       obtain ⟨ad199,e199,hx199_0⟩:=Kd.at_bool HR0_4.out a1 p199 q199
       (try rw [← Nbq15.out] at hx199_0)
       cases e199
       replace hx199_0:=(HB.out.cell (World.block_lt_of_cell? w _ hx199_0)).trans hx199_0
       replace p199:=eq_true p199
       replace q199:=eq_true q199
       have p200 : 0 ≤ (a1 : Int):=of_decide_eq_true (by first|(with_reducible assumption)|assumption)
       have q200 : a1 < (l0_4.length : Int):=of_decide_eq_true (by first|(with_reducible assumption)|assumption)
       obtain ⟨ad200,e200,hx200_0⟩:=Kd.at_bool HR0_4.out a1 p200 q200
       (try rw [← Nbq15.out] at hx200_0)
       obtain rfl : ad199 = ad200:=(by injection e200)
       replace hx200_0:=(HB.out.cell (World.block_lt_of_cell? w _ hx200_0)).trans hx200_0
       replace p200:=eq_true p200
       replace q200:=eq_true q200
       have p201 : 0 ≤ (a1 : Int):=of_decide_eq_true (by first|(with_reducible assumption)|assumption)
       have q201 : a1 < (l0_2.length : Int):=of_decide_eq_true (by first|(with_reducible assumption)|assumption)
       obtain ⟨ad201,e201,hx201_0⟩:=Kd.at_int HR0_2.out a1 p201 q201
       cases e201
       replace hx201_0:=(HB.out.cell (World.block_lt_of_cell? w _ hx201_0)).trans hx201_0
       replace p201:=eq_true p201
       replace q201:=eq_true q201
       go_wp2
       go_meet
       case rel => exact ⟨_,(((rd l0_2 a1) != 0)),(by first|rfl|(simp;done)|(simp [*];done)),H',⟨by have:=HJ3.out;first|omega|exact Nat.le_refl _⟩,⟨blk_up BK197.out⟩,⟨hb_⟩⟩
      ·rw [if_neg c18] at H
       have c18b0:=bqf c18
       have c18b1:=bnt c18
       have H':=Aside0.mk H
       clear H
       obtain ⟨_,_,_,_,_,_,_,_,_,_⟩:=cells5 BK197.out
       have p199 : 0 ≤ (a1 : Int):=of_decide_eq_true (by first|(with_reducible assumption)|assumption)
       have q199 : a1 < (l0_4.length : Int):=of_decide_eq_true (by first|(with_reducible assumption)|assumption)
       obtain ⟨ad199,e199,hx199_0⟩:=Kd.at_bool HR0_4.out a1 p199 q199
       (try rw [← Nbq15.out] at hx199_0)
       cases e199
       replace hx199_0:=(HB.out.cell (World.block_lt_of_cell? w _ hx199_0)).trans hx199_0
       replace p199:=eq_true p199
       replace q199:=eq_true q199
       go_wp2
       go_meet
       case rel => exact ⟨_,(false),(by first|rfl|(simp;done)|(simp [*];done)),H',⟨by have:=HJ3.out;first|omega|exact Nat.le_refl _⟩,⟨blk_up BK197.out⟩,⟨hb_⟩⟩
   case rest =>
    clear HC10
    obtain ⟨kq,x7_9,rfl,HA,HJ9,BK197,HB⟩:=hcut
    cases kq with
    | zero => exact absurd HA.out (by simp [water_ground_may.j1])
    | succ kj9 =>
     have H:=HA.out
     clear HA
     simp only [water_ground_may.j1] at H
     by_cases c30 : x7_9 = true
     ·subst c30
      have H1 : (some 9) = some r:=by rw [if_pos rfl] at H;exact H
      clear H
      have H:=H1
      clear H1
      obtain rfl:=Option.some.inj H
      go_wp2
      go_ret
      exact ⟨er_,hb_⟩
     ·replace c30:=Bool.eq_false_iff.mpr c30
      subst c30
      have H1 : (if a2 = 1 then (if 0 ≤ a1 then (if a1 < (l0_2.length : Int) then (water_ground_may.j2 kj9 a1 a2 ((rd l0_2 a1) != 0) a0_0 a0_1 l0_2 l0_3 l0_4) else (none)) else (none)) else (water_ground_may.j2 kj9 a1 a2 false a0_0 a0_1 l0_2 l0_3 l0_4)) = some r:=by rw [if_neg (show ¬ (false = true) by decide)] at H;exact H
      clear H
      have H:=H1
      clear H1
      have HC31:=Aside0.mk H
      clear H
      go_upto_region 5 with (fail)
      go_cut [44] (fun v44 wc => ∃ (kq : Nat) (x44_30 : Bool),v44 = .bool x44_30 ∧ Aside0 (water_ground_may.j2 kq a1 a2 x44_30 a0_0 a0_1 l0_2 l0_3 l0_4 = some r) ∧ Aside0 (kq ≤ kj9) ∧ Aside0 (wc.heap[gb197]? = some (.cells #[.int .i64 a0_0,.int .i64 a0_1,(.slice A0_2 l0_2.length c0_2),(.slice A0_3 l0_3.length c0_3),(.slice A0_4 l0_4.length c0_4)] 104 (0,0))) ∧ Aside0 (Below w.heap.size w wc))
      case first =>
       have H:=HC31.out
       clear HC31
       by_cases c32 : a2 = 1
       ·rw [if_pos c32] at H
        have c32b0:=bqt c32
        have c32b1:=bnf c32
        clear c32
        (first|rw [c32b0]|(simp only [i64_w,i32_w];rw [c32b0])|skip)
        replace H:=ifp_ H;obtain ⟨c33,H⟩:=H
        have c33b0 : decide (0 ≤ a1) = true:=decide_eq_true c33
        clear c33
        replace H:=ifp_ H;obtain ⟨c34,H⟩:=H
        have c34b0 : decide (a1 < (l0_2.length : Int)) = true:=decide_eq_true c34
        clear c34
        have H':=Aside0.mk H
        clear H
        obtain ⟨_,_,_,_,_,_,_,_,_,_⟩:=cells5 BK197.out
        have p204 : 0 ≤ (a1 : Int):=of_decide_eq_true (by first|(with_reducible assumption)|assumption)
        have q204 : a1 < (l0_2.length : Int):=of_decide_eq_true (by first|(with_reducible assumption)|assumption)
        obtain ⟨ad204,e204,hx204_0⟩:=Kd.at_int HR0_2.out a1 p204 q204
        cases e204
        replace hx204_0:=(HB.out.cell (World.block_lt_of_cell? w _ hx204_0)).trans hx204_0
        replace p204:=eq_true p204
        replace q204:=eq_true q204
        go_wp2
        go_meet
        case rel => exact ⟨_,(((rd l0_2 a1) != 0)),(by first|rfl|(simp;done)|(simp [*];done)),H',⟨by have:=HJ3.out;have:=HJ9.out;first|omega|exact Nat.le_refl _⟩,⟨blk_up BK197.out⟩,⟨hb_⟩⟩
       ·rw [if_neg c32] at H
        have c32b0:=bqf c32
        have c32b1:=bnt c32
        (first|rw [c32b0]|(simp only [i64_w,i32_w];rw [c32b0])|skip)
        have H':=Aside0.mk H
        clear H
        go_wp2
        go_meet
        case rel => exact ⟨_,(false),(by first|rfl|(simp;done)|(simp [*];done)),H',⟨by have:=HJ3.out;have:=HJ9.out;first|omega|exact Nat.le_refl _⟩,⟨blk_up BK197.out⟩,⟨hb_⟩⟩
      case rest =>
       clear HC31
       obtain ⟨kq,x44_30,rfl,HA,HJ30,BK197,HB⟩:=hcut
       cases kq with
       | zero => exact absurd HA.out (by simp [water_ground_may.j2])
       | succ kj30 =>
        have H:=HA.out
        clear HA
        simp only [water_ground_may.j2] at H
        by_cases c36 : x44_30 = true
        ·subst c36
         have H1 : (some 5) = some r:=by rw [if_pos rfl] at H;exact H
         clear H
         have H:=H1
         clear H1
         obtain rfl:=Option.some.inj H
         go_wp2
         go_ret
         exact ⟨er_,hb_⟩
        ·replace c36:=Bool.eq_false_iff.mpr c36
         subst c36
         have H1 : (if a2 = 2 then (if 0 ≤ a1 then (if a1 < (l0_2.length : Int) then ((water_incline.f (rd l0_2 a1)).bind fun t206 => (if t206 = true then (some 0) else (some 5))) else (none)) else (none)) else (some 0)) = some r:=by rw [if_neg (show ¬ (false = true) by decide)] at H;exact H
         clear H
         have H:=H1
         clear H1
         by_cases c37 : a2 = 2
         rotate_left
         ·rw [if_neg c37] at H
          have c37b0:=bqf c37
          have c37b1:=bnt c37
          obtain rfl:=Option.some.inj H
          go_wp2
          go_ret
          exact ⟨er_,hb_⟩
         rw [if_pos c37] at H
         have c37b0:=bqt c37
         have c37b1:=bnf c37
         clear c37
         replace H:=ifp_ H;obtain ⟨c38,H⟩:=H
         have c38b0 : decide (0 ≤ a1) = true:=decide_eq_true c38
         clear c38
         replace H:=ifp_ H;obtain ⟨c39,H⟩:=H
         have c39b0 : decide (a1 < (l0_2.length : Int)) = true:=decide_eq_true c39
         clear c39
         replace H:=Option.bind_eq_some_iff.mp H
         obtain ⟨t206,A400,H⟩:=H
         replace H : (if t206 = true then (some 0) else (some 5)) = some r:=H
         have A40:=Aside0.mk A400
         clear A400
         by_cases c41 : t206 = true
         ·subst c41
          have H1 : (some 0) = some r:=by rw [if_pos rfl] at H;exact H
          clear H
          have H:=H1
          clear H1
          obtain rfl:=Option.some.inj H
          obtain ⟨_,_,_,_,_,_,_,_,_,_⟩:=cells5 BK197.out
          have p205 : 0 ≤ (a1 : Int):=of_decide_eq_true (by first|(with_reducible assumption)|assumption)
          have q205 : a1 < (l0_2.length : Int):=of_decide_eq_true (by first|(with_reducible assumption)|assumption)
          obtain ⟨ad205,e205,hx205_0⟩:=Kd.at_int HR0_2.out a1 p205 q205
          cases e205
          replace hx205_0:=(HB.out.cell (World.block_lt_of_cell? w _ hx205_0)).trans hx205_0
          replace p205:=eq_true p205
          replace q205:=eq_true q205
          go_wp2_with (first|(go_at_call 104;(with_reducible refine (water_incline.calls (rd l0_2 a1) true _ A40.out).mono ?_);rintro e w' ⟨rfl,⟨nd,rfl⟩⟩))
          go_ret
          exact ⟨er_,hb_⟩
         ·replace c41:=Bool.eq_false_iff.mpr c41
          subst c41
          have H1 : (some 5) = some r:=by rw [if_neg (show ¬ (false = true) by decide)] at H;exact H
          clear H
          have H:=H1
          clear H1
          obtain rfl:=Option.some.inj H
          obtain ⟨_,_,_,_,_,_,_,_,_,_⟩:=cells5 BK197.out
          have p205 : 0 ≤ (a1 : Int):=of_decide_eq_true (by first|(with_reducible assumption)|assumption)
          have q205 : a1 < (l0_2.length : Int):=of_decide_eq_true (by first|(with_reducible assumption)|assumption)
          obtain ⟨ad205,e205,hx205_0⟩:=Kd.at_int HR0_2.out a1 p205 q205
          cases e205
          replace hx205_0:=(HB.out.cell (World.block_lt_of_cell? w _ hx205_0)).trans hx205_0
          replace p205:=eq_true p205
          replace q205:=eq_true q205
          go_wp2_with (first|(go_at_call 104;(with_reducible refine (water_incline.calls (rd l0_2 a1) false _ A40.out).mono ?_);rintro e w' ⟨rfl,⟨nd,rfl⟩⟩))
          go_ret
          exact ⟨er_,hb_⟩

end Go.Proofs.Ythjmdpekcleihaa.P
