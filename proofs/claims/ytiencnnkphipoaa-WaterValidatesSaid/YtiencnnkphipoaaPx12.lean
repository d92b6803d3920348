/- Functions of this seat as plain Lean functions, with proofs that the Go code comes to just their answers, or what stands between them and a law's statement; no conditions. (Laid by a program of this session, out of the kit's print.) -/
import Derived.Test.YtiencnnkphipoaaPx0
import Derived.Test.YtiencnnkphipoaaPx10
namespace Go.Proofs.Ytiencnnkphipoaa.P
open Go.RowKit Go.Proofs.YtiencnnkphipoaaW.PrintWords Go.Proofs.YtiencnnkphipoaaW.PrintLast Go.Proofs.YtiencnnkphipoaaW.PrintMore
attribute [local go_sem] max2_int min2_int max_two min_two max_three min_three max_four min_four   -- for this text's walks alone
set_option linter.unusedVariables false
set_option linter.unusedSimpArgs false

/-! ### hinterlandref02_Face: function 50 -/
mutual
def hinterlandref02_Face.l0 : Nat → Int → Int → S71 → Int → Int → Int → List Int → Int → Int → Int → Int → Option (Int × Int)
 | 0,_,_,_,_,_,_,_,_,_,_,_ => none
 | k + 1,x7,x8,x30,x31,x333000,x333001,x333002,x335000,x335001,x335002,x335003 => if x31 < 4 then (if 0 ≤ x31 then (if 0 ≤ (ix71 x30 x31) then (if (ix71 x30 x31) < (x333002.length : Int) then (hinterlandref02_Face.l0 k (mn x7 (rd x333002 (ix71 x30 x31))) (mx x8 (rd x333002 (ix71 x30 x31))) x30 (wrap64 (x31 + 1)) x333000 x333001 x333002 x335000 x335001 x335002 x335003) else (none)) else (none)) else (none)) else (hinterlandref02_Face.l1 k x7 x8 0 1 (⟨x335000,x335001,x335002,x335003⟩ : S71) 0 x333000 x333001 x333002)
def hinterlandref02_Face.l1 : Nat → Int → Int → Int → Int → S71 → Int → Int → Int → List Int → Option (Int × Int)
 | 0,_,_,_,_,_,_,_,_,_ => none
 | k + 1,x7,x8,x11,x12,x49,x50,x333000,x333001,x333002 => if x50 < 4 then (if 0 ≤ x50 then (if 0 ≤ (ix71 x49 x50) then (if (ix71 x49 x50) < (x333002.length : Int) then (if (rd x333002 (ix71 x49 x50)) > x7 then (hinterlandref02_Face.l1 k x7 x8 (wrap64 (x11 + x12)) (wrap64 (x12 * 2)) x49 (wrap64 (x50 + 1)) x333000 x333001 x333002) else (hinterlandref02_Face.l1 k x7 x8 x11 (wrap64 (x12 * 2)) x49 (wrap64 (x50 + 1)) x333000 x333001 x333002)) else (none)) else (none)) else (none)) else (if (wrap64 (x8 - x7)) = 2 then (some (wrap64 (x11 + 16),x7)) else (some (x11,x7)))
end
def hinterlandref02_Face.f (k : Nat) (a0_0 : Int) (a0_1 : Int) (l0_2 : List Int) (a1 : Int) : Option (Int × Int) := (hinterlandref02_Places.f a0_0 a0_1 l0_2 a1).bind fun t333 => (if 0 ≤ t333.f0 then (if t333.f0 < (l0_2.length : Int) then (hinterlandref02_Face.l0 k (rd l0_2 t333.f0) (rd l0_2 t333.f0) (⟨t333.f0, t333.f1, t333.f2, t333.f3⟩ : S71) 0 a0_0 a0_1 l0_2 t333.f0 t333.f1 t333.f2 t333.f3) else (none)) else (none))
theorem hinterlandref02_Face.mono_l : ∀ k, (∀ y0 y1 y2 y3 y4 y5 y6 y7 y8 y9 y10, LeO (hinterlandref02_Face.l0 k y0 y1 y2 y3 y4 y5 y6 y7 y8 y9 y10) (hinterlandref02_Face.l0 (k + 1) y0 y1 y2 y3 y4 y5 y6 y7 y8 y9 y10)) ∧ (∀ y0 y1 y2 y3 y4 y5 y6 y7 y8, LeO (hinterlandref02_Face.l1 k y0 y1 y2 y3 y4 y5 y6 y7 y8) (hinterlandref02_Face.l1 (k + 1) y0 y1 y2 y3 y4 y5 y6 y7 y8))
 | 0 => ⟨fun _ _ _ _ _ _ _ _ _ _ _ r h => by simp [hinterlandref02_Face.l0] at h,fun _ _ _ _ _ _ _ _ _ r h => by simp [hinterlandref02_Face.l1] at h⟩
 | k + 1 => by
  obtain ⟨ih0,ih1⟩:=hinterlandref02_Face.mono_l k
  refine ⟨?_,?_⟩
  ·intro y0 y1 y2 y3 y4 y5 y6 y7 y8 y9 y10
   unfold hinterlandref02_Face.l0
   repeat' first
   | (with_reducible exact ih0 _ _ _ _ _ _ _ _ _ _ _)
   | (with_reducible exact ih1 _ _ _ _ _ _ _ _ _)
   | (with_reducible exact LeO.refl _)
   | (with_reducible exact LeO.none _)
   | (with_reducible refine LeO.ite ?_ ?_)
   | (with_reducible refine LeO.bind ?_ (fun _ => ?_))
   | exact ih0 _ _ _ _ _ _ _ _ _ _ _
   | exact ih1 _ _ _ _ _ _ _ _ _
   | exact LeO.none _
   | refine LeO.ite ?_ ?_
   | refine LeO.bind ?_ (fun _ => ?_)
  ·intro y0 y1 y2 y3 y4 y5 y6 y7 y8
   unfold hinterlandref02_Face.l1
   repeat' first
   | (with_reducible exact ih0 _ _ _ _ _ _ _ _ _ _ _)
   | (with_reducible exact ih1 _ _ _ _ _ _ _ _ _)
   | (with_reducible exact LeO.refl _)
   | (with_reducible exact LeO.none _)
   | (with_reducible refine LeO.ite ?_ ?_)
   | (with_reducible refine LeO.bind ?_ (fun _ => ?_))
   | exact ih0 _ _ _ _ _ _ _ _ _ _ _
   | exact ih1 _ _ _ _ _ _ _ _ _
   | exact LeO.none _
   | refine LeO.ite ?_ ?_
   | refine LeO.bind ?_ (fun _ => ?_)
theorem hinterlandref02_Face.mono : ∀ a0 a1 a2 a3 k, LeO (hinterlandref02_Face.f k a0 a1 a2 a3) (hinterlandref02_Face.f (k + 1) a0 a1 a2 a3) := by
 intro a0 a1 a2 a3 k
 obtain ⟨ih0,ih1⟩:=hinterlandref02_Face.mono_l k
 unfold hinterlandref02_Face.f
 repeat' first
   | (with_reducible exact ih0 _ _ _ _ _ _ _ _ _ _ _)
   | (with_reducible exact ih1 _ _ _ _ _ _ _ _ _)
   | (with_reducible exact LeO.refl _)
   | (with_reducible exact LeO.none _)
   | (with_reducible refine LeO.ite ?_ ?_)
   | (with_reducible refine LeO.bind ?_ (fun _ => ?_))
   | exact ih0 _ _ _ _ _ _ _ _ _ _ _
   | exact ih1 _ _ _ _ _ _ _ _ _
   | exact LeO.none _
   | refine LeO.ite ?_ ?_
   | refine LeO.bind ?_ (fun _ => ?_)
set_option maxHeartbeats 8000000 in
set_option maxRecDepth 100000 in
theorem hinterlandref02_Face.calls (k : Nat) (a0_0 : Int) (a0_1 : Int) (A0_2 : Option Addr) (c0_2 : Nat) (l0_2 : List Int) (a1 : Int) (r1 : Int) (r2 : Int) (w : World) (hr0_2 : Kd.C (Kd.int .i64) w A0_2 l0_2.length l0_2) (hc0_2 : l0_2.length ≤ c0_2) (h : hinterlandref02_Face.f k a0_0 a0_1 l0_2 a1 = some (r1, r2)) :
  Calls Try.prog 50 #[.agg #[.int .i64 a0_0,.int .i64 a0_1,.slice A0_2 l0_2.length c0_2],.int .i64 a1] w fun e w' => e = .returned (.tuple #[.int .i64 r1,.int .i64 r2]) ∧ Below w.heap.size w w':=by
 have hu24:=Try.underlying24
 have hu71:=Try.underlying71
 have HR0_2:=Aside0.mk hr0_2
 have HC0_2:=Aside0.mk hc0_2
 clear hr0_2 hc0_2
 have HB:=Aside0.mk (Below.refl w.heap.size w)
 have H : ((hinterlandref02_Places.f a0_0 a0_1 l0_2 a1).bind fun t333 => (if 0 ≤ t333.f0 then (if t333.f0 < (l0_2.length : Int) then (hinterlandref02_Face.l0 k (rd l0_2 t333.f0) (rd l0_2 t333.f0) (⟨t333.f0,t333.f1,t333.f2,t333.f3⟩ : S71) 0 a0_0 a0_1 l0_2 t333.f0 t333.f1 t333.f2 t333.f3) else (none)) else (none))) = some (r1,r2):=h
 clear h
 replace H:=Option.bind_eq_some_iff.mp H
 obtain ⟨t333,A30,H⟩:=H
 replace H : (if 0 ≤ t333.f0 then (if t333.f0 < (l0_2.length : Int) then (hinterlandref02_Face.l0 k (rd l0_2 t333.f0) (rd l0_2 t333.f0) (⟨t333.f0,t333.f1,t333.f2,t333.f3⟩ : S71) 0 a0_0 a0_1 l0_2 t333.f0 t333.f1 t333.f2 t333.f3) else (none)) else (none)) = some (r1,r2):=H
 have A3:=Aside0.mk A30
 clear A30
 by_cases c4 : 0 ≤ t333.f0
 ·rw [if_pos c4] at H
  have c4b0 : decide (0 ≤ t333.f0) = true:=decide_eq_true c4
  clear c4
  by_cases c5 : t333.f0 < (l0_2.length : Int)
  ·rw [if_pos c5] at H
   have c5b0 : decide (t333.f0 < (l0_2.length : Int)) = true:=decide_eq_true c5
   clear c5
   have H':=Aside0.mk H
   clear H
   go_enter Try.func50,Try.ntmps50
   go_wp2_with (first|((with_reducible refine gate_dst (N:=2) rfl ?_);refine box_event ?hg (N:=2) ?hd (cs:=#[.int .i64 a0_0,.int .i64 a0_1,.slice A0_2 l0_2.length c0_2]) (t:=24) ?hr ?_;(case hd => rfl);(case hg => rfl);(case hr => first|(go_simp;done)|(go_simp;rfl));intro gb332 hg w6 hbox hb;have BK332:=Aside0.mk (hbox);have GW332:=Aside0.mk ((by rw [hg];exact (below_size (hb_)) : w.heap.size ≤ gb332));have GE332:=Aside0.mk ((by rw [hg];exact (below_size (hb_)) : w.heap.size ≤ gb332));replace HB:=Aside0.mk (below_step (hb_) hb);clear hb hbox hg;obtain ⟨hcz7_0,hcz7_1,hcz7_2,hfz7_0,hfz7_1,hfz7_2⟩:=cells3 BK332.out)|(go_at_call 68;(with_reducible refine (hinterlandref02_Places.calls a0_0 a0_1 _ _ l0_2 a1 t333 _ ?side1 ?side2 A3.out).mono ?_);(case side1 => exact Kd.C_up (Kd.C_below HR0_2.out HB.out));(case side2 => exact HC0_2.out);rintro e w8 ⟨rfl,hb⟩;replace BK332:=Aside0.mk (blk_below (blk_up BK332.out) hb);replace HB:=Aside0.mk (below_step (hb_) hb);(try clear hb);(try clear hb2);(try clear hk);(try clear hi))|((with_reducible refine gate_dst (N:=6) rfl ?_);refine box_event ?hg (N:=6) ?hd (cs:=#[.int .i64 0,.int .i64 0,.int .i64 0,.int .i64 0]) (t:=71) ?hr ?_;(case hd => rfl);(case hg => rfl);(case hr => first|(go_simp;done)|(go_simp;rfl));intro gb334 hg w9 hbox hb;have BK334:=Aside0.mk (hbox);have GW334:=Aside0.mk ((by rw [hg];exact (below_size (hb_)) : w.heap.size ≤ gb334));have GE334:=Aside0.mk ((by rw [hg];exact (below_size (hb_)) : w.heap.size ≤ gb334));have NB332_334:=Aside0.mk ((by rw [hg];exact Nat.ne_of_lt (blk_lt (blk_up BK332.out)) : gb332 ≠ gb334));have NB334_332:=Aside0.mk ((by rw [hg];exact Nat.ne_of_gt (blk_lt (blk_up BK332.out)) : gb334 ≠ gb332));replace BK332:=Aside0.mk (blk_below (blk_up BK332.out) hb);replace HB:=Aside0.mk (below_step (hb_) hb);clear hb hbox hg;have hnb10:=NB334_332.out;have hnc10:=NB332_334.out;obtain ⟨hcz11_0,hcz11_1,hcz11_2,hcz11_3,hfz11_0,hfz11_1,hfz11_2,hfz11_3⟩:=cells4 BK334.out;obtain ⟨hcz12_0,hcz12_1,hcz12_2,hfz12_0,hfz12_1,hfz12_2⟩:=cells3 BK332.out;have p335 : 0 ≤ (t333.f0 : Int):=of_decide_eq_true (by first|(with_reducible assumption)|assumption);have q335 : t333.f0 < (l0_2.length : Int):=of_decide_eq_true (by first|(with_reducible assumption)|assumption);obtain ⟨ad335,e335,hx335_0⟩:=Kd.at_int HR0_2.out t333.f0 p335 q335;cases e335;have hn335_0 : ad335.block ≠ gb334:=Nat.ne_of_lt (Nat.lt_of_lt_of_le (by have:=World.block_lt_of_cell? _ _ hx335_0;first|rwa [add_block] at this|exact this) GW334.out);have hn335_1 : ad335.block ≠ gb334:=Nat.ne_of_lt (Nat.lt_of_lt_of_le (by have:=World.block_lt_of_cell? _ _ hx335_0;first|rwa [add_block] at this|exact this) GW334.out);have hn335_2 : ad335.block ≠ gb334:=Nat.ne_of_lt (Nat.lt_of_lt_of_le (by have:=World.block_lt_of_cell? _ _ hx335_0;first|rwa [add_block] at this|exact this) GW334.out);have hn335_3 : ad335.block ≠ gb334:=Nat.ne_of_lt (Nat.lt_of_lt_of_le (by have:=World.block_lt_of_cell? _ _ hx335_0;first|rwa [add_block] at this|exact this) GW334.out);replace hx335_0:=(HB.out.cell (World.block_lt_of_cell? w _ hx335_0)).trans hx335_0;replace hx335_0:=(cell_far (p:=⟨gb334,0,none⟩) (by first|(rw [add_block];exact hn335_0)|(show (Addr.add _ _).block ≠ _;rw [add_block];exact hn335_0)|exact hn335_0) (.int .i64 t333.f0)).trans hx335_0;replace hx335_0:=(cell_far (p:=⟨gb334,1,none⟩) (by first|(rw [add_block];exact hn335_1)|(show (Addr.add _ _).block ≠ _;rw [add_block];exact hn335_1)|exact hn335_1) (.int .i64 t333.f1)).trans hx335_0;replace hx335_0:=(cell_far (p:=⟨gb334,2,none⟩) (by first|(rw [add_block];exact hn335_2)|(show (Addr.add _ _).block ≠ _;rw [add_block];exact hn335_2)|exact hn335_2) (.int .i64 t333.f2)).trans hx335_0;replace hx335_0:=(cell_far (p:=⟨gb334,3,none⟩) (by first|(rw [add_block];exact hn335_3)|(show (Addr.add _ _).block ≠ _;rw [add_block];exact hn335_3)|exact hn335_3) (.int .i64 t333.f3)).trans hx335_0;(try have hy335_0:=fun (n_ : Nat) => (show ((((((w9.drewN n_).setCell ⟨gb334,0,none⟩ (.int .i64 t333.f0)).setCell ⟨gb334,1,none⟩ (.int .i64 t333.f1)).setCell ⟨gb334,2,none⟩ (.int .i64 t333.f2)).setCell ⟨gb334,3,none⟩ (.int .i64 t333.f3))).cell? _ = some _ from hx335_0));clear hn335_0;clear hn335_1;clear hn335_2;clear hn335_3;replace p335:=eq_true p335;replace q335:=eq_true q335;have p336 : 0 ≤ (t333.f0 : Int):=of_decide_eq_true (by first|(with_reducible assumption)|assumption);have q336 : t333.f0 < (l0_2.length : Int):=of_decide_eq_true (by first|(with_reducible assumption)|assumption);obtain ⟨ad336,e336,hx336_0⟩:=Kd.at_int HR0_2.out t333.f0 p336 q336;obtain rfl : ad335 = ad336:=(by injection e336);have hn336_0 : ad335.block ≠ gb334:=Nat.ne_of_lt (Nat.lt_of_lt_of_le (by have:=World.block_lt_of_cell? _ _ hx336_0;first|rwa [add_block] at this|exact this) GW334.out);have hn336_1 : ad335.block ≠ gb334:=Nat.ne_of_lt (Nat.lt_of_lt_of_le (by have:=World.block_lt_of_cell? _ _ hx336_0;first|rwa [add_block] at this|exact this) GW334.out);have hn336_2 : ad335.block ≠ gb334:=Nat.ne_of_lt (Nat.lt_of_lt_of_le (by have:=World.block_lt_of_cell? _ _ hx336_0;first|rwa [add_block] at this|exact this) GW334.out);have hn336_3 : ad335.block ≠ gb334:=Nat.ne_of_lt (Nat.lt_of_lt_of_le (by have:=World.block_lt_of_cell? _ _ hx336_0;first|rwa [add_block] at this|exact this) GW334.out);replace hx336_0:=(HB.out.cell (World.block_lt_of_cell? w _ hx336_0)).trans hx336_0;replace hx336_0:=(cell_far (p:=⟨gb334,0,none⟩) (by first|(rw [add_block];exact hn336_0)|(show (Addr.add _ _).block ≠ _;rw [add_block];exact hn336_0)|exact hn336_0) (.int .i64 t333.f0)).trans hx336_0;replace hx336_0:=(cell_far (p:=⟨gb334,1,none⟩) (by first|(rw [add_block];exact hn336_1)|(show (Addr.add _ _).block ≠ _;rw [add_block];exact hn336_1)|exact hn336_1) (.int .i64 t333.f1)).trans hx336_0;replace hx336_0:=(cell_far (p:=⟨gb334,2,none⟩) (by first|(rw [add_block];exact hn336_2)|(show (Addr.add _ _).block ≠ _;rw [add_block];exact hn336_2)|exact hn336_2) (.int .i64 t333.f2)).trans hx336_0;replace hx336_0:=(cell_far (p:=⟨gb334,3,none⟩) (by first|(rw [add_block];exact hn336_3)|(show (Addr.add _ _).block ≠ _;rw [add_block];exact hn336_3)|exact hn336_3) (.int .i64 t333.f3)).trans hx336_0;(try have hy336_0:=fun (n_ : Nat) => (show ((((((w9.drewN n_).setCell ⟨gb334,0,none⟩ (.int .i64 t333.f0)).setCell ⟨gb334,1,none⟩ (.int .i64 t333.f1)).setCell ⟨gb334,2,none⟩ (.int .i64 t333.f2)).setCell ⟨gb334,3,none⟩ (.int .i64 t333.f3))).cell? _ = some _ from hx336_0));clear hn336_0;clear hn336_1;clear hn336_2;clear hn336_3;replace p336:=eq_true p336;replace q336:=eq_true q336))
   go_quiet (fail)
   go_wp2
   go_loopg [7,8,31] k (fun kq v7 v8 v31 w' => ∃ (x7_1 : Int) (x8_1 : Int) (x31_1 : Int),v7 = .int .i64 x7_1 ∧ v8 = .int .i64 x8_1 ∧ v31 = .int .i64 x31_1 ∧ Aside0 (hinterlandref02_Face.l0 kq x7_1 x8_1 (⟨t333.f0,t333.f1,t333.f2,t333.f3⟩ : S71) x31_1 a0_0 a0_1 l0_2 t333.f0 t333.f1 t333.f2 t333.f3 = some (r1,r2)) ∧ Aside0 (kq ≤ k) ∧ Aside0 (w'.heap[gb332]? = some (.cells #[.int .i64 a0_0,.int .i64 a0_1,(.slice (some ad335) l0_2.length c0_2)] 24 (0,0))) ∧ Aside0 (w'.heap[gb334]? = some (.cells #[.int .i64 t333.f0,.int .i64 t333.f1,.int .i64 t333.f2,.int .i64 t333.f3] 71 (0,0))) ∧ Aside0 (Below w.heap.size w w'))
   case atStart => exact ⟨(rd l0_2 t333.f0),(rd l0_2 t333.f0),(0),(by first|rfl|(simp;done)|(simp [*];done)),(by first|rfl|(simp;done)|(simp [*];done)),(by first|rfl|(simp;done)|(simp [*];done)),H',⟨Nat.le_refl _⟩,⟨by (with_reducible repeat (first|refine blk_drewN ?_ _|refine blk_drew ?_|refine blk_alloc ?_ _));refine blk_far ?_ NB332_334.out _;(with_reducible repeat (first|refine blk_drewN ?_ _|refine blk_drew ?_|refine blk_alloc ?_ _));refine blk_far ?_ NB332_334.out _;(with_reducible repeat (first|refine blk_drewN ?_ _|refine blk_drew ?_|refine blk_alloc ?_ _));refine blk_far ?_ NB332_334.out _;(with_reducible repeat (first|refine blk_drewN ?_ _|refine blk_drew ?_|refine blk_alloc ?_ _));refine blk_far ?_ NB332_334.out _;(with_reducible repeat (first|refine blk_drewN ?_ _|refine blk_drew ?_|refine blk_alloc ?_ _));exact BK332.out⟩,⟨by (with_reducible repeat (first|refine blk_drewN ?_ _|refine blk_drew ?_|refine blk_alloc ?_ _));refine blk_put (cs:=#[.int .i64 t333.f0,.int .i64 t333.f1,.int .i64 t333.f2,.int .i64 0]) ?_ 3 _ rfl;(with_reducible repeat (first|refine blk_drewN ?_ _|refine blk_drew ?_|refine blk_alloc ?_ _));refine blk_put (cs:=#[.int .i64 t333.f0,.int .i64 t333.f1,.int .i64 0,.int .i64 0]) ?_ 2 _ rfl;(with_reducible repeat (first|refine blk_drewN ?_ _|refine blk_drew ?_|refine blk_alloc ?_ _));refine blk_put (cs:=#[.int .i64 t333.f0,.int .i64 0,.int .i64 0,.int .i64 0]) ?_ 1 _ rfl;(with_reducible repeat (first|refine blk_drewN ?_ _|refine blk_drew ?_|refine blk_alloc ?_ _));refine blk_put (cs:=#[.int .i64 0,.int .i64 0,.int .i64 0,.int .i64 0]) ?_ 0 _ rfl;(with_reducible repeat (first|refine blk_drewN ?_ _|refine blk_drew ?_|refine blk_alloc ?_ _));exact BK334.out⟩,⟨hb_⟩⟩
   case round =>
    clear H'
    try clear c1
    try clear p2
    try clear p3
    try clear q3
    try clear hx3
    try clear c4
    try clear c4b0
    try clear c5
    try clear c5b0
    try clear c10
    try clear hcz11_0
    try clear hcz11_1
    try clear hcz11_2
    try clear hcz11_3
    try clear hcz12_0
    try clear hcz12_1
    try clear hcz12_2
    try clear hcz7_0
    try clear hcz7_1
    try clear hcz7_2
    try clear hfz11_0
    try clear hfz11_1
    try clear hfz11_2
    try clear hfz11_3
    try clear hfz12_0
    try clear hfz12_1
    try clear hfz12_2
    try clear hfz7_0
    try clear hfz7_1
    try clear hfz7_2
    try clear hx335_0
    try clear hx336_0
    try clear p335
    try clear p336
    try clear q335
    try clear q336
    obtain ⟨x7_1,x8_1,x31_1,rfl,rfl,rfl,HA,HK1,BK332,BK334,HB⟩:=hrel
    cases gk with
    | zero => exact absurd HA.out (by simp [hinterlandref02_Face.l0])
    | succ k1 =>
     have H:=HA.out
     clear HA
     simp only [hinterlandref02_Face.l0] at H
     by_cases c13 : x31_1 < 4
     ·rw [if_pos c13] at H
      have c13b0 : decide (x31_1 < 4) = true:=decide_eq_true c13
      clear c13
      by_cases c14 : 0 ≤ x31_1
      ·rw [if_pos c14] at H
       have c14b0 : decide (0 ≤ x31_1) = true:=decide_eq_true c14
       clear c14
       have hix15:=fun (W_ : World) => (ix71_run t333.f0 t333.f1 t333.f2 t333.f3 x31_1 (of_decide_eq_true (by first|(with_reducible assumption)|assumption)) (of_decide_eq_true (by first|(with_reducible assumption)|assumption)) W_ : (Instr.index 71 (.agg #[.int .i64 t333.f0,.int .i64 t333.f1,.int .i64 t333.f2,.int .i64 t333.f3]) (.int .i64 x31_1)).run Try.prog W_ = .ok (.int .i64 (ix71 (⟨t333.f0,t333.f1,t333.f2,t333.f3⟩ : S71) x31_1)) W_)
       by_cases c16 : 0 ≤ (ix71 (⟨t333.f0,t333.f1,t333.f2,t333.f3⟩ : S71) x31_1)
       ·rw [if_pos c16] at H
        have c16b0 : decide (0 ≤ (ix71 (⟨t333.f0,t333.f1,t333.f2,t333.f3⟩ : S71) x31_1)) = true:=decide_eq_true c16
        clear c16
        by_cases c17 : (ix71 (⟨t333.f0,t333.f1,t333.f2,t333.f3⟩ : S71) x31_1) < (l0_2.length : Int)
        ·rw [if_pos c17] at H
         have c17b0 : decide ((ix71 (⟨t333.f0,t333.f1,t333.f2,t333.f3⟩ : S71) x31_1) < (l0_2.length : Int)) = true:=decide_eq_true c17
         clear c17
         obtain ⟨ji18,hji18⟩ : ∃ j_ : Int,(mn x7_1 (rd l0_2 (ix71 (⟨t333.f0,t333.f1,t333.f2,t333.f3⟩ : S71) x31_1))) = j_:=⟨_,rfl⟩
         replace H : (hinterlandref02_Face.l0 k1 ji18 (mx x8_1 (rd l0_2 (ix71 (⟨t333.f0,t333.f1,t333.f2,t333.f3⟩ : S71) x31_1))) (⟨t333.f0,t333.f1,t333.f2,t333.f3⟩ : S71) (wrap64 (x31_1 + 1)) a0_0 a0_1 l0_2 t333.f0 t333.f1 t333.f2 t333.f3) = some (r1,r2):=by first|(rw [hji18] at H;exact H)|(simp only [hji18] at H ⊢;exact H)
         have hji18_ : (if (rd l0_2 (ix71 (⟨t333.f0,t333.f1,t333.f2,t333.f3⟩ : S71) x31_1)) < x7_1 then (rd l0_2 (ix71 (⟨t333.f0,t333.f1,t333.f2,t333.f3⟩ : S71) x31_1)) else x7_1) = ji18:=hji18
         obtain ⟨ji19,hji19⟩ : ∃ j_ : Int,(mx x8_1 (rd l0_2 (ix71 (⟨t333.f0,t333.f1,t333.f2,t333.f3⟩ : S71) x31_1))) = j_:=⟨_,rfl⟩
         replace H : (hinterlandref02_Face.l0 k1 ji18 ji19 (⟨t333.f0,t333.f1,t333.f2,t333.f3⟩ : S71) (wrap64 (x31_1 + 1)) a0_0 a0_1 l0_2 t333.f0 t333.f1 t333.f2 t333.f3) = some (r1,r2):=by first|(rw [hji19] at H;exact H)|(simp only [hji19] at H ⊢;exact H)
         have hji19_ : (if x8_1 < (rd l0_2 (ix71 (⟨t333.f0,t333.f1,t333.f2,t333.f3⟩ : S71) x31_1)) then (rd l0_2 (ix71 (⟨t333.f0,t333.f1,t333.f2,t333.f3⟩ : S71) x31_1)) else x8_1) = ji19:=hji19
         have H':=Aside0.mk H
         clear H
         have hnb20:=NB332_334.out
         have hnc20:=NB334_332.out
         obtain ⟨hcz21_0,hcz21_1,hcz21_2,hfz21_0,hfz21_1,hfz21_2⟩:=cells3 BK332.out
         have p337 : 0 ≤ ((ix71 (⟨t333.f0,t333.f1,t333.f2,t333.f3⟩ : S71) x31_1) : Int):=of_decide_eq_true (by first|(with_reducible assumption)|assumption)
         have q337 : (ix71 (⟨t333.f0,t333.f1,t333.f2,t333.f3⟩ : S71) x31_1) < (l0_2.length : Int):=of_decide_eq_true (by first|(with_reducible assumption)|assumption)
         obtain ⟨ad337,e337,hx337_0⟩:=Kd.at_int HR0_2.out (ix71 (⟨t333.f0,t333.f1,t333.f2,t333.f3⟩ : S71) x31_1) p337 q337
         obtain rfl : ad335 = ad337:=(by injection e337)
         replace hx337_0:=(HB.out.cell (World.block_lt_of_cell? w _ hx337_0)).trans hx337_0
         replace p337:=eq_true p337
         replace q337:=eq_true q337
         have p338 : 0 ≤ ((ix71 (⟨t333.f0,t333.f1,t333.f2,t333.f3⟩ : S71) x31_1) : Int):=of_decide_eq_true (by first|(with_reducible assumption)|assumption)
         have q338 : (ix71 (⟨t333.f0,t333.f1,t333.f2,t333.f3⟩ : S71) x31_1) < (l0_2.length : Int):=of_decide_eq_true (by first|(with_reducible assumption)|assumption)
         obtain ⟨ad338,e338,hx338_0⟩:=Kd.at_int HR0_2.out (ix71 (⟨t333.f0,t333.f1,t333.f2,t333.f3⟩ : S71) x31_1) p338 q338
         obtain rfl : ad335 = ad338:=(by injection e338)
         replace hx338_0:=(HB.out.cell (World.block_lt_of_cell? w _ hx338_0)).trans hx338_0
         replace p338:=eq_true p338
         replace q338:=eq_true q338
         go_wp2
         go_quiet (fail)
         go_wp2
         go_roundg k1
         case measure => have:=HK1.out;omega
         case rel => exact ⟨(ji18),(ji19),(wrap64 (x31_1 + 1)),(by first|rfl|(simp;done)|(simp only [← hji18] <;> (first|rfl|simp))|(simp [*];done)),(by first|rfl|(simp;done)|(simp only [← hji19] <;> (first|rfl|simp))|(simp [*];done)),(by first|rfl|(simp;done)|(simp [*];done)),H',⟨by have:=HK1.out;omega⟩,⟨blk_up BK332.out⟩,⟨blk_up BK334.out⟩,⟨hb_⟩⟩
        ·rw [if_neg c17] at H
         exact absurd H (by simp)
       ·rw [if_neg c16] at H
        exact absurd H (by simp)
      ·rw [if_neg c14] at H
       exact absurd H (by simp)
     ·rw [if_neg c13] at H
      have c13b0 : decide (x31_1 < 4) = false:=decide_eq_false c13
      clear c13
      have H':=Aside0.mk H
      clear H
      have hnb22:=NB334_332.out
      have hnc22:=NB332_334.out
      obtain ⟨hcz23_0,hcz23_1,hcz23_2,hcz23_3,hfz23_0,hfz23_1,hfz23_2,hfz23_3⟩:=cells4 BK334.out
      go_wp2
      go_loopg [11,12,50] k1 (fun kq v11 v12 v50 w' => ∃ (x11_2 : Int) (x12_2 : Int) (x50_2 : Int),v11 = .int .i64 x11_2 ∧ v12 = .int .i64 x12_2 ∧ v50 = .int .i64 x50_2 ∧ Aside0 (hinterlandref02_Face.l1 kq x7_1 x8_1 x11_2 x12_2 (⟨t333.f0,t333.f1,t333.f2,t333.f3⟩ : S71) x50_2 a0_0 a0_1 l0_2 = some (r1,r2)) ∧ Aside0 (kq ≤ k1) ∧ Aside0 (w'.heap[gb332]? = some (.cells #[.int .i64 a0_0,.int .i64 a0_1,(.slice (some ad335) l0_2.length c0_2)] 24 (0,0))) ∧ Aside0 (w'.heap[gb334]? = some (.cells #[.int .i64 t333.f0,.int .i64 t333.f1,.int .i64 t333.f2,.int .i64 t333.f3] 71 (0,0))) ∧ Aside0 (Below w.heap.size w w'))
      case atStart => exact ⟨(0),(1),(0),(by first|rfl|(simp;done)|(simp [*];done)),(by first|rfl|(simp;done)|(simp [*];done)),(by first|rfl|(simp;done)|(simp [*];done)),H',⟨Nat.le_refl _⟩,⟨blk_up BK332.out⟩,⟨blk_up BK334.out⟩,⟨hb_⟩⟩
      case round =>
       clear H'
       try clear c1
       try clear c2
       try clear p2
       try clear p3
       try clear q3
       try clear hx3
       try clear c4
       try clear c4b0
       try clear c5
       try clear c5b0
       try clear p6
       try clear c10
       try clear c13
       try clear c13b0
       try clear c14
       try clear c14b0
       try clear c16
       try clear c16b0
       try clear c17
       try clear c17b0
       try clear c20
       try clear c22
       try clear hcz11_0
       try clear hcz11_1
       try clear hcz11_2
       try clear hcz11_3
       try clear hcz12_0
       try clear hcz12_1
       try clear hcz12_2
       try clear hcz21_0
       try clear hcz21_1
       try clear hcz21_2
       try clear hcz23_0
       try clear hcz23_1
       try clear hcz23_2
       try clear hcz23_3
       try clear hcz7_0
       try clear hcz7_1
       try clear hcz7_2
       try clear hfz11_0
       try clear hfz11_1
       try clear hfz11_2
       try clear hfz11_3
       try clear hfz12_0
       try clear hfz12_1
       try clear hfz12_2
       try clear hfz21_0
       try clear hfz21_1
       try clear hfz21_2
       try clear hfz23_0
       try clear hfz23_1
       try clear hfz23_2
       try clear hfz23_3
       try clear hfz7_0
       try clear hfz7_1
       try clear hfz7_2
       try clear hx335_0
       try clear hx336_0
       try clear hx337_0
       try clear hx338_0
       try clear p2
       try clear p3
       try clear p335
       try clear p336
       try clear p337
       try clear p338
       try clear q3
       try clear q335
       try clear q336
       try clear q337
       try clear q338
       obtain ⟨x11_2,x12_2,x50_2,rfl,rfl,rfl,HA,HK2,BK332,BK334,HB⟩:=hrel
       cases gk with
       | zero => exact absurd HA.out (by simp [hinterlandref02_Face.l1])
       | succ k2 =>
        have H:=HA.out
        clear HA
        simp only [hinterlandref02_Face.l1] at H
        by_cases c24 : x50_2 < 4
        ·rw [if_pos c24] at H
         have c24b0 : decide (x50_2 < 4) = true:=decide_eq_true c24
         clear c24
         by_cases c25 : 0 ≤ x50_2
         ·rw [if_pos c25] at H
          have c25b0 : decide (0 ≤ x50_2) = true:=decide_eq_true c25
          clear c25
          have hix26:=fun (W_ : World) => (ix71_run t333.f0 t333.f1 t333.f2 t333.f3 x50_2 (of_decide_eq_true (by first|(with_reducible assumption)|assumption)) (of_decide_eq_true (by first|(with_reducible assumption)|assumption)) W_ : (Instr.index 71 (.agg #[.int .i64 t333.f0,.int .i64 t333.f1,.int .i64 t333.f2,.int .i64 t333.f3]) (.int .i64 x50_2)).run Try.prog W_ = .ok (.int .i64 (ix71 (⟨t333.f0,t333.f1,t333.f2,t333.f3⟩ : S71) x50_2)) W_)
          by_cases c27 : 0 ≤ (ix71 (⟨t333.f0,t333.f1,t333.f2,t333.f3⟩ : S71) x50_2)
          ·rw [if_pos c27] at H
           have c27b0 : decide (0 ≤ (ix71 (⟨t333.f0,t333.f1,t333.f2,t333.f3⟩ : S71) x50_2)) = true:=decide_eq_true c27
           clear c27
           by_cases c28 : (ix71 (⟨t333.f0,t333.f1,t333.f2,t333.f3⟩ : S71) x50_2) < (l0_2.length : Int)
           ·rw [if_pos c28] at H
            have c28b0 : decide ((ix71 (⟨t333.f0,t333.f1,t333.f2,t333.f3⟩ : S71) x50_2) < (l0_2.length : Int)) = true:=decide_eq_true c28
            clear c28
            by_cases c29 : (rd l0_2 (ix71 (⟨t333.f0,t333.f1,t333.f2,t333.f3⟩ : S71) x50_2)) > x7_1
            ·rw [if_pos c29] at H
             have c29b0 : decide (x7_1 < (rd l0_2 (ix71 (⟨t333.f0,t333.f1,t333.f2,t333.f3⟩ : S71) x50_2))) = true:=decide_eq_true c29
             clear c29
             have H':=Aside0.mk H
             clear H
             have hnb30:=NB332_334.out
             have hnc30:=NB334_332.out
             obtain ⟨hcz31_0,hcz31_1,hcz31_2,hfz31_0,hfz31_1,hfz31_2⟩:=cells3 BK332.out
             have p339 : 0 ≤ ((ix71 (⟨t333.f0,t333.f1,t333.f2,t333.f3⟩ : S71) x50_2) : Int):=of_decide_eq_true (by first|(with_reducible assumption)|assumption)
             have q339 : (ix71 (⟨t333.f0,t333.f1,t333.f2,t333.f3⟩ : S71) x50_2) < (l0_2.length : Int):=of_decide_eq_true (by first|(with_reducible assumption)|assumption)
             obtain ⟨ad339,e339,hx339_0⟩:=Kd.at_int HR0_2.out (ix71 (⟨t333.f0,t333.f1,t333.f2,t333.f3⟩ : S71) x50_2) p339 q339
             obtain rfl : ad335 = ad339:=(by injection e339)
             replace hx339_0:=(HB.out.cell (World.block_lt_of_cell? w _ hx339_0)).trans hx339_0
             replace p339:=eq_true p339
             replace q339:=eq_true q339
             go_wp2
             go_roundg k2
             case measure => have:=HK1.out;have:=HK2.out;omega
             case rel => exact ⟨(wrap64 (x11_2 + x12_2)),(wrap64 (x12_2 * 2)),(wrap64 (x50_2 + 1)),(by first|rfl|(simp;done)|(simp [*];done)),(by first|rfl|(simp;done)|(simp [*];done)),(by first|rfl|(simp;done)|(simp [*];done)),H',⟨by have:=HK1.out;have:=HK2.out;omega⟩,⟨blk_up BK332.out⟩,⟨blk_up BK334.out⟩,⟨hb_⟩⟩
            ·rw [if_neg c29] at H
             have c29b0 : decide (x7_1 < (rd l0_2 (ix71 (⟨t333.f0,t333.f1,t333.f2,t333.f3⟩ : S71) x50_2))) = false:=decide_eq_false c29
             clear c29
             have H':=Aside0.mk H
             clear H
             have hnb32:=NB332_334.out
             have hnc32:=NB334_332.out
             obtain ⟨hcz33_0,hcz33_1,hcz33_2,hfz33_0,hfz33_1,hfz33_2⟩:=cells3 BK332.out
             have p339 : 0 ≤ ((ix71 (⟨t333.f0,t333.f1,t333.f2,t333.f3⟩ : S71) x50_2) : Int):=of_decide_eq_true (by first|(with_reducible assumption)|assumption)
             have q339 : (ix71 (⟨t333.f0,t333.f1,t333.f2,t333.f3⟩ : S71) x50_2) < (l0_2.length : Int):=of_decide_eq_true (by first|(with_reducible assumption)|assumption)
             obtain ⟨ad339,e339,hx339_0⟩:=Kd.at_int HR0_2.out (ix71 (⟨t333.f0,t333.f1,t333.f2,t333.f3⟩ : S71) x50_2) p339 q339
             obtain rfl : ad335 = ad339:=(by injection e339)
             replace hx339_0:=(HB.out.cell (World.block_lt_of_cell? w _ hx339_0)).trans hx339_0
             replace p339:=eq_true p339
             replace q339:=eq_true q339
             go_wp2
             go_roundg k2
             case measure => have:=HK1.out;have:=HK2.out;omega
             case rel => exact ⟨(x11_2),(wrap64 (x12_2 * 2)),(wrap64 (x50_2 + 1)),(by first|rfl|(simp;done)|(simp [*];done)),(by first|rfl|(simp;done)|(simp [*];done)),(by first|rfl|(simp;done)|(simp [*];done)),H',⟨by have:=HK1.out;have:=HK2.out;omega⟩,⟨blk_up BK332.out⟩,⟨blk_up BK334.out⟩,⟨hb_⟩⟩
           ·rw [if_neg c28] at H
            exact absurd H (by simp)
          ·rw [if_neg c27] at H
           exact absurd H (by simp)
         ·rw [if_neg c25] at H
          exact absurd H (by simp)
        ·rw [if_neg c24] at H
         have c24b0 : decide (x50_2 < 4) = false:=decide_eq_false c24
         clear c24
         by_cases c34 : (wrap64 (x8_1 - x7_1)) = 2
         ·rw [if_pos c34] at H
          have c34b0 : ((wrap64 (x8_1 - x7_1)) == 2) = true:=beq_iff_eq.mpr c34
          have c34b1 : ((wrap64 (x8_1 - x7_1)) != 2) = false:=bne_eq_false_iff_eq.mpr c34
          clear c34
          simp only [Option.some.injEq,Prod.mk.injEq] at H
          obtain ⟨rfl,rfl⟩:=H
          go_wp2
          go_ret2
          exact ⟨by first|rfl|(simp [errW_none,errW_some] <;> rfl)|(simp [*,errW_none,errW_some] <;> rfl),hb_⟩
         ·rw [if_neg c34] at H
          have c34b0 : ((wrap64 (x8_1 - x7_1)) == 2) = false:=beq_eq_false_iff_ne.mpr c34
          have c34b1 : ((wrap64 (x8_1 - x7_1)) != 2) = true:=bne_iff_ne.mpr c34
          simp only [Option.some.injEq,Prod.mk.injEq] at H
          obtain ⟨rfl,rfl⟩:=H
          go_wp2
          go_ret2
          exact ⟨by first|rfl|(simp [errW_none,errW_some] <;> rfl)|(simp [*,errW_none,errW_some] <;> rfl),hb_⟩
  ·rw [if_neg c5] at H
   exact absurd H (by simp)
 ·rw [if_neg c4] at H
  exact absurd H (by simp)

/-! ### hinterlandref06_upper: function 63 -/
def hinterlandref06_upper.f (a0 : Int) : Option (Int) := if a0 = 6 then (some 0) else (if a0 = 12 then (some 1) else (if a0 = 9 then (some 2) else (if a0 = 3 then (some 3) else (some (-1)))))
set_option maxHeartbeats 8000000 in
set_option maxRecDepth 100000 in
theorem hinterlandref06_upper.calls (a0 : Int) (r : Int) (w : World) (h : hinterlandref06_upper.f a0 = some r) :
  Calls Try.prog 63 #[.int .i64 a0] w fun e w' => e = .returned (.int .i64 r) ∧ Drawn0 w w':=by
 have H : (if a0 = 6 then (some 0) else (if a0 = 12 then (some 1) else (if a0 = 9 then (some 2) else (if a0 = 3 then (some 3) else (some (-1)))))) = some r:=h
 clear h
 by_cases c2 : a0 = 6
 ·rw [if_pos c2] at H
  have c2b0 : (a0 == 6) = true:=beq_iff_eq.mpr c2
  have c2b1 : (a0 != 6) = false:=bne_eq_false_iff_eq.mpr c2
  clear c2
  obtain rfl:=Option.some.inj H
  go_enter Try.func63,Try.ntmps63
  go_wp2
  go_ret
  exact ⟨by first|rfl|(simp;done)|(simp [*];done),by repeat (first|exact Drawn0.refl _|apply Drawn0.step)⟩
 ·rw [if_neg c2] at H
  have c2b0 : (a0 == 6) = false:=beq_eq_false_iff_ne.mpr c2
  have c2b1 : (a0 != 6) = true:=bne_iff_ne.mpr c2
  by_cases c3 : a0 = 12
  ·rw [if_pos c3] at H
   have c3b0 : (a0 == 12) = true:=beq_iff_eq.mpr c3
   have c3b1 : (a0 != 12) = false:=bne_eq_false_iff_eq.mpr c3
   clear c3
   obtain rfl:=Option.some.inj H
   go_enter Try.func63,Try.ntmps63
   go_wp2
   go_ret
   exact ⟨by first|rfl|(simp;done)|(simp [*];done),by repeat (first|exact Drawn0.refl _|apply Drawn0.step)⟩
  ·rw [if_neg c3] at H
   have c3b0 : (a0 == 12) = false:=beq_eq_false_iff_ne.mpr c3
   have c3b1 : (a0 != 12) = true:=bne_iff_ne.mpr c3
   by_cases c4 : a0 = 9
   ·rw [if_pos c4] at H
    have c4b0 : (a0 == 9) = true:=beq_iff_eq.mpr c4
    have c4b1 : (a0 != 9) = false:=bne_eq_false_iff_eq.mpr c4
    clear c4
    obtain rfl:=Option.some.inj H
    go_enter Try.func63,Try.ntmps63
    go_wp2
    go_ret
    exact ⟨by first|rfl|(simp;done)|(simp [*];done),by repeat (first|exact Drawn0.refl _|apply Drawn0.step)⟩
   ·rw [if_neg c4] at H
    have c4b0 : (a0 == 9) = false:=beq_eq_false_iff_ne.mpr c4
    have c4b1 : (a0 != 9) = true:=bne_iff_ne.mpr c4
    by_cases c5 : a0 = 3
    ·rw [if_pos c5] at H
     have c5b0 : (a0 == 3) = true:=beq_iff_eq.mpr c5
     have c5b1 : (a0 != 3) = false:=bne_eq_false_iff_eq.mpr c5
     clear c5
     obtain rfl:=Option.some.inj H
     go_enter Try.func63,Try.ntmps63
     go_wp2
     go_ret
     exact ⟨by first|rfl|(simp;done)|(simp [*];done),by repeat (first|exact Drawn0.refl _|apply Drawn0.step)⟩
    ·rw [if_neg c5] at H
     have c5b0 : (a0 == 3) = false:=beq_eq_false_iff_ne.mpr c5
     have c5b1 : (a0 != 3) = true:=bne_iff_ne.mpr c5
     obtain rfl:=Option.some.inj H
     go_enter Try.func63,Try.ntmps63
     go_wp2
     go_ret
     exact ⟨by first|rfl|(simp;done)|(simp [*];done),by repeat (first|exact Drawn0.refl _|apply Drawn0.step)⟩

/-! ### hinterlandref06_lies: function 49 -/
def hinterlandref06_lies.j0 : Nat → Int → Int → Bool → Int → Bool → Option (Int)
 | 0,_,_,_,_,_ => none
 | k + 1,x2,x7,x9,x19,x20 => if x20 = true then (if x9 = true then (some 9) else (if x2 = 1 then (if x7 = 0 then (if x2 = 2 then ((hinterlandref06_upper.f x7).bind fun t344 => (if t344 < 0 then (some 5) else (some 0))) else (some 0)) else (some 5)) else (if x2 = 2 then ((hinterlandref06_upper.f x7).bind fun t345 => (if t345 < 0 then (some 5) else (some 0))) else (some 0)))) else (if x19 = 3 then (if x9 = true then (some 0) else (if x7 = 0 then (some 0) else (some 9))) else (some 0))
def hinterlandref06_lies.f (k : Nat) (a0_0 : Int) (a0_1 : Int) (l0_2 : List Int) (a1 : Int) (a2 : Int) : Option (Int) := (hinterlandref02_Face.f k a0_0 a0_1 l0_2 a1).bind fun bt341 => ((hinterlandref02_Sea.f k a0_0 a0_1 l0_2 a1).bind fun t343 => (if a2 = 1 then (hinterlandref06_lies.j0 k a2 bt341.1 t343 a2 (a2 == 1)) else (hinterlandref06_lies.j0 k a2 bt341.1 t343 a2 (a2 == 2))))
theorem hinterlandref06_lies.mono_l : ∀ k, (∀ y0 y1 y2 y3 y4, LeO (hinterlandref06_lies.j0 k y0 y1 y2 y3 y4) (hinterlandref06_lies.j0 (k + 1) y0 y1 y2 y3 y4))
 | 0 => fun _ _ _ _ _ r h => by simp [hinterlandref06_lies.j0] at h
 | k + 1 => by
  have ih0:=hinterlandref06_lies.mono_l k
  ·intro y0 y1 y2 y3 y4
   unfold hinterlandref06_lies.j0
   repeat' first
   | (with_reducible exact ih0 _ _ _ _ _)
   | (with_reducible exact hinterlandref02_Face.mono _ _ _ _ _)
   | (with_reducible exact hinterlandref02_Sea.mono _ _ _ _ _)
   | (with_reducible exact LeO.refl _)
   | (with_reducible exact LeO.none _)
   | (with_reducible refine LeO.ite ?_ ?_)
   | (with_reducible refine LeO.bind ?_ (fun _ => ?_))
   | exact ih0 _ _ _ _ _
   | exact hinterlandref02_Face.mono _ _ _ _ _
   | exact hinterlandref02_Sea.mono _ _ _ _ _
   | exact LeO.none _
   | refine LeO.ite ?_ ?_
   | refine LeO.bind ?_ (fun _ => ?_)
theorem hinterlandref06_lies.mono : ∀ a0 a1 a2 a3 a4 k, LeO (hinterlandref06_lies.f k a0 a1 a2 a3 a4) (hinterlandref06_lies.f (k + 1) a0 a1 a2 a3 a4) := by
 intro a0 a1 a2 a3 a4 k
 have ih0:=hinterlandref06_lies.mono_l k
 unfold hinterlandref06_lies.f
 repeat' first
   | (with_reducible exact ih0 _ _ _ _ _)
   | (with_reducible exact hinterlandref02_Face.mono _ _ _ _ _)
   | (with_reducible exact hinterlandref02_Sea.mono _ _ _ _ _)
   | (with_reducible exact LeO.refl _)
   | (with_reducible exact LeO.none _)
   | (with_reducible refine LeO.ite ?_ ?_)
   | (with_reducible refine LeO.bind ?_ (fun _ => ?_))
   | exact ih0 _ _ _ _ _
   | exact hinterlandref02_Face.mono _ _ _ _ _
   | exact hinterlandref02_Sea.mono _ _ _ _ _
   | exact LeO.none _
   | refine LeO.ite ?_ ?_
   | refine LeO.bind ?_ (fun _ => ?_)
set_option maxHeartbeats 8000000 in
set_option maxRecDepth 100000 in
theorem hinterlandref06_lies.calls (k : Nat) (a0_0 : Int) (a0_1 : Int) (A0_2 : Option Addr) (c0_2 : Nat) (l0_2 : List Int) (a1 : Int) (a2 : Int) (r : Int) (w : World) (hr0_2 : Kd.C (Kd.int .i64) w A0_2 l0_2.length l0_2) (hc0_2 : l0_2.length ≤ c0_2) (h : hinterlandref06_lies.f k a0_0 a0_1 l0_2 a1 a2 = some r) :
  Calls Try.prog 49 #[.agg #[.int .i64 a0_0,.int .i64 a0_1,.slice A0_2 l0_2.length c0_2],.int .i64 a1,.int .i64 a2] w fun e w' => e = .returned (.int .i64 r) ∧ Below w.heap.size w w':=by
 have hu24:=Try.underlying24
 have HR0_2:=Aside0.mk hr0_2
 have HC0_2:=Aside0.mk hc0_2
 clear hr0_2 hc0_2
 have HB:=Aside0.mk (Below.refl w.heap.size w)
 have H : ((hinterlandref02_Face.f k a0_0 a0_1 l0_2 a1).bind fun bt341 => ((hinterlandref02_Sea.f k a0_0 a0_1 l0_2 a1).bind fun t343 => (if a2 = 1 then (hinterlandref06_lies.j0 k a2 bt341.1 t343 a2 (a2 == 1)) else (hinterlandref06_lies.j0 k a2 bt341.1 t343 a2 (a2 == 2))))) = some r:=h
 clear h
 replace H:=Option.bind_eq_some_iff.mp H
 obtain ⟨⟨t341,t342⟩,A40,H⟩:=H
 replace H : ((hinterlandref02_Sea.f k a0_0 a0_1 l0_2 a1).bind fun t343 => (if a2 = 1 then (hinterlandref06_lies.j0 k a2 t341 t343 a2 (a2 == 1)) else (hinterlandref06_lies.j0 k a2 t341 t343 a2 (a2 == 2)))) = some r:=H
 have A4:=Aside0.mk A40
 clear A40
 replace H:=Option.bind_eq_some_iff.mp H
 obtain ⟨t343,A50,H⟩:=H
 replace H : (if a2 = 1 then (hinterlandref06_lies.j0 k a2 t341 t343 a2 (a2 == 1)) else (hinterlandref06_lies.j0 k a2 t341 t343 a2 (a2 == 2))) = some r:=H
 have A5:=Aside0.mk A50
 clear A50
 have HC6:=Aside0.mk H
 clear H
 go_enter Try.func49,Try.ntmps49
 go_upto_if 20 with (first|((with_reducible refine gate_dst (N:=3) rfl ?_);refine box_event ?hg (N:=3) ?hd (cs:=#[.int .i64 a0_0,.int .i64 a0_1,.slice A0_2 l0_2.length c0_2]) (t:=24) ?hr ?_;(case hd => rfl);(case hg => rfl);(case hr => first|(go_simp;done)|(go_simp;rfl));intro gb340 hg w7 hbox hb;have BK340:=Aside0.mk (hbox);have GW340:=Aside0.mk ((by rw [hg];exact (below_size (hb_)) : w.heap.size ≤ gb340));have GE340:=Aside0.mk ((by rw [hg];exact (below_size (hb_)) : w.heap.size ≤ gb340));replace HB:=Aside0.mk (below_step (hb_) hb);clear hb hbox hg;obtain ⟨hcz8_0,hcz8_1,hcz8_2,hfz8_0,hfz8_1,hfz8_2⟩:=cells3 BK340.out)|((with_reducible refine gate_callee (f:=50) rfl ?_);refine goesL_ (some 13) rfl rfl Try.func50 (by kernel_rfl) rfl #[.agg #[.int .i64 a0_0,.int .i64 a0_1,.slice A0_2 l0_2.length c0_2],.int .i64 a1] rfl (by (try simp only [List.map_toArray,List.map_cons,List.map_nil]);first|done|rfl|(simp only [List.length_drop,List.length_take];rfl)) ?_;(with_reducible refine (hinterlandref02_Face.calls k a0_0 a0_1 _ _ l0_2 a1 t341 t342 _ ?side1 ?side2 A4.out).mono ?_);(case side1 => exact Kd.C_up (Kd.C_below HR0_2.out HB.out));(case side2 => exact HC0_2.out);rintro e w9 ⟨rfl,hb⟩;refine ⟨_,rfl,?_⟩;replace BK340:=Aside0.mk (blk_below (blk_up BK340.out) hb);replace HB:=Aside0.mk (below_step (hb_) hb);(try clear hb);(try clear hb2);(try clear hk);(try clear hi);obtain ⟨hcz10_0,hcz10_1,hcz10_2,hfz10_0,hfz10_1,hfz10_2⟩:=cells3 BK340.out)|((with_reducible refine gate_callee (f:=51) rfl ?_);refine goesL_ (some 18) rfl rfl Try.func51 (by kernel_rfl) rfl #[.agg #[.int .i64 a0_0,.int .i64 a0_1,.slice A0_2 l0_2.length c0_2],.int .i64 a1] rfl (by (try simp only [List.map_toArray,List.map_cons,List.map_nil]);first|done|rfl|(simp only [List.length_drop,List.length_take];rfl)) ?_;(with_reducible refine (hinterlandref02_Sea.calls k a0_0 a0_1 _ _ l0_2 a1 t343 _ ?side1 ?side2 A5.out).mono ?_);(case side1 => exact Kd.C_up (Kd.C_below HR0_2.out HB.out));(case side2 => exact HC0_2.out);rintro e w11 ⟨rfl,hb⟩;refine ⟨_,rfl,?_⟩;replace BK340:=Aside0.mk (blk_below (blk_up BK340.out) hb);replace HB:=Aside0.mk (below_step (hb_) hb);(try clear hb);(try clear hb2);(try clear hk);(try clear hi)))
 (try simp only [Act.put,List.setIfInBounds_toArray,List.set_cons_zero,List.set_cons_succ])
 go_cut [20] (fun v20 wc => ∃ (kq : Nat) (x20_5 : Bool),v20 = .bool x20_5 ∧ Aside0 (hinterlandref06_lies.j0 kq a2 t341 t343 a2 x20_5 = some r) ∧ Aside0 (kq ≤ k) ∧ Aside0 (wc.heap[gb340]? = some (.cells #[.int .i64 a0_0,.int .i64 a0_1,(.slice A0_2 l0_2.length c0_2)] 24 (0,0))) ∧ Aside0 (Below w.heap.size w wc))
 case first =>
  have H:=HC6.out
  clear HC6
  by_cases c12 : a2 = 1
  ·rw [if_pos c12] at H
   have c12b0 : (a2 == 1) = true:=beq_iff_eq.mpr c12
   have c12b1 : (a2 != 1) = false:=bne_eq_false_iff_eq.mpr c12
   clear c12
   (first|rw [c12b0]|(simp only [i64_w,i32_w];rw [c12b0])|skip)
   have H':=Aside0.mk H
   clear H
   go_wp2
   go_meet
   case rel => exact ⟨_,((a2 == 1)),(by first|rfl|(simp;done)|(simp [*];done)),H',⟨by first|omega|exact Nat.le_refl _⟩,⟨blk_up BK340.out⟩,⟨hb_⟩⟩
  ·rw [if_neg c12] at H
   have c12b0 : (a2 == 1) = false:=beq_eq_false_iff_ne.mpr c12
   have c12b1 : (a2 != 1) = true:=bne_iff_ne.mpr c12
   (first|rw [c12b0]|(simp only [i64_w,i32_w];rw [c12b0])|skip)
   have H':=Aside0.mk H
   clear H
   go_wp2
   go_meet
   case rel => exact ⟨_,((a2 == 2)),(by first|rfl|(simp;done)|(simp [*];done)),H',⟨by first|omega|exact Nat.le_refl _⟩,⟨blk_up BK340.out⟩,⟨hb_⟩⟩
 case rest =>
  clear HC6
  try clear c1
  try clear p2
  try clear c4
  try clear c5
  try clear c12
  try clear c12b0
  try clear c12b1
  try clear hcz10_0
  try clear hcz10_1
  try clear hcz10_2
  try clear hcz8_0
  try clear hcz8_1
  try clear hcz8_2
  try clear hfz10_0
  try clear hfz10_1
  try clear hfz10_2
  try clear hfz8_0
  try clear hfz8_1
  try clear hfz8_2
  obtain ⟨kq,x20_5,rfl,HA,HJ5,BK340,HB⟩:=hcut
  cases kq with
  | zero => exact absurd HA.out (by simp [hinterlandref06_lies.j0])
  | succ kj5 =>
   have H:=HA.out
   clear HA
   simp only [hinterlandref06_lies.j0] at H
   by_cases c13 : x20_5 = true
   ·subst c13
    have H1 : (if t343 = true then (some 9) else (if a2 = 1 then (if t341 = 0 then (if a2 = 2 then ((hinterlandref06_upper.f t341).bind fun t344 => (if t344 < 0 then (some 5) else (some 0))) else (some 0)) else (some 5)) else (if a2 = 2 then ((hinterlandref06_upper.f t341).bind fun t345 => (if t345 < 0 then (some 5) else (some 0))) else (some 0)))) = some r:=by rw [if_pos rfl] at H;exact H
    clear H
    have H:=H1
    clear H1
    by_cases c14 : t343 = true
    ·subst c14
     have H1 : (some 9) = some r:=by rw [if_pos rfl] at H;exact H
     clear H
     have H:=H1
     clear H1
     obtain rfl:=Option.some.inj H
     go_wp2
     go_ret
     exact ⟨by first|rfl|(simp [errW_none,errW_some] <;> rfl)|(simp [*,errW_none,errW_some] <;> rfl),hb_⟩
    ·replace c14:=Bool.eq_false_iff.mpr c14
     subst c14
     have H1 : (if a2 = 1 then (if t341 = 0 then (if a2 = 2 then ((hinterlandref06_upper.f t341).bind fun t344 => (if t344 < 0 then (some 5) else (some 0))) else (some 0)) else (some 5)) else (if a2 = 2 then ((hinterlandref06_upper.f t341).bind fun t345 => (if t345 < 0 then (some 5) else (some 0))) else (some 0))) = some r:=by rw [if_neg (show ¬ (false = true) by decide)] at H;exact H
     clear H
     have H:=H1
     clear H1
     by_cases c15 : a2 = 1
     ·rw [if_pos c15] at H
      have c15b0 : (a2 == 1) = true:=beq_iff_eq.mpr c15
      have c15b1 : (a2 != 1) = false:=bne_eq_false_iff_eq.mpr c15
      clear c15
      by_cases c16 : t341 = 0
      ·rw [if_pos c16] at H
       have c16b0 : (t341 == 0) = true:=beq_iff_eq.mpr c16
       have c16b1 : (t341 != 0) = false:=bne_eq_false_iff_eq.mpr c16
       clear c16
       by_cases c17 : a2 = 2
       ·rw [if_pos c17] at H
        have c17b0 : (a2 == 2) = true:=beq_iff_eq.mpr c17
        have c17b1 : (a2 != 2) = false:=bne_eq_false_iff_eq.mpr c17
        clear c17
        replace H:=Option.bind_eq_some_iff.mp H
        obtain ⟨t344,A180,H⟩:=H
        replace H : (if t344 < 0 then (some 5) else (some 0)) = some r:=H
        have A18:=Aside0.mk A180
        clear A180
        by_cases c19 : t344 < 0
        ·rw [if_pos c19] at H
         have c19b0 : decide (t344 < 0) = true:=decide_eq_true c19
         clear c19
         obtain rfl:=Option.some.inj H
         go_wp2_with (first|(go_at_call 63;(with_reducible refine (hinterlandref06_upper.calls t341 t344 _ A18.out).mono ?_);rintro e w' ⟨rfl,⟨nd,rfl⟩⟩))
         go_ret
         exact ⟨by first|rfl|(simp [errW_none,errW_some] <;> rfl)|(simp [*,errW_none,errW_some] <;> rfl),hb_⟩
        ·rw [if_neg c19] at H
         have c19b0 : decide (t344 < 0) = false:=decide_eq_false c19
         clear c19
         obtain rfl:=Option.some.inj H
         go_wp2_with (first|(go_at_call 63;(with_reducible refine (hinterlandref06_upper.calls t341 t344 _ A18.out).mono ?_);rintro e w' ⟨rfl,⟨nd,rfl⟩⟩))
         go_ret
         exact ⟨by first|rfl|(simp [errW_none,errW_some] <;> rfl)|(simp [*,errW_none,errW_some] <;> rfl),hb_⟩
       ·rw [if_neg c17] at H
        have c17b0 : (a2 == 2) = false:=beq_eq_false_iff_ne.mpr c17
        have c17b1 : (a2 != 2) = true:=bne_iff_ne.mpr c17
        obtain rfl:=Option.some.inj H
        go_wp2
        go_ret
        exact ⟨by first|rfl|(simp [errW_none,errW_some] <;> rfl)|(simp [*,errW_none,errW_some] <;> rfl),hb_⟩
      ·rw [if_neg c16] at H
       have c16b0 : (t341 == 0) = false:=beq_eq_false_iff_ne.mpr c16
       have c16b1 : (t341 != 0) = true:=bne_iff_ne.mpr c16
       obtain rfl:=Option.some.inj H
       go_wp2
       go_ret
       exact ⟨by first|rfl|(simp [errW_none,errW_some] <;> rfl)|(simp [*,errW_none,errW_some] <;> rfl),hb_⟩
     ·rw [if_neg c15] at H
      have c15b0 : (a2 == 1) = false:=beq_eq_false_iff_ne.mpr c15
      have c15b1 : (a2 != 1) = true:=bne_iff_ne.mpr c15
      by_cases c20 : a2 = 2
      ·rw [if_pos c20] at H
       have c20b0 : (a2 == 2) = true:=beq_iff_eq.mpr c20
       have c20b1 : (a2 != 2) = false:=bne_eq_false_iff_eq.mpr c20
       clear c20
       replace H:=Option.bind_eq_some_iff.mp H
       obtain ⟨t345,A210,H⟩:=H
       replace H : (if t345 < 0 then (some 5) else (some 0)) = some r:=H
       have A21:=Aside0.mk A210
       clear A210
       by_cases c22 : t345 < 0
       ·rw [if_pos c22] at H
        have c22b0 : decide (t345 < 0) = true:=decide_eq_true c22
        clear c22
        obtain rfl:=Option.some.inj H
        go_wp2_with (first|(go_at_call 63;(with_reducible refine (hinterlandref06_upper.calls t341 t345 _ A21.out).mono ?_);rintro e w' ⟨rfl,⟨nd,rfl⟩⟩))
        go_ret
        exact ⟨by first|rfl|(simp [errW_none,errW_some] <;> rfl)|(simp [*,errW_none,errW_some] <;> rfl),hb_⟩
       ·rw [if_neg c22] at H
        have c22b0 : decide (t345 < 0) = false:=decide_eq_false c22
        clear c22
        obtain rfl:=Option.some.inj H
        go_wp2_with (first|(go_at_call 63;(with_reducible refine (hinterlandref06_upper.calls t341 t345 _ A21.out).mono ?_);rintro e w' ⟨rfl,⟨nd,rfl⟩⟩))
        go_ret
        exact ⟨by first|rfl|(simp [errW_none,errW_some] <;> rfl)|(simp [*,errW_none,errW_some] <;> rfl),hb_⟩
      ·rw [if_neg c20] at H
       have c20b0 : (a2 == 2) = false:=beq_eq_false_iff_ne.mpr c20
       have c20b1 : (a2 != 2) = true:=bne_iff_ne.mpr c20
       obtain rfl:=Option.some.inj H
       go_wp2
       go_ret
       exact ⟨by first|rfl|(simp [errW_none,errW_some] <;> rfl)|(simp [*,errW_none,errW_some] <;> rfl),hb_⟩
   ·replace c13:=Bool.eq_false_iff.mpr c13
    subst c13
    have H1 : (if a2 = 3 then (if t343 = true then (some 0) else (if t341 = 0 then (some 0) else (some 9))) else (some 0)) = some r:=by rw [if_neg (show ¬ (false = true) by decide)] at H;exact H
    clear H
    have H:=H1
    clear H1
    by_cases c23 : a2 = 3
    ·rw [if_pos c23] at H
     have c23b0 : (a2 == 3) = true:=beq_iff_eq.mpr c23
     have c23b1 : (a2 != 3) = false:=bne_eq_false_iff_eq.mpr c23
     clear c23
     by_cases c24 : t343 = true
     ·subst c24
      have H1 : (some 0) = some r:=by rw [if_pos rfl] at H;exact H
      clear H
      have H:=H1
      clear H1
      obtain rfl:=Option.some.inj H
      go_wp2
      go_ret
      exact ⟨by first|rfl|(simp [errW_none,errW_some] <;> rfl)|(simp [*,errW_none,errW_some] <;> rfl),hb_⟩
     ·replace c24:=Bool.eq_false_iff.mpr c24
      subst c24
      have H1 : (if t341 = 0 then (some 0) else (some 9)) = some r:=by rw [if_neg (show ¬ (false = true) by decide)] at H;exact H
      clear H
      have H:=H1
      clear H1
      by_cases c25 : t341 = 0
      ·rw [if_pos c25] at H
       have c25b0 : (t341 == 0) = true:=beq_iff_eq.mpr c25
       have c25b1 : (t341 != 0) = false:=bne_eq_false_iff_eq.mpr c25
       clear c25
       obtain rfl:=Option.some.inj H
       go_wp2
       go_ret
       exact ⟨by first|rfl|(simp [errW_none,errW_some] <;> rfl)|(simp [*,errW_none,errW_some] <;> rfl),hb_⟩
      ·rw [if_neg c25] at H
       have c25b0 : (t341 == 0) = false:=beq_eq_false_iff_ne.mpr c25
       have c25b1 : (t341 != 0) = true:=bne_iff_ne.mpr c25
       obtain rfl:=Option.some.inj H
       go_wp2
       go_ret
       exact ⟨by first|rfl|(simp [errW_none,errW_some] <;> rfl)|(simp [*,errW_none,errW_some] <;> rfl),hb_⟩
    ·rw [if_neg c23] at H
     have c23b0 : (a2 == 3) = false:=beq_eq_false_iff_ne.mpr c23
     have c23b1 : (a2 != 3) = true:=bne_iff_ne.mpr c23
     obtain rfl:=Option.some.inj H
     go_wp2
     go_ret
     exact ⟨by first|rfl|(simp [errW_none,errW_some] <;> rfl)|(simp [*,errW_none,errW_some] <;> rfl),hb_⟩

end Go.Proofs.Ytiencnnkphipoaa.P
