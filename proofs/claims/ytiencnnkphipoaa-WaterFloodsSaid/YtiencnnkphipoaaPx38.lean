/- Functions of this seat as plain Lean functions, with proofs that the Go code comes to just their answers, or what stands between them and a law's statement; no conditions. (Laid by a program of this session, out of the kit's print.) -/
import Derived.Test.YtiencnnkphipoaaPx0
import Derived.Test.YtiencnnkphipoaaPx4
import Derived.Test.YtiencnnkphipoaaPx5
import Derived.Test.YtiencnnkphipoaaPx8
import Derived.Test.YtiencnnkphipoaaPx9
import Derived.Test.YtiencnnkphipoaaPx11
import Derived.Test.YtiencnnkphipoaaPx27
namespace Go.Proofs.Ytiencnnkphipoaa.P
open Go.RowKit Go.Proofs.YtiencnnkphipoaaW.PrintWords Go.Proofs.YtiencnnkphipoaaW.PrintLast Go.Proofs.YtiencnnkphipoaaW.PrintMore
attribute [local go_sem] max2_int min2_int max_two min_two max_three min_three max_four min_four   -- for this text's walks alone
set_option linter.unusedVariables false
set_option linter.unusedSimpArgs false

/-! ### water_Flood: function 24 -/
mutual
def water_Flood.l0 : Nat → List Int → List Int → Int → Int → Int → Int → List Int → List Int → List Bool → Option (List Int × Int)
 | 0,_,_,_,_,_,_,_,_,_ => none
 | k + 1,x8,x23,x24,x25,x783000,x783001,x783002,x783003,x783004 => if x25 < x24 then (if 0 ≤ x25 then (if x25 < (x23.length : Int) then (if x25 < (x783004.length : Int) then (if rdOf false x783004 x25 = true then (water_Flood.j1 k x8 x25 x23 x24 x25 true x783000 x783001 x783002 x783003 x783004) else (if (rd x23 x25) = 0 then (if x25 < (x783003.length : Int) then (water_Flood.j1 k x8 x25 x23 x24 x25 (decide ((rd x783003 x25) > 2)) x783000 x783001 x783002 x783003 x783004) else (none)) else (water_Flood.j1 k x8 x25 x23 x24 x25 true x783000 x783001 x783002 x783003 x783004))) else (none)) else (none)) else (none)) else (some (x8,0))
def water_Flood.j1 : Nat → List Int → Int → List Int → Int → Int → Bool → Int → Int → List Int → List Int → List Bool → Option (List Int × Int)
 | 0,_,_,_,_,_,_,_,_,_,_,_ => none
 | k + 1,x8,x9,x23,x24,x25,x46,x783000,x783001,x783002,x783003,x783004 => if x46 = true then (water_Flood.l0 k x8 x23 x24 (wrap64 (x25 + 1)) x783000 x783001 x783002 x783003 x783004) else (water_Flood.l1 k x8 x9 x23 x24 x25 0 x783000 x783001 x783002 x783003 x783004)
def water_Flood.l1 : Nat → List Int → Int → List Int → Int → Int → Int → Int → Int → List Int → List Int → List Bool → Option (List Int × Int)
 | 0,_,_,_,_,_,_,_,_,_,_,_ => none
 | k + 1,x8,x9,x23,x24,x25,x47,x783000,x783001,x783002,x783003,x783004 => if x47 < 4 then ((water_ground_beyond.f k x783000 x783001 x783002 x783003 x783004 x9 x47).bind fun t786 => (if t786 ≥ 0 then (if 0 ≤ t786 then (if t786 < (x783004.length : Int) then (if rdOf false x783004 t786 = true then (if x8.length < 17592186044416 then (water_Flood.l0 k (x8 ++ [x9]) x23 x24 (wrap64 (x25 + 1)) x783000 x783001 x783002 x783003 x783004) else (none)) else (water_Flood.l1 k x8 x9 x23 x24 x25 (wrap64 (x47 + 1)) x783000 x783001 x783002 x783003 x783004)) else (none)) else (none)) else (water_Flood.l1 k x8 x9 x23 x24 x25 (wrap64 (x47 + 1)) x783000 x783001 x783002 x783003 x783004))) else (water_Flood.l0 k x8 x23 x24 (wrap64 (x25 + 1)) x783000 x783001 x783002 x783003 x783004)
end
def water_Flood.f (k : Nat) (a0_0 : Int) (a0_1 : Int) (l0_2 : List Int) (l1_0 : List Int) (l1_1 : List Int) : Option (List Int × Int) := (water_check.f k a0_0 a0_1 l0_2 l1_0 l1_1).bind fun bt770 => (if bt770.2.2.2.2.2 = 0 then (water_Flood.l0 k ([] : List Int) l1_0 (l1_0.length : Int) 0 bt770.1 bt770.2.1 bt770.2.2.1 bt770.2.2.2.1 bt770.2.2.2.2.1) else (some (([] : List Int), bt770.2.2.2.2.2)))
theorem water_Flood.mono_l : ∀ k, (∀ y0 y1 y2 y3 y4 y5 y6 y7 y8, LeO (water_Flood.l0 k y0 y1 y2 y3 y4 y5 y6 y7 y8) (water_Flood.l0 (k + 1) y0 y1 y2 y3 y4 y5 y6 y7 y8)) ∧ (∀ y0 y1 y2 y3 y4 y5 y6 y7 y8 y9 y10, LeO (water_Flood.j1 k y0 y1 y2 y3 y4 y5 y6 y7 y8 y9 y10) (water_Flood.j1 (k + 1) y0 y1 y2 y3 y4 y5 y6 y7 y8 y9 y10)) ∧ (∀ y0 y1 y2 y3 y4 y5 y6 y7 y8 y9 y10, LeO (water_Flood.l1 k y0 y1 y2 y3 y4 y5 y6 y7 y8 y9 y10) (water_Flood.l1 (k + 1) y0 y1 y2 y3 y4 y5 y6 y7 y8 y9 y10))
 | 0 => ⟨fun _ _ _ _ _ _ _ _ _ r h => by simp [water_Flood.l0] at h,fun _ _ _ _ _ _ _ _ _ _ _ r h => by simp [water_Flood.j1] at h,fun _ _ _ _ _ _ _ _ _ _ _ r h => by simp [water_Flood.l1] at h⟩
 | k + 1 => by
  obtain ⟨ih0,ih1,ih2⟩:=water_Flood.mono_l k
  refine ⟨?_,?_,?_⟩
  ·intro y0 y1 y2 y3 y4 y5 y6 y7 y8
   unfold water_Flood.l0
   repeat' first
   | (with_reducible exact ih0 _ _ _ _ _ _ _ _ _)
   | (with_reducible exact ih1 _ _ _ _ _ _ _ _ _ _ _)
   | (with_reducible exact ih2 _ _ _ _ _ _ _ _ _ _ _)
   | (with_reducible exact water_check.mono _ _ _ _ _ _)
   | (with_reducible exact water_ground_beyond.mono _ _ _ _ _ _ _ _)
   | (with_reducible exact LeO.refl _)
   | (with_reducible exact LeO.none _)
   | (with_reducible refine LeO.ite ?_ ?_)
   | (with_reducible refine LeO.bind ?_ (fun _ => ?_))
   | exact ih0 _ _ _ _ _ _ _ _ _
   | exact ih1 _ _ _ _ _ _ _ _ _ _ _
   | exact ih2 _ _ _ _ _ _ _ _ _ _ _
   | exact water_check.mono _ _ _ _ _ _
   | exact water_ground_beyond.mono _ _ _ _ _ _ _ _
   | exact LeO.none _
   | refine LeO.ite ?_ ?_
   | refine LeO.bind ?_ (fun _ => ?_)
  ·intro y0 y1 y2 y3 y4 y5 y6 y7 y8 y9 y10
   unfold water_Flood.j1
   repeat' first
   | (with_reducible exact ih0 _ _ _ _ _ _ _ _ _)
   | (with_reducible exact ih1 _ _ _ _ _ _ _ _ _ _ _)
   | (with_reducible exact ih2 _ _ _ _ _ _ _ _ _ _ _)
   | (with_reducible exact water_check.mono _ _ _ _ _ _)
   | (with_reducible exact water_ground_beyond.mono _ _ _ _ _ _ _ _)
   | (with_reducible exact LeO.refl _)
   | (with_reducible exact LeO.none _)
   | (with_reducible refine LeO.ite ?_ ?_)
   | (with_reducible refine LeO.bind ?_ (fun _ => ?_))
   | exact ih0 _ _ _ _ _ _ _ _ _
   | exact ih1 _ _ _ _ _ _ _ _ _ _ _
   | exact ih2 _ _ _ _ _ _ _ _ _ _ _
   | exact water_check.mono _ _ _ _ _ _
   | exact water_ground_beyond.mono _ _ _ _ _ _ _ _
   | exact LeO.none _
   | refine LeO.ite ?_ ?_
   | refine LeO.bind ?_ (fun _ => ?_)
  ·intro y0 y1 y2 y3 y4 y5 y6 y7 y8 y9 y10
   unfold water_Flood.l1
   repeat' first
   | (with_reducible exact ih0 _ _ _ _ _ _ _ _ _)
   | (with_reducible exact ih1 _ _ _ _ _ _ _ _ _ _ _)
   | (with_reducible exact ih2 _ _ _ _ _ _ _ _ _ _ _)
   | (with_reducible exact water_check.mono _ _ _ _ _ _)
   | (with_reducible exact water_ground_beyond.mono _ _ _ _ _ _ _ _)
   | (with_reducible exact LeO.refl _)
   | (with_reducible exact LeO.none _)
   | (with_reducible refine LeO.ite ?_ ?_)
   | (with_reducible refine LeO.bind ?_ (fun _ => ?_))
   | exact ih0 _ _ _ _ _ _ _ _ _
   | exact ih1 _ _ _ _ _ _ _ _ _ _ _
   | exact ih2 _ _ _ _ _ _ _ _ _ _ _
   | exact water_check.mono _ _ _ _ _ _
   | exact water_ground_beyond.mono _ _ _ _ _ _ _ _
   | exact LeO.none _
   | refine LeO.ite ?_ ?_
   | refine LeO.bind ?_ (fun _ => ?_)
theorem water_Flood.mono : ∀ a0 a1 a2 a3 a4 k, LeO (water_Flood.f k a0 a1 a2 a3 a4) (water_Flood.f (k + 1) a0 a1 a2 a3 a4) := by
 intro a0 a1 a2 a3 a4 k
 obtain ⟨ih0,ih1,ih2⟩:=water_Flood.mono_l k
 unfold water_Flood.f
 repeat' first
   | (with_reducible exact ih0 _ _ _ _ _ _ _ _ _)
   | (with_reducible exact ih1 _ _ _ _ _ _ _ _ _ _ _)
   | (with_reducible exact ih2 _ _ _ _ _ _ _ _ _ _ _)
   | (with_reducible exact water_check.mono _ _ _ _ _ _)
   | (with_reducible exact water_ground_beyond.mono _ _ _ _ _ _ _ _)
   | (with_reducible exact LeO.refl _)
   | (with_reducible exact LeO.none _)
   | (with_reducible refine LeO.ite ?_ ?_)
   | (with_reducible refine LeO.bind ?_ (fun _ => ?_))
   | exact ih0 _ _ _ _ _ _ _ _ _
   | exact ih1 _ _ _ _ _ _ _ _ _ _ _
   | exact ih2 _ _ _ _ _ _ _ _ _ _ _
   | exact water_check.mono _ _ _ _ _ _
   | exact water_ground_beyond.mono _ _ _ _ _ _ _ _
   | exact LeO.none _
   | refine LeO.ite ?_ ?_
   | refine LeO.bind ?_ (fun _ => ?_)
set_option maxHeartbeats 8000000 in
set_option maxRecDepth 100000 in
theorem water_Flood.calls (k : Nat) (a0_0 : Int) (a0_1 : Int) (A0_2 : Option Addr) (c0_2 : Nat) (l0_2 : List Int) (A1_0 : Option Addr) (c1_0 : Nat) (l1_0 : List Int) (A1_1 : Option Addr) (c1_1 : Nat) (l1_1 : List Int) (r1 : List Int) (r2 : Int) (w : World) (hr0_2 : Kd.C (Kd.int .i64) w A0_2 l0_2.length l0_2) (hc0_2 : l0_2.length ≤ c0_2) (hr1_0 : Kd.C (Kd.int .i64) w A1_0 l1_0.length l1_0) (hc1_0 : l1_0.length ≤ c1_0) (hr1_1 : Kd.C (Kd.int .i64) w A1_1 l1_1.length l1_1) (hc1_1 : l1_1.length ≤ c1_1) (h : water_Flood.f k a0_0 a0_1 l0_2 l1_0 l1_1 = some (r1, r2)) :
  Calls Try.prog 24 #[.agg #[.int .i64 a0_0,.int .i64 a0_1,.slice A0_2 l0_2.length c0_2],.agg #[.slice A1_0 l1_0.length c1_0,.slice A1_1 l1_1.length c1_1]] w fun e w' => ∃ v0_ : Value,e = .returned (.tuple #[v0_,.int .i64 r2]) ∧ Kd.R (Kd.int .i64) 3 w' w.heap.size (fun _ => True) v0_ r1 ∧ Below w.heap.size w w':=by
 have hu24:=Try.underlying24
 have hu26:=Try.underlying26
 have hu52:=Try.underlying52
 have HR0_2:=Aside0.mk hr0_2
 have HC0_2:=Aside0.mk hc0_2
 clear hr0_2 hc0_2
 have HR1_0:=Aside0.mk hr1_0
 have HC1_0:=Aside0.mk hc1_0
 clear hr1_0 hc1_0
 have HR1_1:=Aside0.mk hr1_1
 have HC1_1:=Aside0.mk hc1_1
 clear hr1_1 hc1_1
 have HB:=Aside0.mk (Below.refl w.heap.size w)
 have H : ((water_check.f k a0_0 a0_1 l0_2 l1_0 l1_1).bind fun bt770 => (if bt770.2.2.2.2.2 = 0 then (water_Flood.l0 k ([] : List Int) l1_0 (l1_0.length : Int) 0 bt770.1 bt770.2.1 bt770.2.2.1 bt770.2.2.2.1 bt770.2.2.2.2.1) else (some (([] : List Int),bt770.2.2.2.2.2)))) = some (r1,r2):=h
 clear h
 replace H:=Option.bind_eq_some_iff.mp H
 obtain ⟨⟨t770,t771,t772,t775,t778,t781⟩,A30,H⟩:=H
 replace H : (if t781 = 0 then (water_Flood.l0 k ([] : List Int) l1_0 (l1_0.length : Int) 0 t770 t771 t772 t775 t778) else (some (([] : List Int),t781))) = some (r1,r2):=H
 have A3:=Aside0.mk A30
 clear A30
 by_cases c4 : t781 = 0
 ·rw [if_pos c4] at H
  have c4b0 : (t781 == 0) = true:=beq_iff_eq.mpr c4
  have c4b1 : (t781 != 0) = false:=bne_eq_false_iff_eq.mpr c4
  clear c4
  have H':=Aside0.mk H
  clear H
  go_enter Try.func24,Try.ntmps24
  go_wp2_with (first|go_step3|((with_reducible refine gate_dst (N:=2) rfl ?_);refine box_ev (N:=2) (cs:=#[.int .i64 a0_0,.int .i64 a0_1,.slice A0_2 l0_2.length c0_2]) (t:=24) ?_;intro gb768 hg w5 hbox hb;have BK768:=Aside0.mk (hbox);have GW768 : Aside0 (w.heap.size ≤ gb768):=gsz hg;have GE768:=GW768;replace HB:=Aside0.mk (below_step (hb_) hb);clear hb hbox hg)|((with_reducible refine gate_dst (N:=3) rfl ?_);refine box_ev (N:=3) (cs:=#[.slice A1_0 l1_0.length c1_0,.slice A1_1 l1_1.length c1_1]) (t:=26) ?_;intro gb769 hg w6 hbox hb;have BK769:=Aside0.mk (hbox);have GW769 : Aside0 (w.heap.size ≤ gb769):=gsz hg;have GE769:=GW769;have NB768_769:=nbl BK768 hg;have NB769_768:=nbr BK768 hg;replace BK768:=bkb BK768 hb;replace HB:=Aside0.mk (below_step (hb_) hb);clear hb hbox hg;have hnb7:=NB768_769.out;have hnc7:=NB769_768.out;obtain ⟨hcz8_0,hcz8_1,hcz8_2,hfz8_0,hfz8_1,hfz8_2⟩:=cells3 BK768.out;obtain ⟨hcz9_0,hcz9_1,hfz9_0,hfz9_1⟩:=cells2 BK769.out)|((with_reducible refine gate_callee (f:=44) rfl ?_);refine goesL_ (some 16) rfl rfl Try.func44 (by kernel_rfl) rfl #[.agg #[.int .i64 a0_0,.int .i64 a0_1,.slice A0_2 l0_2.length c0_2],.agg #[.slice A1_0 l1_0.length c1_0,.slice A1_1 l1_1.length c1_1]] rfl (by (try simp only [List.map_toArray,List.map_cons,List.map_nil]);first|done|rfl|(simp only [List.length_drop,List.length_take];rfl)) ?_;(with_reducible refine (water_check.calls k a0_0 a0_1 _ _ l0_2 _ _ l1_0 _ _ l1_1 t770 t771 t772 t775 t778 t781 _ ?side1 ?side2 ?side3 ?side4 ?side5 ?side6 A3.out).mono ?_);(case side1 => exact Kd.C_up (Kd.C_below HR0_2.out HB.out));(case side2 => exact HC0_2.out);(case side3 => exact Kd.C_up (Kd.C_below HR1_0.out HB.out));(case side4 => exact HC1_0.out);(case side5 => exact Kd.C_up (Kd.C_below HR1_1.out HB.out));(case side6 => exact HC1_1.out);rintro e w10 ⟨v773,v776,v779,rfl,ho0,ho1,ho2,hb⟩;refine ⟨_,rfl,?_⟩;have HO774:=rlo ho0;have HO777:=rlo ho1;have HO780:=rlo ho2;replace BK768:=bkb BK768 hb;replace BK769:=bkb BK769 hb;replace HB:=Aside0.mk (below_step (hb_) hb))|((with_reducible refine gate_dst (N:=6) rfl ?_);refine box_ev (N:=6) (cs:=#[.int .i64 0,.int .i64 0,.slice none 0 0,.slice none 0 0,.slice none 0 0]) (t:=52) ?_;intro gb782 hg w11 hbox hb;have BK782:=Aside0.mk (hbox);have GW782 : Aside0 (w.heap.size ≤ gb782):=gsz hg;have GE782:=GW782;have NB768_782:=nbl BK768 hg;have NB782_768:=nbr BK768 hg;have NB769_782:=nbl BK769 hg;have NB782_769:=nbr BK769 hg;replace HO774:=rbw HO774 hb;replace HO777:=rbw HO777 hb;replace HO780:=rbw HO780 hb;replace BK768:=bkb BK768 hb;replace BK769:=bkb BK769 hb;replace HB:=Aside0.mk (below_step (hb_) hb);clear hb hbox hg;have hnb12:=NB782_768.out;have hnc12:=NB768_782.out;have hnb13:=NB782_769.out;have hnc13:=NB769_782.out;obtain ⟨hcz14_0,hcz14_1,hcz14_2,hcz14_3,hcz14_4,hfz14_0,hfz14_1,hfz14_2,hfz14_3,hfz14_4⟩:=cells5 BK782.out;obtain ⟨Ao15,co15,eo15⟩:=Kd.R_slice HO774.out;subst eo15;obtain ⟨Ao16,co16,eo16⟩:=Kd.R_slice HO777.out;subst eo16;obtain ⟨Ao17,co17,eo17⟩:=Kd.R_slice HO780.out;subst eo17;obtain ⟨hcz18_0,hcz18_1,hfz18_0,hfz18_1⟩:=cells2 BK769.out))
  go_loopg [8,25] k (fun kq v8 v25 w' => ∃ (x8_1 : List Int) (x25_1 : Int),v25 = .int .i64 x25_1 ∧ Aside0 (water_Flood.l0 kq x8_1 l1_0 (l1_0.length : Int) x25_1 t770 t771 t772 t775 t778 = some (r1,r2)) ∧ Aside0 (kq ≤ k) ∧ Aside0 (Kd.R (Kd.int .i64) 3 w' w.heap.size (fun k_ => some k_ ≠ ((.slice Ao15 t772.length co15) : Value).ownBlock ∧ some k_ ≠ ((.slice Ao16 t775.length co16) : Value).ownBlock) v8 x8_1) ∧ Aside0 (Kd.R (Kd.int .i64) 3 w' w.heap.size (fun k_ => some k_ ≠ (v8 : Value).ownBlock ∧ some k_ ≠ ((.slice Ao16 t775.length co16) : Value).ownBlock) (.slice Ao15 t772.length co15) t772) ∧ Aside0 (Kd.R (Kd.int .i64) 3 w' w.heap.size (fun k_ => some k_ ≠ (v8 : Value).ownBlock ∧ some k_ ≠ ((.slice Ao15 t772.length co15) : Value).ownBlock) (.slice Ao16 t775.length co16) t775) ∧ Aside0 (Kd.R Kd.bool 4 w' w.heap.size (fun _ => True) (.slice Ao17 t778.length co17) t778) ∧ Aside0 (w'.heap[gb768]? = some (.cells #[.int .i64 a0_0,.int .i64 a0_1,(.slice A0_2 l0_2.length c0_2)] 24 (0,0))) ∧ Aside0 (w'.heap[gb769]? = some (.cells #[(.slice A1_0 l1_0.length c1_0),(.slice A1_1 l1_1.length c1_1)] 26 (0,0))) ∧ Aside0 (w'.heap[gb782]? = some (.cells #[.int .i64 t770,.int .i64 t771,(.slice Ao15 t772.length co15),(.slice Ao16 t775.length co16),(.slice Ao17 t778.length co17)] 52 (0,0))) ∧ Aside0 (Below w.heap.size w w'))
  case atStart => exact ⟨(([] : List Int)),(0),(by first|rfl|(simp;done)|(simp [*];done)),H',⟨Nat.le_refl _⟩,⟨by first|exact Kd.R_nil _ _ _ _ _|exact Kd.N_nil _ _ _ _ _|exact Kd.V_nil _ _ _ _ _|exact Kd.Q_nil _ _ _ _ _|exact Kd.S_nil _ _ _ _ _⟩,⟨by (with_reducible repeat (first|apply Kd.R_alloc|apply Kd.R_drewN|apply Kd.R_drew));exact Kd.R_mono (Kd.R_fars gb782 (Kd.R_types HO774.out BK782.out (by decide)) (fun _ hk => hk.2)) (fun _ hk => ⟨(by simp [Value.ownBlock]),hk.1⟩)⟩,⟨by (with_reducible repeat (first|apply Kd.R_alloc|apply Kd.R_drewN|apply Kd.R_drew));exact Kd.R_mono (Kd.R_fars gb782 (Kd.R_types HO777.out BK782.out (by decide)) (fun _ hk => hk.2)) (fun _ hk => ⟨(by simp [Value.ownBlock]),hk.1⟩)⟩,⟨by (with_reducible repeat (first|apply Kd.R_alloc|apply Kd.R_drewN|apply Kd.R_drew));exact Kd.R_mono (Kd.R_fars gb782 (Kd.R_types HO780.out BK782.out (by decide)) (fun _ hk => hk.2)) (fun _ hk => trivial)⟩,⟨by (with_reducible repeat (first|refine blk_drewN ?_ _|refine blk_drew ?_|refine blk_alloc ?_ _));refine blk_far ?_ NB768_782.out _;(with_reducible repeat (first|refine blk_drewN ?_ _|refine blk_drew ?_|refine blk_alloc ?_ _));refine blk_far ?_ NB768_782.out _;(with_reducible repeat (first|refine blk_drewN ?_ _|refine blk_drew ?_|refine blk_alloc ?_ _));refine blk_far ?_ NB768_782.out _;(with_reducible repeat (first|refine blk_drewN ?_ _|refine blk_drew ?_|refine blk_alloc ?_ _));refine blk_far ?_ NB768_782.out _;(with_reducible repeat (first|refine blk_drewN ?_ _|refine blk_drew ?_|refine blk_alloc ?_ _));refine blk_far ?_ NB768_782.out _;(with_reducible repeat (first|refine blk_drewN ?_ _|refine blk_drew ?_|refine blk_alloc ?_ _));exact BK768.out⟩,⟨by (with_reducible repeat (first|refine blk_drewN ?_ _|refine blk_drew ?_|refine blk_alloc ?_ _));refine blk_far ?_ NB769_782.out _;(with_reducible repeat (first|refine blk_drewN ?_ _|refine blk_drew ?_|refine blk_alloc ?_ _));refine blk_far ?_ NB769_782.out _;(with_reducible repeat (first|refine blk_drewN ?_ _|refine blk_drew ?_|refine blk_alloc ?_ _));refine blk_far ?_ NB769_782.out _;(with_reducible repeat (first|refine blk_drewN ?_ _|refine blk_drew ?_|refine blk_alloc ?_ _));refine blk_far ?_ NB769_782.out _;(with_reducible repeat (first|refine blk_drewN ?_ _|refine blk_drew ?_|refine blk_alloc ?_ _));refine blk_far ?_ NB769_782.out _;(with_reducible repeat (first|refine blk_drewN ?_ _|refine blk_drew ?_|refine blk_alloc ?_ _));exact BK769.out⟩,⟨by (with_reducible repeat (first|refine blk_drewN ?_ _|refine blk_drew ?_|refine blk_alloc ?_ _));exact blk_puts5 (blk_up BK782.out)⟩,⟨hb_⟩⟩
  case round =>
   clear H'
   obtain ⟨x8_1,x25_1,rfl,HA,HK1,HO_8,HO_783002,HO_783003,HO_783004,BK768,BK769,BK782,HB⟩:=hrel
   cases gk with
   | zero => exact absurd HA.out (by simp [water_Flood.l0])
   | succ k1 =>
    have H:=HA.out
    clear HA
    simp only [water_Flood.l0] at H
    by_cases c19 : x25_1 < (l1_0.length : Int)
    ·rw [if_pos c19] at H
     have c19b0 : decide (x25_1 < (l1_0.length : Int)) = true:=decide_eq_true c19
     clear c19
     by_cases c20 : 0 ≤ x25_1
     ·rw [if_pos c20] at H
      have c20b0 : decide (0 ≤ x25_1) = true:=decide_eq_true c20
      clear c20
      by_cases c21 : x25_1 < (l1_0.length : Int)
      ·rw [if_pos c21] at H
       have c21b0 : decide (x25_1 < (l1_0.length : Int)) = true:=decide_eq_true c21
       clear c21
       have HC22:=Aside0.mk H
       clear H
       have p783 : 0 ≤ (x25_1 : Int):=of_decide_eq_true (by first|(with_reducible assumption)|assumption)
       have q783 : x25_1 < (l1_0.length : Int):=of_decide_eq_true (by first|(with_reducible assumption)|assumption)
       obtain ⟨ad783,e783,hx783_0⟩:=Kd.at_int HR1_0.out x25_1 p783 q783
       cases e783
       replace hx783_0:=(HB.out.cell (World.block_lt_of_cell? w _ hx783_0)).trans hx783_0
       replace p783:=eq_true p783
       replace q783:=eq_true q783
       go_upto_region 8 with (fail)
       go_cut [46] (fun v46 wc => ∃ (kq : Nat) (x46_21 : Bool),v46 = .bool x46_21 ∧ Aside0 (water_Flood.j1 kq x8_1 x25_1 l1_0 (l1_0.length : Int) x25_1 x46_21 t770 t771 t772 t775 t778 = some (r1,r2)) ∧ Aside0 (kq ≤ k1) ∧ Aside0 (Kd.R (Kd.int .i64) 3 wc w.heap.size (fun k_ => some k_ ≠ ((.slice Ao15 t772.length co15) : Value).ownBlock ∧ some k_ ≠ ((.slice Ao16 t775.length co16) : Value).ownBlock) u8 x8_1) ∧ Aside0 (Kd.R (Kd.int .i64) 3 wc w.heap.size (fun k_ => some k_ ≠ (u8 : Value).ownBlock ∧ some k_ ≠ ((.slice Ao16 t775.length co16) : Value).ownBlock) (.slice Ao15 t772.length co15) t772) ∧ Aside0 (Kd.R (Kd.int .i64) 3 wc w.heap.size (fun k_ => some k_ ≠ (u8 : Value).ownBlock ∧ some k_ ≠ ((.slice Ao15 t772.length co15) : Value).ownBlock) (.slice Ao16 t775.length co16) t775) ∧ Aside0 (Kd.R Kd.bool 4 wc w.heap.size (fun _ => True) (.slice Ao17 t778.length co17) t778) ∧ Aside0 (wc.heap[gb768]? = some (.cells #[.int .i64 a0_0,.int .i64 a0_1,(.slice A0_2 l0_2.length c0_2)] 24 (0,0))) ∧ Aside0 (wc.heap[gb769]? = some (.cells #[(.slice (some ad783) l1_0.length c1_0),(.slice A1_1 l1_1.length c1_1)] 26 (0,0))) ∧ Aside0 (wc.heap[gb782]? = some (.cells #[.int .i64 t770,.int .i64 t771,(.slice Ao15 t772.length co15),(.slice Ao16 t775.length co16),(.slice Ao17 t778.length co17)] 52 (0,0))) ∧ Aside0 (Below w.heap.size w wc))
       case first =>
        have H:=HC22.out
        clear HC22
        by_cases c23 : x25_1 < (t778.length : Int)
        ·rw [if_pos c23] at H
         have c23b0 : decide (x25_1 < (t778.length : Int)) = true:=decide_eq_true c23
         clear c23
         (first|rw [c23b0]|(simp only [i64_w,i32_w];rw [c23b0])|skip)
         obtain ⟨bq24,hbq24⟩ : ∃ b_ : Bool,b_ = (rdOf false t778 x25_1):=⟨_,rfl⟩
         replace H : (if bq24 = true then (water_Flood.j1 k1 x8_1 x25_1 l1_0 (l1_0.length : Int) x25_1 true t770 t771 t772 t775 t778) else (if (rd l1_0 x25_1) = 0 then (if x25_1 < (t775.length : Int) then (water_Flood.j1 k1 x8_1 x25_1 l1_0 (l1_0.length : Int) x25_1 (decide ((rd t775 x25_1) > 2)) t770 t771 t772 t775 t778) else (none)) else (water_Flood.j1 k1 x8_1 x25_1 l1_0 (l1_0.length : Int) x25_1 true t770 t771 t772 t775 t778))) = some (r1,r2):=by rw [← hbq24] at H;exact H
         have Nbq24:=Aside0.mk hbq24
         clear hbq24
         by_cases c25 : bq24 = true
         ·subst c25
          have H1 : (water_Flood.j1 k1 x8_1 x25_1 l1_0 (l1_0.length : Int) x25_1 true t770 t771 t772 t775 t778) = some (r1,r2):=by rw [if_pos rfl] at H;exact H
          clear H
          have H:=H1
          clear H1
          have H':=Aside0.mk H
          clear H
          have hnb26:=NB782_768.out
          have hnc26:=NB768_782.out
          have hnb27:=NB782_769.out
          have hnc27:=NB769_782.out
          obtain ⟨hcz28_0,hcz28_1,hcz28_2,hcz28_3,hcz28_4,hfz28_0,hfz28_1,hfz28_2,hfz28_3,hfz28_4⟩:=cells5 BK782.out
          have p784 : 0 ≤ (x25_1 : Int):=of_decide_eq_true (by first|(with_reducible assumption)|assumption)
          have q784 : x25_1 < (t778.length : Int):=of_decide_eq_true (by first|(with_reducible assumption)|assumption)
          obtain ⟨ad784,e784,hx784_0⟩:=Kd.at_bool (Kd.R_reads' HO_783004.out).2.2 x25_1 p784 q784
          (try rw [← Nbq24.out] at hx784_0)
          cases e784
          replace p784:=eq_true p784
          replace q784:=eq_true q784
          go_wp2
          go_meet
          case rel => exact ⟨_,(true),(by first|rfl|(simp;done)|(simp [*];done)),H',⟨by have:=HK1.out;first|omega|exact Nat.le_refl _⟩,⟨Kd.R_up HO_8.out⟩,⟨Kd.R_up HO_783002.out⟩,⟨Kd.R_up HO_783003.out⟩,⟨Kd.R_up HO_783004.out⟩,⟨blk_up BK768.out⟩,⟨blk_up BK769.out⟩,⟨blk_up BK782.out⟩,⟨hb_⟩⟩
         ·replace c25:=Bool.eq_false_iff.mpr c25
          subst c25
          have H1 : (if (rd l1_0 x25_1) = 0 then (if x25_1 < (t775.length : Int) then (water_Flood.j1 k1 x8_1 x25_1 l1_0 (l1_0.length : Int) x25_1 (decide ((rd t775 x25_1) > 2)) t770 t771 t772 t775 t778) else (none)) else (water_Flood.j1 k1 x8_1 x25_1 l1_0 (l1_0.length : Int) x25_1 true t770 t771 t772 t775 t778)) = some (r1,r2):=by rw [if_neg (show ¬ (false = true) by decide)] at H;exact H
          clear H
          have H:=H1
          clear H1
          by_cases c29 : (rd l1_0 x25_1) = 0
          ·rw [if_pos c29] at H
           have c29b0 : ((rd l1_0 x25_1) == 0) = true:=beq_iff_eq.mpr c29
           have c29b1 : ((rd l1_0 x25_1) != 0) = false:=bne_eq_false_iff_eq.mpr c29
           clear c29
           by_cases c30 : x25_1 < (t775.length : Int)
           ·rw [if_pos c30] at H
            have c30b0 : decide (x25_1 < (t775.length : Int)) = true:=decide_eq_true c30
            clear c30
            have H':=Aside0.mk H
            clear H
            have hnb31:=NB782_768.out
            have hnc31:=NB768_782.out
            have hnb32:=NB782_769.out
            have hnc32:=NB769_782.out
            obtain ⟨hcz33_0,hcz33_1,hcz33_2,hcz33_3,hcz33_4,hfz33_0,hfz33_1,hfz33_2,hfz33_3,hfz33_4⟩:=cells5 BK782.out
            have p784 : 0 ≤ (x25_1 : Int):=of_decide_eq_true (by first|(with_reducible assumption)|assumption)
            have q784 : x25_1 < (t778.length : Int):=of_decide_eq_true (by first|(with_reducible assumption)|assumption)
            obtain ⟨ad784,e784,hx784_0⟩:=Kd.at_bool (Kd.R_reads' HO_783004.out).2.2 x25_1 p784 q784
            (try rw [← Nbq24.out] at hx784_0)
            cases e784
            replace p784:=eq_true p784
            replace q784:=eq_true q784
            have p785 : 0 ≤ (x25_1 : Int):=of_decide_eq_true (by first|(with_reducible assumption)|assumption)
            have q785 : x25_1 < (t775.length : Int):=of_decide_eq_true (by first|(with_reducible assumption)|assumption)
            obtain ⟨ad785,e785,hx785_0⟩:=Kd.at_int (Kd.R_reads' HO_783003.out).2.2 x25_1 p785 q785
            cases e785
            replace p785:=eq_true p785
            replace q785:=eq_true q785
            go_wp2
            go_meet
            case rel => exact ⟨_,(decide ((rd t775 x25_1) > 2)),(by first|rfl|(simp;done)|(simp [*];done)),H',⟨by have:=HK1.out;first|omega|exact Nat.le_refl _⟩,⟨Kd.R_up HO_8.out⟩,⟨Kd.R_up HO_783002.out⟩,⟨Kd.R_up HO_783003.out⟩,⟨Kd.R_up HO_783004.out⟩,⟨blk_up BK768.out⟩,⟨blk_up BK769.out⟩,⟨blk_up BK782.out⟩,⟨hb_⟩⟩
           ·rw [if_neg c30] at H
            exact absurd H (by simp)
          ·rw [if_neg c29] at H
           have c29b0 : ((rd l1_0 x25_1) == 0) = false:=beq_eq_false_iff_ne.mpr c29
           have c29b1 : ((rd l1_0 x25_1) != 0) = true:=bne_iff_ne.mpr c29
           have H':=Aside0.mk H
           clear H
           have hnb34:=NB782_768.out
           have hnc34:=NB768_782.out
           have hnb35:=NB782_769.out
           have hnc35:=NB769_782.out
           obtain ⟨hcz36_0,hcz36_1,hcz36_2,hcz36_3,hcz36_4,hfz36_0,hfz36_1,hfz36_2,hfz36_3,hfz36_4⟩:=cells5 BK782.out
           have p784 : 0 ≤ (x25_1 : Int):=of_decide_eq_true (by first|(with_reducible assumption)|assumption)
           have q784 : x25_1 < (t778.length : Int):=of_decide_eq_true (by first|(with_reducible assumption)|assumption)
           obtain ⟨ad784,e784,hx784_0⟩:=Kd.at_bool (Kd.R_reads' HO_783004.out).2.2 x25_1 p784 q784
           (try rw [← Nbq24.out] at hx784_0)
           cases e784
           replace p784:=eq_true p784
           replace q784:=eq_true q784
           go_wp2
           go_meet
           case rel => exact ⟨_,(true),(by first|rfl|(simp;done)|(simp [*];done)),H',⟨by have:=HK1.out;first|omega|exact Nat.le_refl _⟩,⟨Kd.R_up HO_8.out⟩,⟨Kd.R_up HO_783002.out⟩,⟨Kd.R_up HO_783003.out⟩,⟨Kd.R_up HO_783004.out⟩,⟨blk_up BK768.out⟩,⟨blk_up BK769.out⟩,⟨blk_up BK782.out⟩,⟨hb_⟩⟩
        ·rw [if_neg c23] at H
         exact absurd H (by simp)
       case rest =>
        clear HC22
        obtain ⟨kq,x46_21,rfl,HA,HJ21,HO_8,HO_783002,HO_783003,HO_783004,BK768,BK769,BK782,HB⟩:=hcut
        cases kq with
        | zero => exact absurd HA.out (by simp [water_Flood.j1])
        | succ kj21 =>
         have H:=HA.out
         clear HA
         simp only [water_Flood.j1] at H
         by_cases c37 : x46_21 = true
         ·subst c37
          have H1 : (water_Flood.l0 kj21 x8_1 l1_0 (l1_0.length : Int) (wrap64 (x25_1 + 1)) t770 t771 t772 t775 t778) = some (r1,r2):=by rw [if_pos rfl] at H;exact H
          clear H
          have H:=H1
          clear H1
          have H':=Aside0.mk H
          clear H
          go_wp2
          go_roundg kj21
          case measure => have:=HK1.out;have:=HJ21.out;omega
          case rel => exact ⟨(x8_1),(wrap64 (x25_1 + 1)),(by first|rfl|(simp;done)|(simp [*];done)),H',⟨by have:=HK1.out;have:=HJ21.out;omega⟩,⟨Kd.R_up HO_8.out⟩,⟨Kd.R_up HO_783002.out⟩,⟨Kd.R_up HO_783003.out⟩,⟨Kd.R_up HO_783004.out⟩,⟨blk_up BK768.out⟩,⟨blk_up BK769.out⟩,⟨blk_up BK782.out⟩,⟨hb_⟩⟩
         ·replace c37:=Bool.eq_false_iff.mpr c37
          subst c37
          have H1 : (water_Flood.l1 kj21 x8_1 x25_1 l1_0 (l1_0.length : Int) x25_1 0 t770 t771 t772 t775 t778) = some (r1,r2):=by rw [if_neg (show ¬ (false = true) by decide)] at H;exact H
          clear H
          have H:=H1
          clear H1
          have H':=Aside0.mk H
          clear H
          go_wp2
          go_loopg [8,47] kj21 (fun kq v8 v47 w' => ∃ (x8_3 : List Int) (x47_3 : Int),v47 = .int .i64 x47_3 ∧ Aside0 (water_Flood.l1 kq x8_3 x25_1 l1_0 (l1_0.length : Int) x25_1 x47_3 t770 t771 t772 t775 t778 = some (r1,r2)) ∧ Aside0 (kq ≤ kj21) ∧ Aside0 (Kd.R (Kd.int .i64) 3 w' w.heap.size (fun k_ => some k_ ≠ ((.slice Ao15 t772.length co15) : Value).ownBlock ∧ some k_ ≠ ((.slice Ao16 t775.length co16) : Value).ownBlock) v8 x8_3) ∧ Aside0 (Kd.R (Kd.int .i64) 3 w' w.heap.size (fun k_ => some k_ ≠ (v8 : Value).ownBlock ∧ some k_ ≠ ((.slice Ao16 t775.length co16) : Value).ownBlock) (.slice Ao15 t772.length co15) t772) ∧ Aside0 (Kd.R (Kd.int .i64) 3 w' w.heap.size (fun k_ => some k_ ≠ (v8 : Value).ownBlock ∧ some k_ ≠ ((.slice Ao15 t772.length co15) : Value).ownBlock) (.slice Ao16 t775.length co16) t775) ∧ Aside0 (Kd.R Kd.bool 4 w' w.heap.size (fun _ => True) (.slice Ao17 t778.length co17) t778) ∧ Aside0 (w'.heap[gb768]? = some (.cells #[.int .i64 a0_0,.int .i64 a0_1,(.slice A0_2 l0_2.length c0_2)] 24 (0,0))) ∧ Aside0 (w'.heap[gb769]? = some (.cells #[(.slice (some ad783) l1_0.length c1_0),(.slice A1_1 l1_1.length c1_1)] 26 (0,0))) ∧ Aside0 (w'.heap[gb782]? = some (.cells #[.int .i64 t770,.int .i64 t771,(.slice Ao15 t772.length co15),(.slice Ao16 t775.length co16),(.slice Ao17 t778.length co17)] 52 (0,0))) ∧ Aside0 (Below w.heap.size w w'))
          case atStart => exact ⟨(x8_1),(0),(by first|rfl|(simp;done)|(simp [*];done)),H',⟨Nat.le_refl _⟩,⟨Kd.R_up HO_8.out⟩,⟨Kd.R_up HO_783002.out⟩,⟨Kd.R_up HO_783003.out⟩,⟨Kd.R_up HO_783004.out⟩,⟨blk_up BK768.out⟩,⟨blk_up BK769.out⟩,⟨blk_up BK782.out⟩,⟨hb_⟩⟩
          case round =>
           clear H'
           obtain ⟨x8_3,x47_3,rfl,HA,HK3,HO_8,HO_783002,HO_783003,HO_783004,BK768,BK769,BK782,HB⟩:=hrel
           cases gk with
           | zero => exact absurd HA.out (by simp [water_Flood.l1])
           | succ k3 =>
            have H:=HA.out
            clear HA
            simp only [water_Flood.l1] at H
            by_cases c38 : x47_3 < 4
            ·rw [if_pos c38] at H
             have c38b0 : decide (x47_3 < 4) = true:=decide_eq_true c38
             clear c38
             replace H:=Option.bind_eq_some_iff.mp H
             obtain ⟨t786,A390,H⟩:=H
             replace H : (if t786 ≥ 0 then (if 0 ≤ t786 then (if t786 < (t778.length : Int) then (if rdOf false t778 t786 = true then (if x8_3.length < 17592186044416 then (water_Flood.l0 k3 (x8_3 ++ [x25_1]) l1_0 (l1_0.length : Int) (wrap64 (x25_1 + 1)) t770 t771 t772 t775 t778) else (none)) else (water_Flood.l1 k3 x8_3 x25_1 l1_0 (l1_0.length : Int) x25_1 (wrap64 (x47_3 + 1)) t770 t771 t772 t775 t778)) else (none)) else (none)) else (water_Flood.l1 k3 x8_3 x25_1 l1_0 (l1_0.length : Int) x25_1 (wrap64 (x47_3 + 1)) t770 t771 t772 t775 t778)) = some (r1,r2):=H
             have A39:=Aside0.mk A390
             clear A390
             by_cases c40 : t786 ≥ 0
             ·rw [if_pos c40] at H
              have c40b0 : decide (0 ≤ t786) = true:=decide_eq_true c40
              clear c40
              by_cases c41 : 0 ≤ t786
              ·rw [if_pos c41] at H
               have c41b0 : decide (0 ≤ t786) = true:=decide_eq_true c41
               clear c41
               by_cases c42 : t786 < (t778.length : Int)
               ·rw [if_pos c42] at H
                have c42b0 : decide (t786 < (t778.length : Int)) = true:=decide_eq_true c42
                clear c42
                obtain ⟨bq43,hbq43⟩ : ∃ b_ : Bool,b_ = (rdOf false t778 t786):=⟨_,rfl⟩
                replace H : (if bq43 = true then (if x8_3.length < 17592186044416 then (water_Flood.l0 k3 (x8_3 ++ [x25_1]) l1_0 (l1_0.length : Int) (wrap64 (x25_1 + 1)) t770 t771 t772 t775 t778) else (none)) else (water_Flood.l1 k3 x8_3 x25_1 l1_0 (l1_0.length : Int) x25_1 (wrap64 (x47_3 + 1)) t770 t771 t772 t775 t778)) = some (r1,r2):=by rw [← hbq43] at H;exact H
                have Nbq43:=Aside0.mk hbq43
                clear hbq43
                by_cases c44 : bq43 = true
                ·subst c44
                 have H1 : (if x8_3.length < 17592186044416 then (water_Flood.l0 k3 (x8_3 ++ [x25_1]) l1_0 (l1_0.length : Int) (wrap64 (x25_1 + 1)) t770 t771 t772 t775 t778) else (none)) = some (r1,r2):=by rw [if_pos rfl] at H;exact H
                 clear H
                 have H:=H1
                 clear H1
                 by_cases c45 : x8_3.length < 17592186044416
                 ·rw [if_pos c45] at H
                  have LMc45:=Aside0.mk c45
                  clear c45
                  obtain ⟨y788,hy788⟩ : ∃ y_ : List Int,y_ = (x8_3 ++ [x25_1]):=⟨_,rfl⟩
                  replace H : (water_Flood.l0 k3 y788 l1_0 (l1_0.length : Int) (wrap64 (x25_1 + 1)) t770 t771 t772 t775 t778) = some (r1,r2):=by first|(rw [hy788];with_reducible exact H)|(have H2_:=(Option.bind_some _ _).symm.trans H;rw [hy788];with_reducible exact H2_)|(have H2_:=(Option.bind_some _ _).symm.trans H;with_reducible exact H2_)|with_reducible exact H|(rw [hy788];exact H)|exact H
                  have Ny788:=Aside0.mk hy788
                  clear hy788
                  have H':=Aside0.mk H
                  clear H
                  have hnb46:=NB782_768.out
                  have hnc46:=NB768_782.out
                  have hnb47:=NB782_769.out
                  have hnc47:=NB769_782.out
                  obtain ⟨hcz48_0,hcz48_1,hcz48_2,hcz48_3,hcz48_4,hfz48_0,hfz48_1,hfz48_2,hfz48_3,hfz48_4⟩:=cells5 BK782.out
                  go_wp2_with (first|go_step3|((with_reducible refine gate_callee (f:=46) rfl ?_);refine goesL_ (some 53) rfl rfl Try.func46 (by kernel_rfl) rfl #[.agg #[.int .i64 t770,.int .i64 t771,.slice Ao15 t772.length co15,.slice Ao16 t775.length co16,.slice Ao17 t778.length co17],.int .i64 x25_1,.int .i64 x47_3] rfl (by (try simp only [List.map_toArray,List.map_cons,List.map_nil]);first|done|rfl|(simp only [List.length_drop,List.length_take];rfl)) ?_;(with_reducible refine (water_ground_beyond.calls k3 t770 t771 _ _ t772 _ _ t775 _ _ t778 x25_1 x47_3 t786 _ ?side1 ?side2 ?side3 ?side4 ?side5 ?side6 A39.out).mono ?_);(case side1 => exact Kd.C_up (Kd.R_reads' HO_783002.out).2.2);(case side2 => exact (Kd.R_reads' HO_783002.out).2.1);(case side3 => exact Kd.C_up (Kd.R_reads' HO_783003.out).2.2);(case side4 => exact (Kd.R_reads' HO_783003.out).2.1);(case side5 => exact Kd.C_up (Kd.R_reads' HO_783004.out).2.2);(case side6 => exact (Kd.R_reads' HO_783004.out).2.1);rintro e w49 ⟨rfl,hb⟩;refine ⟨_,rfl,?_⟩;replace HO_8:=rbw HO_8 hb;replace HO_783002:=rbw HO_783002 hb;replace HO_783003:=rbw HO_783003 hb;replace HO_783004:=rbw HO_783004 hb;replace BK768:=bkb BK768 hb;replace BK769:=bkb BK769 hb;replace BK782:=bkb BK782 hb;replace HB:=Aside0.mk (below_step (hb_) hb);obtain ⟨hcz50_0,hcz50_1,hcz50_2,hcz50_3,hcz50_4,hfz50_0,hfz50_1,hfz50_2,hfz50_3,hfz50_4⟩:=cells5 BK782.out;have p787 : 0 ≤ (t786 : Int):=of_decide_eq_true (by first|(with_reducible assumption)|assumption);have q787 : t786 < (t778.length : Int):=of_decide_eq_true (by first|(with_reducible assumption)|assumption);obtain ⟨ad787,e787,hx787_0⟩:=Kd.at_bool (Kd.R_reads' HO_783004.out).2.2 t786 p787 q787;(try rw [← Nbq43.out] at hx787_0);cases e787;replace p787:=eq_true p787;replace q787:=eq_true q787)|((with_reducible refine gate_builtin (b:=.append) (xs:=#[.tmp 63,.tmp 65]) rfl ?_);at_builtin;refine Kd.R_append (Kd.int .i64) (w0:=w) w.heap.size rfl (.tmp 63) (.tmp 65) 22 3 (.int .i64 0) 8 rfl Try.underlying22 info3 rfl (by decide) (by omega) u8 x8_3 x25_1 [.int .i64 x25_1] (fun k_ => some k_ ≠ (.slice Ao15 t772.length co15 : Value).ownBlock ∧ some k_ ≠ (.slice Ao16 t775.length co16 : Value).ownBlock) (fun _ => False) rfl rfl ?aP (fun _ hk => hk.elim) ?aF ?aO ?aB ?aS ?aL ?_;(case aP => exact rfl);(case aB => exact (hb_));(case aF => exact (fun k_ hk => ⟨Kd.fresh' (Kd.R_lt (Kd.R_up HO_783002.out)) k_ hk,Kd.fresh' (Kd.R_lt (Kd.R_up HO_783003.out)) k_ hk⟩));(case aO => exact (Kd.R_up HO_8.out));(case aS => exact (below_size (hb_)));(case aL => have:=LMc45.out;omega);intro v789 w51 ho hb hg hat;rw [← Ny788.out] at ho;have HO790:=Aside0.mk (ho);replace HO_783002:=Aside0.mk (Kd.R_after (ok:=(fun k_ => some k_ ≠ (.slice Ao16 t775.length co16 : Value).ownBlock)) (by (with_reducible repeat (first|apply Kd.R_alloc|apply Kd.R_drewN|apply Kd.R_drew));exact Kd.R_mono HO_783002.out (fun _ hk => ⟨hk.2,hk.1⟩)) hg hat);replace HO_783003:=Aside0.mk (Kd.R_after (ok:=(fun k_ => some k_ ≠ (.slice Ao15 t772.length co15 : Value).ownBlock)) (by (with_reducible repeat (first|apply Kd.R_alloc|apply Kd.R_drewN|apply Kd.R_drew));exact Kd.R_mono HO_783003.out (fun _ hk => ⟨hk.2,hk.1⟩)) hg hat);replace HO_783004:=Aside0.mk (Kd.R_over' (Kd.R_up HO_783004.out) (Kd.R_typed (Kd.R_up HO_8.out)) (by decide) hg);replace BK768:=Aside0.mk (blk_grown (blk_up BK768.out) hg (Kd.R_ne HO_8.out BK768.out (by decide)));replace BK769:=Aside0.mk (blk_grown (blk_up BK769.out) hg (Kd.R_ne HO_8.out BK769.out (by decide)));replace BK782:=Aside0.mk (blk_grown (blk_up BK782.out) hg (Kd.R_ne HO_8.out BK782.out (by decide)));replace HB:=Aside0.mk (hb);clear HO_8;clear ho hb hg hat))
                  go_roundg k3
                  case measure => have:=HK1.out;have:=HJ21.out;have:=HK3.out;omega
                  case rel => exact ⟨(y788),(wrap64 (x25_1 + 1)),(by first|rfl|(simp;done)|(simp [*];done)),H',⟨by have:=HK1.out;have:=HJ21.out;have:=HK3.out;omega⟩,⟨Kd.R_up HO790.out⟩,⟨by (with_reducible repeat (first|apply Kd.R_alloc|apply Kd.R_drewN|apply Kd.R_drew));exact Kd.R_mono HO_783002.out (fun _ hk => ⟨hk.2,hk.1⟩)⟩,⟨by (with_reducible repeat (first|apply Kd.R_alloc|apply Kd.R_drewN|apply Kd.R_drew));exact Kd.R_mono HO_783003.out (fun _ hk => ⟨hk.2,hk.1⟩)⟩,⟨Kd.R_up HO_783004.out⟩,⟨blk_up BK768.out⟩,⟨blk_up BK769.out⟩,⟨blk_up BK782.out⟩,⟨hb_⟩⟩
                 ·rw [if_neg c45] at H
                  exact absurd H (by simp)
                ·replace c44:=Bool.eq_false_iff.mpr c44
                 subst c44
                 have H1 : (water_Flood.l1 k3 x8_3 x25_1 l1_0 (l1_0.length : Int) x25_1 (wrap64 (x47_3 + 1)) t770 t771 t772 t775 t778) = some (r1,r2):=by rw [if_neg (show ¬ (false = true) by decide)] at H;exact H
                 clear H
                 have H:=H1
                 clear H1
                 have H':=Aside0.mk H
                 clear H
                 have hnb52:=NB782_768.out
                 have hnc52:=NB768_782.out
                 have hnb53:=NB782_769.out
                 have hnc53:=NB769_782.out
                 obtain ⟨hcz54_0,hcz54_1,hcz54_2,hcz54_3,hcz54_4,hfz54_0,hfz54_1,hfz54_2,hfz54_3,hfz54_4⟩:=cells5 BK782.out
                 go_wp2_with (first|go_step3|((with_reducible refine gate_callee (f:=46) rfl ?_);refine goesL_ (some 53) rfl rfl Try.func46 (by kernel_rfl) rfl #[.agg #[.int .i64 t770,.int .i64 t771,.slice Ao15 t772.length co15,.slice Ao16 t775.length co16,.slice Ao17 t778.length co17],.int .i64 x25_1,.int .i64 x47_3] rfl (by (try simp only [List.map_toArray,List.map_cons,List.map_nil]);first|done|rfl|(simp only [List.length_drop,List.length_take];rfl)) ?_;(with_reducible refine (water_ground_beyond.calls k3 t770 t771 _ _ t772 _ _ t775 _ _ t778 x25_1 x47_3 t786 _ ?side1 ?side2 ?side3 ?side4 ?side5 ?side6 A39.out).mono ?_);(case side1 => exact Kd.C_up (Kd.R_reads' HO_783002.out).2.2);(case side2 => exact (Kd.R_reads' HO_783002.out).2.1);(case side3 => exact Kd.C_up (Kd.R_reads' HO_783003.out).2.2);(case side4 => exact (Kd.R_reads' HO_783003.out).2.1);(case side5 => exact Kd.C_up (Kd.R_reads' HO_783004.out).2.2);(case side6 => exact (Kd.R_reads' HO_783004.out).2.1);rintro e w55 ⟨rfl,hb⟩;refine ⟨_,rfl,?_⟩;replace HO_8:=rbw HO_8 hb;replace HO_783002:=rbw HO_783002 hb;replace HO_783003:=rbw HO_783003 hb;replace HO_783004:=rbw HO_783004 hb;replace BK768:=bkb BK768 hb;replace BK769:=bkb BK769 hb;replace BK782:=bkb BK782 hb;replace HB:=Aside0.mk (below_step (hb_) hb);obtain ⟨hcz56_0,hcz56_1,hcz56_2,hcz56_3,hcz56_4,hfz56_0,hfz56_1,hfz56_2,hfz56_3,hfz56_4⟩:=cells5 BK782.out;have p787 : 0 ≤ (t786 : Int):=of_decide_eq_true (by first|(with_reducible assumption)|assumption);have q787 : t786 < (t778.length : Int):=of_decide_eq_true (by first|(with_reducible assumption)|assumption);obtain ⟨ad787,e787,hx787_0⟩:=Kd.at_bool (Kd.R_reads' HO_783004.out).2.2 t786 p787 q787;(try rw [← Nbq43.out] at hx787_0);cases e787;replace p787:=eq_true p787;replace q787:=eq_true q787))
                 go_roundg k3
                 case measure => have:=HK1.out;have:=HJ21.out;have:=HK3.out;omega
                 case rel => exact ⟨(x8_3),(wrap64 (x47_3 + 1)),(by first|rfl|(simp;done)|(simp [*];done)),H',⟨by have:=HK1.out;have:=HJ21.out;have:=HK3.out;omega⟩,⟨Kd.R_up HO_8.out⟩,⟨Kd.R_up HO_783002.out⟩,⟨Kd.R_up HO_783003.out⟩,⟨Kd.R_up HO_783004.out⟩,⟨blk_up BK768.out⟩,⟨blk_up BK769.out⟩,⟨blk_up BK782.out⟩,⟨hb_⟩⟩
               ·rw [if_neg c42] at H
                exact absurd H (by simp)
              ·rw [if_neg c41] at H
               exact absurd H (by simp)
             ·rw [if_neg c40] at H
              have c40b0 : decide (0 ≤ t786) = false:=decide_eq_false c40
              clear c40
              have H':=Aside0.mk H
              clear H
              have hnb57:=NB782_768.out
              have hnc57:=NB768_782.out
              have hnb58:=NB782_769.out
              have hnc58:=NB769_782.out
              obtain ⟨hcz59_0,hcz59_1,hcz59_2,hcz59_3,hcz59_4,hfz59_0,hfz59_1,hfz59_2,hfz59_3,hfz59_4⟩:=cells5 BK782.out
              go_wp2_with (first|go_step3|((with_reducible refine gate_callee (f:=46) rfl ?_);refine goesL_ (some 53) rfl rfl Try.func46 (by kernel_rfl) rfl #[.agg #[.int .i64 t770,.int .i64 t771,.slice Ao15 t772.length co15,.slice Ao16 t775.length co16,.slice Ao17 t778.length co17],.int .i64 x25_1,.int .i64 x47_3] rfl (by (try simp only [List.map_toArray,List.map_cons,List.map_nil]);first|done|rfl|(simp only [List.length_drop,List.length_take];rfl)) ?_;(with_reducible refine (water_ground_beyond.calls k3 t770 t771 _ _ t772 _ _ t775 _ _ t778 x25_1 x47_3 t786 _ ?side1 ?side2 ?side3 ?side4 ?side5 ?side6 A39.out).mono ?_);(case side1 => exact Kd.C_up (Kd.R_reads' HO_783002.out).2.2);(case side2 => exact (Kd.R_reads' HO_783002.out).2.1);(case side3 => exact Kd.C_up (Kd.R_reads' HO_783003.out).2.2);(case side4 => exact (Kd.R_reads' HO_783003.out).2.1);(case side5 => exact Kd.C_up (Kd.R_reads' HO_783004.out).2.2);(case side6 => exact (Kd.R_reads' HO_783004.out).2.1);rintro e w60 ⟨rfl,hb⟩;refine ⟨_,rfl,?_⟩;replace HO_8:=rbw HO_8 hb;replace HO_783002:=rbw HO_783002 hb;replace HO_783003:=rbw HO_783003 hb;replace HO_783004:=rbw HO_783004 hb;replace BK768:=bkb BK768 hb;replace BK769:=bkb BK769 hb;replace BK782:=bkb BK782 hb;replace HB:=Aside0.mk (below_step (hb_) hb)))
              go_roundg k3
              case measure => have:=HK1.out;have:=HJ21.out;have:=HK3.out;omega
              case rel => exact ⟨(x8_3),(wrap64 (x47_3 + 1)),(by first|rfl|(simp;done)|(simp [*];done)),H',⟨by have:=HK1.out;have:=HJ21.out;have:=HK3.out;omega⟩,⟨Kd.R_up HO_8.out⟩,⟨Kd.R_up HO_783002.out⟩,⟨Kd.R_up HO_783003.out⟩,⟨Kd.R_up HO_783004.out⟩,⟨blk_up BK768.out⟩,⟨blk_up BK769.out⟩,⟨blk_up BK782.out⟩,⟨hb_⟩⟩
            ·rw [if_neg c38] at H
             have c38b0 : decide (x47_3 < 4) = false:=decide_eq_false c38
             clear c38
             have H':=Aside0.mk H
             clear H
             go_wp2
             go_roundg k3
             case measure => have:=HK1.out;have:=HJ21.out;have:=HK3.out;omega
             case rel => exact ⟨(x8_3),(wrap64 (x25_1 + 1)),(by first|rfl|(simp;done)|(simp [*];done)),H',⟨by have:=HK1.out;have:=HJ21.out;have:=HK3.out;omega⟩,⟨Kd.R_up HO_8.out⟩,⟨Kd.R_up HO_783002.out⟩,⟨Kd.R_up HO_783003.out⟩,⟨Kd.R_up HO_783004.out⟩,⟨blk_up BK768.out⟩,⟨blk_up BK769.out⟩,⟨blk_up BK782.out⟩,⟨hb_⟩⟩
      ·rw [if_neg c21] at H
       exact absurd H (by simp)
     ·rw [if_neg c20] at H
      exact absurd H (by simp)
    ·rw [if_neg c19] at H
     have c19b0 : decide (x25_1 < (l1_0.length : Int)) = false:=decide_eq_false c19
     clear c19
     simp only [Option.some.injEq,Prod.mk.injEq] at H
     obtain ⟨rfl,rfl⟩:=H
     go_wp2
     (try rw [Exit.noGoto_ret]);go_ret2
     exact ⟨_,by first|rfl|(simp [errW_none,errW_some] <;> rfl)|(simp [*,errW_none,errW_some] <;> rfl),by (with_reducible repeat (first|apply Kd.R_alloc|apply Kd.R_drewN|apply Kd.R_drew));exact Kd.R_mono HO_8.out (fun _ hk => trivial),hb_⟩
 ·rw [if_neg c4] at H
  have c4b0 : (t781 == 0) = false:=beq_eq_false_iff_ne.mpr c4
  have c4b1 : (t781 != 0) = true:=bne_iff_ne.mpr c4
  simp only [Option.some.injEq,Prod.mk.injEq] at H
  obtain ⟨rfl,rfl⟩:=H
  go_enter Try.func24,Try.ntmps24
  go_wp2_with (first|go_step3|((with_reducible refine gate_dst (N:=2) rfl ?_);refine box_ev (N:=2) (cs:=#[.int .i64 a0_0,.int .i64 a0_1,.slice A0_2 l0_2.length c0_2]) (t:=24) ?_;intro gb768 hg w61 hbox hb;have BK768:=Aside0.mk (hbox);have GW768 : Aside0 (w.heap.size ≤ gb768):=gsz hg;have GE768:=GW768;replace HB:=Aside0.mk (below_step (hb_) hb);clear hb hbox hg)|((with_reducible refine gate_dst (N:=3) rfl ?_);refine box_ev (N:=3) (cs:=#[.slice A1_0 l1_0.length c1_0,.slice A1_1 l1_1.length c1_1]) (t:=26) ?_;intro gb769 hg w62 hbox hb;have BK769:=Aside0.mk (hbox);have GW769 : Aside0 (w.heap.size ≤ gb769):=gsz hg;have GE769:=GW769;have NB768_769:=nbl BK768 hg;have NB769_768:=nbr BK768 hg;replace BK768:=bkb BK768 hb;replace HB:=Aside0.mk (below_step (hb_) hb);clear hb hbox hg;have hnb63:=NB768_769.out;have hnc63:=NB769_768.out;obtain ⟨hcz64_0,hcz64_1,hcz64_2,hfz64_0,hfz64_1,hfz64_2⟩:=cells3 BK768.out;obtain ⟨hcz65_0,hcz65_1,hfz65_0,hfz65_1⟩:=cells2 BK769.out)|((with_reducible refine gate_callee (f:=44) rfl ?_);refine goesL_ (some 16) rfl rfl Try.func44 (by kernel_rfl) rfl #[.agg #[.int .i64 a0_0,.int .i64 a0_1,.slice A0_2 l0_2.length c0_2],.agg #[.slice A1_0 l1_0.length c1_0,.slice A1_1 l1_1.length c1_1]] rfl (by (try simp only [List.map_toArray,List.map_cons,List.map_nil]);first|done|rfl|(simp only [List.length_drop,List.length_take];rfl)) ?_;(with_reducible refine (water_check.calls k a0_0 a0_1 _ _ l0_2 _ _ l1_0 _ _ l1_1 t770 t771 t772 t775 t778 t781 _ ?side1 ?side2 ?side3 ?side4 ?side5 ?side6 A3.out).mono ?_);(case side1 => exact Kd.C_up (Kd.C_below HR0_2.out HB.out));(case side2 => exact HC0_2.out);(case side3 => exact Kd.C_up (Kd.C_below HR1_0.out HB.out));(case side4 => exact HC1_0.out);(case side5 => exact Kd.C_up (Kd.C_below HR1_1.out HB.out));(case side6 => exact HC1_1.out);rintro e w66 ⟨v773,v776,v779,rfl,ho0,ho1,ho2,hb⟩;refine ⟨_,rfl,?_⟩;have HO774:=rlo ho0;have HO777:=rlo ho1;have HO780:=rlo ho2;replace BK768:=bkb BK768 hb;replace BK769:=bkb BK769 hb;replace HB:=Aside0.mk (below_step (hb_) hb))|((with_reducible refine gate_dst (N:=6) rfl ?_);refine box_ev (N:=6) (cs:=#[.int .i64 0,.int .i64 0,.slice none 0 0,.slice none 0 0,.slice none 0 0]) (t:=52) ?_;intro gb782 hg w67 hbox hb;have BK782:=Aside0.mk (hbox);have GW782 : Aside0 (w.heap.size ≤ gb782):=gsz hg;have GE782:=GW782;have NB768_782:=nbl BK768 hg;have NB782_768:=nbr BK768 hg;have NB769_782:=nbl BK769 hg;have NB782_769:=nbr BK769 hg;replace HO774:=rbw HO774 hb;replace HO777:=rbw HO777 hb;replace HO780:=rbw HO780 hb;replace BK768:=bkb BK768 hb;replace BK769:=bkb BK769 hb;replace HB:=Aside0.mk (below_step (hb_) hb);clear hb hbox hg;have hnb68:=NB782_768.out;have hnc68:=NB768_782.out;have hnb69:=NB782_769.out;have hnc69:=NB769_782.out;obtain ⟨hcz70_0,hcz70_1,hcz70_2,hcz70_3,hcz70_4,hfz70_0,hfz70_1,hfz70_2,hfz70_3,hfz70_4⟩:=cells5 BK782.out;obtain ⟨Ao71,co71,eo71⟩:=Kd.R_slice HO774.out;subst eo71;obtain ⟨Ao72,co72,eo72⟩:=Kd.R_slice HO777.out;subst eo72;obtain ⟨Ao73,co73,eo73⟩:=Kd.R_slice HO780.out;subst eo73))
  (try rw [Exit.noGoto_ret]);go_ret2
  exact ⟨_,by first|rfl|(simp [errW_none,errW_some] <;> rfl)|(simp [*,errW_none,errW_some] <;> rfl),by first|exact Kd.R_nil _ _ _ _ _|exact Kd.N_nil _ _ _ _ _|exact Kd.V_nil _ _ _ _ _|exact Kd.Q_nil _ _ _ _ _|exact Kd.S_nil _ _ _ _ _,hb_⟩

/-! ### hinterlandref06_Flood: function 25 -/
mutual
def hinterlandref06_Flood.l0 : Nat → List Int → List Int → Int → Int → Int → Int → List Int → Option (List Int × Int)
 | 0,_,_,_,_,_,_,_ => none
 | k + 1,x7,x21,x22,x23,x792000,x792001,x792002 => if x23 < x22 then (if 0 ≤ x23 then (if x23 < (x21.length : Int) then ((hinterlandref02_Face.f k x792000 x792001 x792002 x23).bind fun bt795 => (if (rd x21 x23) = 0 then ((hinterlandref02_Sea.f k x792000 x792001 x792002 x23).bind fun t797 => (if t797 = true then (hinterlandref06_Flood.j1 k x7 x23 x21 x22 x23 true x792000 x792001 x792002) else (hinterlandref06_Flood.j1 k x7 x23 x21 x22 x23 (decide (bt795.2 > 2)) x792000 x792001 x792002))) else (hinterlandref06_Flood.j1 k x7 x23 x21 x22 x23 true x792000 x792001 x792002))) else (none)) else (none)) else (some (x7,0))
def hinterlandref06_Flood.j1 : Nat → List Int → Int → List Int → Int → Int → Bool → Int → Int → List Int → Option (List Int × Int)
 | 0,_,_,_,_,_,_,_,_,_ => none
 | k + 1,x7,x8,x21,x22,x23,x44,x792000,x792001,x792002 => if x44 = true then (hinterlandref06_Flood.l0 k x7 x21 x22 (wrap64 (x23 + 1)) x792000 x792001 x792002) else (hinterlandref06_Flood.l1 k x7 x8 x21 x22 x23 0 x792000 x792001 x792002)
def hinterlandref06_Flood.l1 : Nat → List Int → Int → List Int → Int → Int → Int → Int → Int → List Int → Option (List Int × Int)
 | 0,_,_,_,_,_,_,_,_,_ => none
 | k + 1,x7,x8,x21,x22,x23,x45,x792000,x792001,x792002 => if x45 < 4 then ((hinterlandref02_Beyond.f x792000 x792001 x8 x45).bind fun t798 => (if t798 ≥ 0 then ((hinterlandref02_Sea.f k x792000 x792001 x792002 t798).bind fun t799 => (if t799 = true then (if x7.length < 17592186044416 then (hinterlandref06_Flood.l0 k (x7 ++ [x8]) x21 x22 (wrap64 (x23 + 1)) x792000 x792001 x792002) else (none)) else (hinterlandref06_Flood.l1 k x7 x8 x21 x22 x23 (wrap64 (x45 + 1)) x792000 x792001 x792002))) else (hinterlandref06_Flood.l1 k x7 x8 x21 x22 x23 (wrap64 (x45 + 1)) x792000 x792001 x792002))) else (hinterlandref06_Flood.l0 k x7 x21 x22 (wrap64 (x23 + 1)) x792000 x792001 x792002)
end
def hinterlandref06_Flood.f (k : Nat) (a0_0 : Int) (a0_1 : Int) (l0_2 : List Int) (l1_0 : List Int) (l1_1 : List Int) : Option (List Int × Int) := (hinterlandref06_Validate.f k a0_0 a0_1 l0_2 l1_0 l1_1).bind fun t793 => (if t793 = 0 then (hinterlandref06_Flood.l0 k ([] : List Int) l1_0 (l1_0.length : Int) 0 a0_0 a0_1 l0_2) else (some (([] : List Int), t793)))
theorem hinterlandref06_Flood.mono_l : ∀ k, (∀ y0 y1 y2 y3 y4 y5 y6, LeO (hinterlandref06_Flood.l0 k y0 y1 y2 y3 y4 y5 y6) (hinterlandref06_Flood.l0 (k + 1) y0 y1 y2 y3 y4 y5 y6)) ∧ (∀ y0 y1 y2 y3 y4 y5 y6 y7 y8, LeO (hinterlandref06_Flood.j1 k y0 y1 y2 y3 y4 y5 y6 y7 y8) (hinterlandref06_Flood.j1 (k + 1) y0 y1 y2 y3 y4 y5 y6 y7 y8)) ∧ (∀ y0 y1 y2 y3 y4 y5 y6 y7 y8, LeO (hinterlandref06_Flood.l1 k y0 y1 y2 y3 y4 y5 y6 y7 y8) (hinterlandref06_Flood.l1 (k + 1) y0 y1 y2 y3 y4 y5 y6 y7 y8))
 | 0 => ⟨fun _ _ _ _ _ _ _ r h => by simp [hinterlandref06_Flood.l0] at h,fun _ _ _ _ _ _ _ _ _ r h => by simp [hinterlandref06_Flood.j1] at h,fun _ _ _ _ _ _ _ _ _ r h => by simp [hinterlandref06_Flood.l1] at h⟩
 | k + 1 => by
  obtain ⟨ih0,ih1,ih2⟩:=hinterlandref06_Flood.mono_l k
  refine ⟨?_,?_,?_⟩
  ·intro y0 y1 y2 y3 y4 y5 y6
   unfold hinterlandref06_Flood.l0
   repeat' first
   | (with_reducible exact ih0 _ _ _ _ _ _ _)
   | (with_reducible exact ih1 _ _ _ _ _ _ _ _ _)
   | (with_reducible exact ih2 _ _ _ _ _ _ _ _ _)
   | (with_reducible exact hinterlandref02_Face.mono _ _ _ _ _)
   | (with_reducible exact hinterlandref02_Sea.mono _ _ _ _ _)
   | (with_reducible exact hinterlandref06_Validate.mono _ _ _ _ _ _)
   | (with_reducible exact LeO.refl _)
   | (with_reducible exact LeO.none _)
   | (with_reducible refine LeO.ite ?_ ?_)
   | (with_reducible refine LeO.bind ?_ (fun _ => ?_))
   | exact ih0 _ _ _ _ _ _ _
   | exact ih1 _ _ _ _ _ _ _ _ _
   | exact ih2 _ _ _ _ _ _ _ _ _
   | exact hinterlandref02_Face.mono _ _ _ _ _
   | exact hinterlandref02_Sea.mono _ _ _ _ _
   | exact hinterlandref06_Validate.mono _ _ _ _ _ _
   | exact LeO.none _
   | refine LeO.ite ?_ ?_
   | refine LeO.bind ?_ (fun _ => ?_)
  ·intro y0 y1 y2 y3 y4 y5 y6 y7 y8
   unfold hinterlandref06_Flood.j1
   repeat' first
   | (with_reducible exact ih0 _ _ _ _ _ _ _)
   | (with_reducible exact ih1 _ _ _ _ _ _ _ _ _)
   | (with_reducible exact ih2 _ _ _ _ _ _ _ _ _)
   | (with_reducible exact hinterlandref02_Face.mono _ _ _ _ _)
   | (with_reducible exact hinterlandref02_Sea.mono _ _ _ _ _)
   | (with_reducible exact hinterlandref06_Validate.mono _ _ _ _ _ _)
   | (with_reducible exact LeO.refl _)
   | (with_reducible exact LeO.none _)
   | (with_reducible refine LeO.ite ?_ ?_)
   | (with_reducible refine LeO.bind ?_ (fun _ => ?_))
   | exact ih0 _ _ _ _ _ _ _
   | exact ih1 _ _ _ _ _ _ _ _ _
   | exact ih2 _ _ _ _ _ _ _ _ _
   | exact hinterlandref02_Face.mono _ _ _ _ _
   | exact hinterlandref02_Sea.mono _ _ _ _ _
   | exact hinterlandref06_Validate.mono _ _ _ _ _ _
   | exact LeO.none _
   | refine LeO.ite ?_ ?_
   | refine LeO.bind ?_ (fun _ => ?_)
  ·intro y0 y1 y2 y3 y4 y5 y6 y7 y8
   unfold hinterlandref06_Flood.l1
   repeat' first
   | (with_reducible exact ih0 _ _ _ _ _ _ _)
   | (with_reducible exact ih1 _ _ _ _ _ _ _ _ _)
   | (with_reducible exact ih2 _ _ _ _ _ _ _ _ _)
   | (with_reducible exact hinterlandref02_Face.mono _ _ _ _ _)
   | (with_reducible exact hinterlandref02_Sea.mono _ _ _ _ _)
   | (with_reducible exact hinterlandref06_Validate.mono _ _ _ _ _ _)
   | (with_reducible exact LeO.refl _)
   | (with_reducible exact LeO.none _)
   | (with_reducible refine LeO.ite ?_ ?_)
   | (with_reducible refine LeO.bind ?_ (fun _ => ?_))
   | exact ih0 _ _ _ _ _ _ _
   | exact ih1 _ _ _ _ _ _ _ _ _
   | exact ih2 _ _ _ _ _ _ _ _ _
   | exact hinterlandref02_Face.mono _ _ _ _ _
   | exact hinterlandref02_Sea.mono _ _ _ _ _
   | exact hinterlandref06_Validate.mono _ _ _ _ _ _
   | exact LeO.none _
   | refine LeO.ite ?_ ?_
   | refine LeO.bind ?_ (fun _ => ?_)
theorem hinterlandref06_Flood.mono : ∀ a0 a1 a2 a3 a4 k, LeO (hinterlandref06_Flood.f k a0 a1 a2 a3 a4) (hinterlandref06_Flood.f (k + 1) a0 a1 a2 a3 a4) := by
 intro a0 a1 a2 a3 a4 k
 obtain ⟨ih0,ih1,ih2⟩:=hinterlandref06_Flood.mono_l k
 unfold hinterlandref06_Flood.f
 repeat' first
   | (with_reducible exact ih0 _ _ _ _ _ _ _)
   | (with_reducible exact ih1 _ _ _ _ _ _ _ _ _)
   | (with_reducible exact ih2 _ _ _ _ _ _ _ _ _)
   | (with_reducible exact hinterlandref02_Face.mono _ _ _ _ _)
   | (with_reducible exact hinterlandref02_Sea.mono _ _ _ _ _)
   | (with_reducible exact hinterlandref06_Validate.mono _ _ _ _ _ _)
   | (with_reducible exact LeO.refl _)
   | (with_reducible exact LeO.none _)
   | (with_reducible refine LeO.ite ?_ ?_)
   | (with_reducible refine LeO.bind ?_ (fun _ => ?_))
   | exact ih0 _ _ _ _ _ _ _
   | exact ih1 _ _ _ _ _ _ _ _ _
   | exact ih2 _ _ _ _ _ _ _ _ _
   | exact hinterlandref02_Face.mono _ _ _ _ _
   | exact hinterlandref02_Sea.mono _ _ _ _ _
   | exact hinterlandref06_Validate.mono _ _ _ _ _ _
   | exact LeO.none _
   | refine LeO.ite ?_ ?_
   | refine LeO.bind ?_ (fun _ => ?_)
set_option maxHeartbeats 8000000 in
set_option maxRecDepth 100000 in
theorem hinterlandref06_Flood.calls (k : Nat) (a0_0 : Int) (a0_1 : Int) (A0_2 : Option Addr) (c0_2 : Nat) (l0_2 : List Int) (A1_0 : Option Addr) (c1_0 : Nat) (l1_0 : List Int) (A1_1 : Option Addr) (c1_1 : Nat) (l1_1 : List Int) (r1 : List Int) (r2 : Int) (w : World) (hr0_2 : Kd.C (Kd.int .i64) w A0_2 l0_2.length l0_2) (hc0_2 : l0_2.length ≤ c0_2) (hr1_0 : Kd.C (Kd.int .i64) w A1_0 l1_0.length l1_0) (hc1_0 : l1_0.length ≤ c1_0) (hr1_1 : Kd.C (Kd.int .i64) w A1_1 l1_1.length l1_1) (hc1_1 : l1_1.length ≤ c1_1) (h : hinterlandref06_Flood.f k a0_0 a0_1 l0_2 l1_0 l1_1 = some (r1, r2)) :
  Calls Try.prog 25 #[.agg #[.int .i64 a0_0,.int .i64 a0_1,.slice A0_2 l0_2.length c0_2],.agg #[.slice A1_0 l1_0.length c1_0,.slice A1_1 l1_1.length c1_1]] w fun e w' => ∃ v0_ : Value,e = .returned (.tuple #[v0_,.int .i64 r2]) ∧ Kd.R (Kd.int .i64) 3 w' w.heap.size (fun _ => True) v0_ r1 ∧ Below w.heap.size w w':=by
 have hu24:=Try.underlying24
 have hu26:=Try.underlying26
 have HR0_2:=Aside0.mk hr0_2
 have HC0_2:=Aside0.mk hc0_2
 clear hr0_2 hc0_2
 have HR1_0:=Aside0.mk hr1_0
 have HC1_0:=Aside0.mk hc1_0
 clear hr1_0 hc1_0
 have HR1_1:=Aside0.mk hr1_1
 have HC1_1:=Aside0.mk hc1_1
 clear hr1_1 hc1_1
 have HB:=Aside0.mk (Below.refl w.heap.size w)
 have H : ((hinterlandref06_Validate.f k a0_0 a0_1 l0_2 l1_0 l1_1).bind fun t793 => (if t793 = 0 then (hinterlandref06_Flood.l0 k ([] : List Int) l1_0 (l1_0.length : Int) 0 a0_0 a0_1 l0_2) else (some (([] : List Int),t793)))) = some (r1,r2):=h
 clear h
 replace H:=Option.bind_eq_some_iff.mp H
 obtain ⟨t793,A30,H⟩:=H
 replace H : (if t793 = 0 then (hinterlandref06_Flood.l0 k ([] : List Int) l1_0 (l1_0.length : Int) 0 a0_0 a0_1 l0_2) else (some (([] : List Int),t793))) = some (r1,r2):=H
 have A3:=Aside0.mk A30
 clear A30
 by_cases c4 : t793 = 0
 ·rw [if_pos c4] at H
  have c4b0 : (t793 == 0) = true:=beq_iff_eq.mpr c4
  have c4b1 : (t793 != 0) = false:=bne_eq_false_iff_eq.mpr c4
  clear c4
  have H':=Aside0.mk H
  clear H
  go_enter Try.func25,Try.ntmps25
  go_wp2_with (first|((with_reducible refine gate_dst (N:=2) rfl ?_);refine box_ev (N:=2) (cs:=#[.int .i64 a0_0,.int .i64 a0_1,.slice A0_2 l0_2.length c0_2]) (t:=24) ?_;intro gb791 hg w5 hbox hb;have BK791:=Aside0.mk (hbox);have GW791 : Aside0 (w.heap.size ≤ gb791):=gsz hg;have GE791:=GW791;replace HB:=Aside0.mk (below_step (hb_) hb);clear hb hbox hg)|((with_reducible refine gate_dst (N:=3) rfl ?_);refine box_ev (N:=3) (cs:=#[.slice A1_0 l1_0.length c1_0,.slice A1_1 l1_1.length c1_1]) (t:=26) ?_;intro gb792 hg w6 hbox hb;have BK792:=Aside0.mk (hbox);have GW792 : Aside0 (w.heap.size ≤ gb792):=gsz hg;have GE792:=GW792;have NB791_792:=nbl BK791 hg;have NB792_791:=nbr BK791 hg;replace BK791:=bkb BK791 hb;replace HB:=Aside0.mk (below_step (hb_) hb);clear hb hbox hg;have hnb7:=NB791_792.out;have hnc7:=NB792_791.out;obtain ⟨hcz8_0,hcz8_1,hcz8_2,hfz8_0,hfz8_1,hfz8_2⟩:=cells3 BK791.out;obtain ⟨hcz9_0,hcz9_1,hfz9_0,hfz9_1⟩:=cells2 BK792.out)|((with_reducible refine gate_callee (f:=23) rfl ?_);refine goesL_ (some 16) rfl rfl Try.func23 (by kernel_rfl) rfl #[.agg #[.int .i64 a0_0,.int .i64 a0_1,.slice A0_2 l0_2.length c0_2],.agg #[.slice A1_0 l1_0.length c1_0,.slice A1_1 l1_1.length c1_1]] rfl (by (try simp only [List.map_toArray,List.map_cons,List.map_nil]);first|done|rfl|(simp only [List.length_drop,List.length_take];rfl)) ?_;(with_reducible refine (hinterlandref06_Validate.calls k a0_0 a0_1 _ _ l0_2 _ _ l1_0 _ _ l1_1 t793 _ ?side1 ?side2 ?side3 ?side4 ?side5 ?side6 A3.out).mono ?_);(case side1 => exact Kd.C_up (Kd.C_below HR0_2.out HB.out));(case side2 => exact HC0_2.out);(case side3 => exact Kd.C_up (Kd.C_below HR1_0.out HB.out));(case side4 => exact HC1_0.out);(case side5 => exact Kd.C_up (Kd.C_below HR1_1.out HB.out));(case side6 => exact HC1_1.out);rintro e w10 ⟨rfl,hb⟩;refine ⟨_,rfl,?_⟩;replace BK791:=bkb BK791 hb;replace BK792:=bkb BK792 hb;replace HB:=Aside0.mk (below_step (hb_) hb);obtain ⟨hcz11_0,hcz11_1,hfz11_0,hfz11_1⟩:=cells2 BK792.out))
  go_loopg [7,23] k (fun kq v7 v23 w' => ∃ (x7_1 : List Int) (x23_1 : Int),v23 = .int .i64 x23_1 ∧ Aside0 (hinterlandref06_Flood.l0 kq x7_1 l1_0 (l1_0.length : Int) x23_1 a0_0 a0_1 l0_2 = some (r1,r2)) ∧ Aside0 (kq ≤ k) ∧ Aside0 (Kd.R (Kd.int .i64) 3 w' w.heap.size (fun _ => True) v7 x7_1) ∧ Aside0 (w'.heap[gb791]? = some (.cells #[.int .i64 a0_0,.int .i64 a0_1,(.slice A0_2 l0_2.length c0_2)] 24 (0,0))) ∧ Aside0 (w'.heap[gb792]? = some (.cells #[(.slice A1_0 l1_0.length c1_0),(.slice A1_1 l1_1.length c1_1)] 26 (0,0))) ∧ Aside0 (Below w.heap.size w w'))
  case atStart => exact ⟨(([] : List Int)),(0),(by first|rfl|(simp;done)|(simp [*];done)),H',⟨Nat.le_refl _⟩,⟨by first|exact Kd.R_nil _ _ _ _ _|exact Kd.N_nil _ _ _ _ _|exact Kd.V_nil _ _ _ _ _|exact Kd.Q_nil _ _ _ _ _|exact Kd.S_nil _ _ _ _ _⟩,⟨blk_up BK791.out⟩,⟨blk_up BK792.out⟩,⟨hb_⟩⟩
  case round =>
   clear H'
   obtain ⟨x7_1,x23_1,rfl,HA,HK1,HO_7,BK791,BK792,HB⟩:=hrel
   cases gk with
   | zero => exact absurd HA.out (by simp [hinterlandref06_Flood.l0])
   | succ k1 =>
    have H:=HA.out
    clear HA
    simp only [hinterlandref06_Flood.l0] at H
    by_cases c12 : x23_1 < (l1_0.length : Int)
    ·rw [if_pos c12] at H
     have c12b0 : decide (x23_1 < (l1_0.length : Int)) = true:=decide_eq_true c12
     clear c12
     by_cases c13 : 0 ≤ x23_1
     ·rw [if_pos c13] at H
      have c13b0 : decide (0 ≤ x23_1) = true:=decide_eq_true c13
      clear c13
      by_cases c14 : x23_1 < (l1_0.length : Int)
      ·rw [if_pos c14] at H
       have c14b0 : decide (x23_1 < (l1_0.length : Int)) = true:=decide_eq_true c14
       clear c14
       replace H:=Option.bind_eq_some_iff.mp H
       obtain ⟨⟨t795,t796⟩,A150,H⟩:=H
       replace H : (if (rd l1_0 x23_1) = 0 then ((hinterlandref02_Sea.f k1 a0_0 a0_1 l0_2 x23_1).bind fun t797 => (if t797 = true then (hinterlandref06_Flood.j1 k1 x7_1 x23_1 l1_0 (l1_0.length : Int) x23_1 true a0_0 a0_1 l0_2) else (hinterlandref06_Flood.j1 k1 x7_1 x23_1 l1_0 (l1_0.length : Int) x23_1 (decide (t796 > 2)) a0_0 a0_1 l0_2))) else (hinterlandref06_Flood.j1 k1 x7_1 x23_1 l1_0 (l1_0.length : Int) x23_1 true a0_0 a0_1 l0_2)) = some (r1,r2):=H
       have A15:=Aside0.mk A150
       clear A150
       have HC16:=Aside0.mk H
       clear H
       have p794 : 0 ≤ (x23_1 : Int):=of_decide_eq_true (by first|(with_reducible assumption)|assumption)
       have q794 : x23_1 < (l1_0.length : Int):=of_decide_eq_true (by first|(with_reducible assumption)|assumption)
       obtain ⟨ad794,e794,hx794_0⟩:=Kd.at_int HR1_0.out x23_1 p794 q794
       cases e794
       replace hx794_0:=(HB.out.cell (World.block_lt_of_cell? w _ hx794_0)).trans hx794_0
       replace p794:=eq_true p794
       replace q794:=eq_true q794
       have hnb17:=NB791_792.out
       have hnc17:=NB792_791.out
       obtain ⟨hcz18_0,hcz18_1,hcz18_2,hfz18_0,hfz18_1,hfz18_2⟩:=cells3 BK791.out
       go_upto_region 9 with (first|((with_reducible refine gate_callee (f:=50) rfl ?_);refine goesL_ (some 31) rfl rfl Try.func50 (by kernel_rfl) rfl #[.agg #[.int .i64 a0_0,.int .i64 a0_1,.slice A0_2 l0_2.length c0_2],.int .i64 x23_1] rfl (by (try simp only [List.map_toArray,List.map_cons,List.map_nil]);first|done|rfl|(simp only [List.length_drop,List.length_take];rfl)) ?_;(with_reducible refine (hinterlandref02_Face.calls k1 a0_0 a0_1 _ _ l0_2 x23_1 t795 t796 _ ?side1 ?side2 A15.out).mono ?_);(case side1 => exact Kd.C_up (Kd.C_below HR0_2.out HB.out));(case side2 => exact HC0_2.out);rintro e w19 ⟨rfl,hb⟩;refine ⟨_,rfl,?_⟩;replace HO_7:=rbw HO_7 hb;replace BK791:=bkb BK791 hb;replace BK792:=bkb BK792 hb;replace HB:=Aside0.mk (below_step (hb_) hb)))
       (try simp only [Act.put,List.setIfInBounds_toArray,List.set_cons_zero,List.set_cons_succ])
       go_cut [44] (fun v44 wc => ∃ (kq : Nat) (x44_15 : Bool),v44 = .bool x44_15 ∧ Aside0 (hinterlandref06_Flood.j1 kq x7_1 x23_1 l1_0 (l1_0.length : Int) x23_1 x44_15 a0_0 a0_1 l0_2 = some (r1,r2)) ∧ Aside0 (kq ≤ k1) ∧ Aside0 (Kd.R (Kd.int .i64) 3 wc w.heap.size (fun _ => True) u7 x7_1) ∧ Aside0 (wc.heap[gb791]? = some (.cells #[.int .i64 a0_0,.int .i64 a0_1,(.slice A0_2 l0_2.length c0_2)] 24 (0,0))) ∧ Aside0 (wc.heap[gb792]? = some (.cells #[(.slice (some ad794) l1_0.length c1_0),(.slice A1_1 l1_1.length c1_1)] 26 (0,0))) ∧ Aside0 (Below w.heap.size w wc))
       case first =>
        have H:=HC16.out
        clear HC16
        by_cases c20 : (rd l1_0 x23_1) = 0
        ·rw [if_pos c20] at H
         have c20b0 : ((rd l1_0 x23_1) == 0) = true:=beq_iff_eq.mpr c20
         have c20b1 : ((rd l1_0 x23_1) != 0) = false:=bne_eq_false_iff_eq.mpr c20
         clear c20
         (first|rw [c20b0]|(simp only [i64_w,i32_w];rw [c20b0])|skip)
         replace H:=Option.bind_eq_some_iff.mp H
         obtain ⟨t797,A210,H⟩:=H
         replace H : (if t797 = true then (hinterlandref06_Flood.j1 k1 x7_1 x23_1 l1_0 (l1_0.length : Int) x23_1 true a0_0 a0_1 l0_2) else (hinterlandref06_Flood.j1 k1 x7_1 x23_1 l1_0 (l1_0.length : Int) x23_1 (decide (t796 > 2)) a0_0 a0_1 l0_2)) = some (r1,r2):=H
         have A21:=Aside0.mk A210
         clear A210
         by_cases c22 : t797 = true
         ·subst c22
          have H1 : (hinterlandref06_Flood.j1 k1 x7_1 x23_1 l1_0 (l1_0.length : Int) x23_1 true a0_0 a0_1 l0_2) = some (r1,r2):=by rw [if_pos rfl] at H;exact H
          clear H
          have H:=H1
          clear H1
          have H':=Aside0.mk H
          clear H
          have hnb23:=NB791_792.out
          have hnc23:=NB792_791.out
          obtain ⟨hcz24_0,hcz24_1,hcz24_2,hfz24_0,hfz24_1,hfz24_2⟩:=cells3 BK791.out
          go_wp2_with (first|(go_at_call 51;(with_reducible refine (hinterlandref02_Sea.calls k1 a0_0 a0_1 _ _ l0_2 x23_1 true _ ?side1 ?side2 A21.out).mono ?_);(case side1 => exact Kd.C_up (Kd.C_below HR0_2.out HB.out));(case side2 => exact HC0_2.out);rintro e w25 ⟨rfl,hb⟩;replace HO_7:=rbw HO_7 hb;replace BK791:=bkb BK791 hb;replace BK792:=bkb BK792 hb;replace HB:=Aside0.mk (below_step (hb_) hb)))
          go_meet
          case rel => exact ⟨_,(true),(by first|rfl|(simp;done)|(simp [*];done)),H',⟨by have:=HK1.out;first|omega|exact Nat.le_refl _⟩,⟨Kd.R_up HO_7.out⟩,⟨blk_up BK791.out⟩,⟨blk_up BK792.out⟩,⟨hb_⟩⟩
         ·replace c22:=Bool.eq_false_iff.mpr c22
          subst c22
          have H1 : (hinterlandref06_Flood.j1 k1 x7_1 x23_1 l1_0 (l1_0.length : Int) x23_1 (decide (t796 > 2)) a0_0 a0_1 l0_2) = some (r1,r2):=by rw [if_neg (show ¬ (false = true) by decide)] at H;exact H
          clear H
          have H:=H1
          clear H1
          have H':=Aside0.mk H
          clear H
          have hnb26:=NB791_792.out
          have hnc26:=NB792_791.out
          obtain ⟨hcz27_0,hcz27_1,hcz27_2,hfz27_0,hfz27_1,hfz27_2⟩:=cells3 BK791.out
          go_wp2_with (first|(go_at_call 51;(with_reducible refine (hinterlandref02_Sea.calls k1 a0_0 a0_1 _ _ l0_2 x23_1 false _ ?side1 ?side2 A21.out).mono ?_);(case side1 => exact Kd.C_up (Kd.C_below HR0_2.out HB.out));(case side2 => exact HC0_2.out);rintro e w28 ⟨rfl,hb⟩;replace HO_7:=rbw HO_7 hb;replace BK791:=bkb BK791 hb;replace BK792:=bkb BK792 hb;replace HB:=Aside0.mk (below_step (hb_) hb)))
          go_meet
          case rel => exact ⟨_,(decide (t796 > 2)),(by first|rfl|(simp;done)|(simp [*];done)),H',⟨by have:=HK1.out;first|omega|exact Nat.le_refl _⟩,⟨Kd.R_up HO_7.out⟩,⟨blk_up BK791.out⟩,⟨blk_up BK792.out⟩,⟨hb_⟩⟩
        ·rw [if_neg c20] at H
         have c20b0 : ((rd l1_0 x23_1) == 0) = false:=beq_eq_false_iff_ne.mpr c20
         have c20b1 : ((rd l1_0 x23_1) != 0) = true:=bne_iff_ne.mpr c20
         (first|rw [c20b0]|(simp only [i64_w,i32_w];rw [c20b0])|skip)
         have H':=Aside0.mk H
         clear H
         go_wp2
         go_meet
         case rel => exact ⟨_,(true),(by first|rfl|(simp;done)|(simp [*];done)),H',⟨by have:=HK1.out;first|omega|exact Nat.le_refl _⟩,⟨Kd.R_up HO_7.out⟩,⟨blk_up BK791.out⟩,⟨blk_up BK792.out⟩,⟨hb_⟩⟩
       case rest =>
        clear HC16
        obtain ⟨kq,x44_15,rfl,HA,HJ15,HO_7,BK791,BK792,HB⟩:=hcut
        cases kq with
        | zero => exact absurd HA.out (by simp [hinterlandref06_Flood.j1])
        | succ kj15 =>
         have H:=HA.out
         clear HA
         simp only [hinterlandref06_Flood.j1] at H
         by_cases c29 : x44_15 = true
         ·subst c29
          have H1 : (hinterlandref06_Flood.l0 kj15 x7_1 l1_0 (l1_0.length : Int) (wrap64 (x23_1 + 1)) a0_0 a0_1 l0_2) = some (r1,r2):=by rw [if_pos rfl] at H;exact H
          clear H
          have H:=H1
          clear H1
          have H':=Aside0.mk H
          clear H
          go_wp2
          go_roundg kj15
          case measure => have:=HK1.out;have:=HJ15.out;omega
          case rel => exact ⟨(x7_1),(wrap64 (x23_1 + 1)),(by first|rfl|(simp;done)|(simp [*];done)),H',⟨by have:=HK1.out;have:=HJ15.out;omega⟩,⟨Kd.R_up HO_7.out⟩,⟨blk_up BK791.out⟩,⟨blk_up BK792.out⟩,⟨hb_⟩⟩
         ·replace c29:=Bool.eq_false_iff.mpr c29
          subst c29
          have H1 : (hinterlandref06_Flood.l1 kj15 x7_1 x23_1 l1_0 (l1_0.length : Int) x23_1 0 a0_0 a0_1 l0_2) = some (r1,r2):=by rw [if_neg (show ¬ (false = true) by decide)] at H;exact H
          clear H
          have H:=H1
          clear H1
          have H':=Aside0.mk H
          clear H
          go_wp2
          go_loopg [7,45] kj15 (fun kq v7 v45 w' => ∃ (x7_3 : List Int) (x45_3 : Int),v45 = .int .i64 x45_3 ∧ Aside0 (hinterlandref06_Flood.l1 kq x7_3 x23_1 l1_0 (l1_0.length : Int) x23_1 x45_3 a0_0 a0_1 l0_2 = some (r1,r2)) ∧ Aside0 (kq ≤ kj15) ∧ Aside0 (Kd.R (Kd.int .i64) 3 w' w.heap.size (fun _ => True) v7 x7_3) ∧ Aside0 (w'.heap[gb791]? = some (.cells #[.int .i64 a0_0,.int .i64 a0_1,(.slice A0_2 l0_2.length c0_2)] 24 (0,0))) ∧ Aside0 (w'.heap[gb792]? = some (.cells #[(.slice (some ad794) l1_0.length c1_0),(.slice A1_1 l1_1.length c1_1)] 26 (0,0))) ∧ Aside0 (Below w.heap.size w w'))
          case atStart => exact ⟨(x7_1),(0),(by first|rfl|(simp;done)|(simp [*];done)),H',⟨Nat.le_refl _⟩,⟨Kd.R_up HO_7.out⟩,⟨blk_up BK791.out⟩,⟨blk_up BK792.out⟩,⟨hb_⟩⟩
          case round =>
           clear H'
           obtain ⟨x7_3,x45_3,rfl,HA,HK3,HO_7,BK791,BK792,HB⟩:=hrel
           cases gk with
           | zero => exact absurd HA.out (by simp [hinterlandref06_Flood.l1])
           | succ k3 =>
            have H:=HA.out
            clear HA
            simp only [hinterlandref06_Flood.l1] at H
            by_cases c30 : x45_3 < 4
            ·rw [if_pos c30] at H
             have c30b0 : decide (x45_3 < 4) = true:=decide_eq_true c30
             clear c30
             replace H:=Option.bind_eq_some_iff.mp H
             obtain ⟨t798,A310,H⟩:=H
             replace H : (if t798 ≥ 0 then ((hinterlandref02_Sea.f k3 a0_0 a0_1 l0_2 t798).bind fun t799 => (if t799 = true then (if x7_3.length < 17592186044416 then (hinterlandref06_Flood.l0 k3 (x7_3 ++ [x23_1]) l1_0 (l1_0.length : Int) (wrap64 (x23_1 + 1)) a0_0 a0_1 l0_2) else (none)) else (hinterlandref06_Flood.l1 k3 x7_3 x23_1 l1_0 (l1_0.length : Int) x23_1 (wrap64 (x45_3 + 1)) a0_0 a0_1 l0_2))) else (hinterlandref06_Flood.l1 k3 x7_3 x23_1 l1_0 (l1_0.length : Int) x23_1 (wrap64 (x45_3 + 1)) a0_0 a0_1 l0_2)) = some (r1,r2):=H
             have A31:=Aside0.mk A310
             clear A310
             by_cases c32 : t798 ≥ 0
             ·rw [if_pos c32] at H
              have c32b0 : decide (0 ≤ t798) = true:=decide_eq_true c32
              clear c32
              replace H:=Option.bind_eq_some_iff.mp H
              obtain ⟨t799,A330,H⟩:=H
              replace H : (if t799 = true then (if x7_3.length < 17592186044416 then (hinterlandref06_Flood.l0 k3 (x7_3 ++ [x23_1]) l1_0 (l1_0.length : Int) (wrap64 (x23_1 + 1)) a0_0 a0_1 l0_2) else (none)) else (hinterlandref06_Flood.l1 k3 x7_3 x23_1 l1_0 (l1_0.length : Int) x23_1 (wrap64 (x45_3 + 1)) a0_0 a0_1 l0_2)) = some (r1,r2):=H
              have A33:=Aside0.mk A330
              clear A330
              by_cases c34 : t799 = true
              ·subst c34
               have H1 : (if x7_3.length < 17592186044416 then (hinterlandref06_Flood.l0 k3 (x7_3 ++ [x23_1]) l1_0 (l1_0.length : Int) (wrap64 (x23_1 + 1)) a0_0 a0_1 l0_2) else (none)) = some (r1,r2):=by rw [if_pos rfl] at H;exact H
               clear H
               have H:=H1
               clear H1
               by_cases c35 : x7_3.length < 17592186044416
               ·rw [if_pos c35] at H
                have LMc35:=Aside0.mk c35
                clear c35
                obtain ⟨y800,hy800⟩ : ∃ y_ : List Int,y_ = (x7_3 ++ [x23_1]):=⟨_,rfl⟩
                replace H : (hinterlandref06_Flood.l0 k3 y800 l1_0 (l1_0.length : Int) (wrap64 (x23_1 + 1)) a0_0 a0_1 l0_2) = some (r1,r2):=by first|(rw [hy800];with_reducible exact H)|(have H2_:=(Option.bind_some _ _).symm.trans H;rw [hy800];with_reducible exact H2_)|(have H2_:=(Option.bind_some _ _).symm.trans H;with_reducible exact H2_)|with_reducible exact H|(rw [hy800];exact H)|exact H
                have Ny800:=Aside0.mk hy800
                clear hy800
                have H':=Aside0.mk H
                clear H
                have hnb36:=NB791_792.out
                have hnc36:=NB792_791.out
                obtain ⟨hcz37_0,hcz37_1,hcz37_2,hfz37_0,hfz37_1,hfz37_2⟩:=cells3 BK791.out
                go_wp2_with (first|((with_reducible refine gate_callee (f:=18) rfl ?_);refine goesL_ (some 54) rfl rfl Try.func18 (by kernel_rfl) rfl #[.int .i64 a0_0,.int .i64 a0_1,.int .i64 x23_1,.int .i64 x45_3] rfl (by (try simp only [List.map_toArray,List.map_cons,List.map_nil]);first|done|rfl|(simp only [List.length_drop,List.length_take];rfl)) ?_;(with_reducible refine (hinterlandref02_Beyond.calls a0_0 a0_1 x23_1 x45_3 t798 _ A31.out).mono ?_);rintro e w' ⟨rfl,⟨nd,rfl⟩⟩;refine ⟨_,rfl,?_⟩)|(go_at_call 51;(with_reducible refine (hinterlandref02_Sea.calls k3 a0_0 a0_1 _ _ l0_2 t798 true _ ?side1 ?side2 A33.out).mono ?_);(case side1 => repeat (first|exact (Kd.C_below HR0_2.out (hb_))|(with_reducible refine Kd.C_alloc ?_ _)|(with_reducible refine Kd.C_drewN ?_ _)|(with_reducible refine Kd.C_drew ?_)));(case side2 => exact HC0_2.out);rintro e w38 ⟨rfl,hb⟩;replace HO_7:=rbw HO_7 hb;replace BK791:=bkb BK791 hb;replace BK792:=bkb BK792 hb;replace HB:=Aside0.mk (below_step (hb_) hb))|((with_reducible refine gate_builtin (b:=.append) (xs:=#[.tmp 62,.tmp 64]) rfl ?_);at_builtin;refine Kd.R_append (Kd.int .i64) (w0:=w) w.heap.size rfl (.tmp 62) (.tmp 64) 22 3 (.int .i64 0) 8 rfl Try.underlying22 info3 rfl (by decide) (by omega) u7 x7_3 x23_1 [.int .i64 x23_1] (fun _ => True) (fun _ => False) rfl rfl ?aP (fun _ hk => hk.elim) ?aF ?aO ?aB ?aS ?aL ?_;(case aP => exact rfl);(case aB => exact (hb_));(case aF => exact (fun _ _ => trivial));(case aO => exact (Kd.R_up HO_7.out));(case aS => exact (below_size (hb_)));(case aL => have:=LMc35.out;omega);intro v801 w39 ho hb hg hat;rw [← Ny800.out] at ho;have HO802:=Aside0.mk (ho);replace BK791:=Aside0.mk (blk_grown (blk_up BK791.out) hg (Kd.R_ne HO_7.out BK791.out (by decide)));replace BK792:=Aside0.mk (blk_grown (blk_up BK792.out) hg (Kd.R_ne HO_7.out BK792.out (by decide)));replace HB:=Aside0.mk (hb);clear HO_7;clear ho hb hg hat))
                go_roundg k3
                case measure => have:=HK1.out;have:=HJ15.out;have:=HK3.out;omega
                case rel => exact ⟨(y800),(wrap64 (x23_1 + 1)),(by first|rfl|(simp;done)|(simp [*];done)),H',⟨by have:=HK1.out;have:=HJ15.out;have:=HK3.out;omega⟩,⟨Kd.R_up HO802.out⟩,⟨blk_up BK791.out⟩,⟨blk_up BK792.out⟩,⟨hb_⟩⟩
               ·rw [if_neg c35] at H
                exact absurd H (by simp)
              ·replace c34:=Bool.eq_false_iff.mpr c34
               subst c34
               have H1 : (hinterlandref06_Flood.l1 k3 x7_3 x23_1 l1_0 (l1_0.length : Int) x23_1 (wrap64 (x45_3 + 1)) a0_0 a0_1 l0_2) = some (r1,r2):=by rw [if_neg (show ¬ (false = true) by decide)] at H;exact H
               clear H
               have H:=H1
               clear H1
               have H':=Aside0.mk H
               clear H
               have hnb40:=NB791_792.out
               have hnc40:=NB792_791.out
               obtain ⟨hcz41_0,hcz41_1,hcz41_2,hfz41_0,hfz41_1,hfz41_2⟩:=cells3 BK791.out
               go_wp2_with (first|((with_reducible refine gate_callee (f:=18) rfl ?_);refine goesL_ (some 54) rfl rfl Try.func18 (by kernel_rfl) rfl #[.int .i64 a0_0,.int .i64 a0_1,.int .i64 x23_1,.int .i64 x45_3] rfl (by (try simp only [List.map_toArray,List.map_cons,List.map_nil]);first|done|rfl|(simp only [List.length_drop,List.length_take];rfl)) ?_;(with_reducible refine (hinterlandref02_Beyond.calls a0_0 a0_1 x23_1 x45_3 t798 _ A31.out).mono ?_);rintro e w' ⟨rfl,⟨nd,rfl⟩⟩;refine ⟨_,rfl,?_⟩)|(go_at_call 51;(with_reducible refine (hinterlandref02_Sea.calls k3 a0_0 a0_1 _ _ l0_2 t798 false _ ?side1 ?side2 A33.out).mono ?_);(case side1 => repeat (first|exact (Kd.C_below HR0_2.out (hb_))|(with_reducible refine Kd.C_alloc ?_ _)|(with_reducible refine Kd.C_drewN ?_ _)|(with_reducible refine Kd.C_drew ?_)));(case side2 => exact HC0_2.out);rintro e w42 ⟨rfl,hb⟩;replace HO_7:=rbw HO_7 hb;replace BK791:=bkb BK791 hb;replace BK792:=bkb BK792 hb;replace HB:=Aside0.mk (below_step (hb_) hb)))
               go_roundg k3
               case measure => have:=HK1.out;have:=HJ15.out;have:=HK3.out;omega
               case rel => exact ⟨(x7_3),(wrap64 (x45_3 + 1)),(by first|rfl|(simp;done)|(simp [*];done)),H',⟨by have:=HK1.out;have:=HJ15.out;have:=HK3.out;omega⟩,⟨Kd.R_up HO_7.out⟩,⟨blk_up BK791.out⟩,⟨blk_up BK792.out⟩,⟨hb_⟩⟩
             ·rw [if_neg c32] at H
              have c32b0 : decide (0 ≤ t798) = false:=decide_eq_false c32
              clear c32
              have H':=Aside0.mk H
              clear H
              have hnb43:=NB791_792.out
              have hnc43:=NB792_791.out
              obtain ⟨hcz44_0,hcz44_1,hcz44_2,hfz44_0,hfz44_1,hfz44_2⟩:=cells3 BK791.out
              go_wp2_with (first|((with_reducible refine gate_callee (f:=18) rfl ?_);refine goesL_ (some 54) rfl rfl Try.func18 (by kernel_rfl) rfl #[.int .i64 a0_0,.int .i64 a0_1,.int .i64 x23_1,.int .i64 x45_3] rfl (by (try simp only [List.map_toArray,List.map_cons,List.map_nil]);first|done|rfl|(simp only [List.length_drop,List.length_take];rfl)) ?_;(with_reducible refine (hinterlandref02_Beyond.calls a0_0 a0_1 x23_1 x45_3 t798 _ A31.out).mono ?_);rintro e w' ⟨rfl,⟨nd,rfl⟩⟩;refine ⟨_,rfl,?_⟩))
              go_roundg k3
              case measure => have:=HK1.out;have:=HJ15.out;have:=HK3.out;omega
              case rel => exact ⟨(x7_3),(wrap64 (x45_3 + 1)),(by first|rfl|(simp;done)|(simp [*];done)),H',⟨by have:=HK1.out;have:=HJ15.out;have:=HK3.out;omega⟩,⟨Kd.R_up HO_7.out⟩,⟨blk_up BK791.out⟩,⟨blk_up BK792.out⟩,⟨hb_⟩⟩
            ·rw [if_neg c30] at H
             have c30b0 : decide (x45_3 < 4) = false:=decide_eq_false c30
             clear c30
             have H':=Aside0.mk H
             clear H
             go_wp2
             go_roundg k3
             case measure => have:=HK1.out;have:=HJ15.out;have:=HK3.out;omega
             case rel => exact ⟨(x7_3),(wrap64 (x23_1 + 1)),(by first|rfl|(simp;done)|(simp [*];done)),H',⟨by have:=HK1.out;have:=HJ15.out;have:=HK3.out;omega⟩,⟨Kd.R_up HO_7.out⟩,⟨blk_up BK791.out⟩,⟨blk_up BK792.out⟩,⟨hb_⟩⟩
      ·rw [if_neg c14] at H
       exact absurd H (by simp)
     ·rw [if_neg c13] at H
      exact absurd H (by simp)
    ·rw [if_neg c12] at H
     have c12b0 : decide (x23_1 < (l1_0.length : Int)) = false:=decide_eq_false c12
     clear c12
     simp only [Option.some.injEq,Prod.mk.injEq] at H
     obtain ⟨rfl,rfl⟩:=H
     go_wp2
     go_ret2
     exact ⟨_,by first|rfl|(simp [errW_none,errW_some] <;> rfl)|(simp [*,errW_none,errW_some] <;> rfl),Kd.R_up HO_7.out,hb_⟩
 ·rw [if_neg c4] at H
  have c4b0 : (t793 == 0) = false:=beq_eq_false_iff_ne.mpr c4
  have c4b1 : (t793 != 0) = true:=bne_iff_ne.mpr c4
  simp only [Option.some.injEq,Prod.mk.injEq] at H
  obtain ⟨rfl,rfl⟩:=H
  go_enter Try.func25,Try.ntmps25
  go_wp2_with (first|((with_reducible refine gate_dst (N:=2) rfl ?_);refine box_ev (N:=2) (cs:=#[.int .i64 a0_0,.int .i64 a0_1,.slice A0_2 l0_2.length c0_2]) (t:=24) ?_;intro gb791 hg w45 hbox hb;have BK791:=Aside0.mk (hbox);have GW791 : Aside0 (w.heap.size ≤ gb791):=gsz hg;have GE791:=GW791;replace HB:=Aside0.mk (below_step (hb_) hb);clear hb hbox hg)|((with_reducible refine gate_dst (N:=3) rfl ?_);refine box_ev (N:=3) (cs:=#[.slice A1_0 l1_0.length c1_0,.slice A1_1 l1_1.length c1_1]) (t:=26) ?_;intro gb792 hg w46 hbox hb;have BK792:=Aside0.mk (hbox);have GW792 : Aside0 (w.heap.size ≤ gb792):=gsz hg;have GE792:=GW792;have NB791_792:=nbl BK791 hg;have NB792_791:=nbr BK791 hg;replace BK791:=bkb BK791 hb;replace HB:=Aside0.mk (below_step (hb_) hb);clear hb hbox hg;have hnb47:=NB791_792.out;have hnc47:=NB792_791.out;obtain ⟨hcz48_0,hcz48_1,hcz48_2,hfz48_0,hfz48_1,hfz48_2⟩:=cells3 BK791.out;obtain ⟨hcz49_0,hcz49_1,hfz49_0,hfz49_1⟩:=cells2 BK792.out)|((with_reducible refine gate_callee (f:=23) rfl ?_);refine goesL_ (some 16) rfl rfl Try.func23 (by kernel_rfl) rfl #[.agg #[.int .i64 a0_0,.int .i64 a0_1,.slice A0_2 l0_2.length c0_2],.agg #[.slice A1_0 l1_0.length c1_0,.slice A1_1 l1_1.length c1_1]] rfl (by (try simp only [List.map_toArray,List.map_cons,List.map_nil]);first|done|rfl|(simp only [List.length_drop,List.length_take];rfl)) ?_;(with_reducible refine (hinterlandref06_Validate.calls k a0_0 a0_1 _ _ l0_2 _ _ l1_0 _ _ l1_1 t793 _ ?side1 ?side2 ?side3 ?side4 ?side5 ?side6 A3.out).mono ?_);(case side1 => exact Kd.C_up (Kd.C_below HR0_2.out HB.out));(case side2 => exact HC0_2.out);(case side3 => exact Kd.C_up (Kd.C_below HR1_0.out HB.out));(case side4 => exact HC1_0.out);(case side5 => exact Kd.C_up (Kd.C_below HR1_1.out HB.out));(case side6 => exact HC1_1.out);rintro e w50 ⟨rfl,hb⟩;refine ⟨_,rfl,?_⟩;replace BK791:=bkb BK791 hb;replace BK792:=bkb BK792 hb;replace HB:=Aside0.mk (below_step (hb_) hb)))
  go_ret2
  exact ⟨_,by first|rfl|(simp [errW_none,errW_some] <;> rfl)|(simp [*,errW_none,errW_some] <;> rfl),by first|exact Kd.R_nil _ _ _ _ _|exact Kd.N_nil _ _ _ _ _|exact Kd.V_nil _ _ _ _ _|exact Kd.Q_nil _ _ _ _ _|exact Kd.S_nil _ _ _ _ _,hb_⟩

end Go.Proofs.Ytiencnnkphipoaa.P
