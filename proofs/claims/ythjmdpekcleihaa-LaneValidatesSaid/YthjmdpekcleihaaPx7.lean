/- Functions of this seat as plain Lean functions, with proofs that the Go code comes to just their answers, or what stands between them and a law's statement; no conditions. (Laid by a program of this session, out of the kit's print.) -/
import Derived.Test.YthjmdpekcleihaaPx0
import Derived.Test.YthjmdpekcleihaaPx6
namespace Go.Proofs.Ythjmdpekcleihaa.P
open Go.RowKit Go.Proofs.YthjmdpekcleihaaW.PrintWords Go.Proofs.YthjmdpekcleihaaW.PrintLast Go.Proofs.YthjmdpekcleihaaW.PrintMore
attribute [local go_sem] max2_int min2_int max_two min_two max_three min_three max_four min_four   -- for this text's walks alone
set_option linter.unusedVariables false
set_option linter.unusedSimpArgs false

/-! ### hinterlandlaw17_known: function 13 -/
def hinterlandlaw17_known.f (k : Nat)  : Option (Bool) := if 16 ≤ 35184372088832 then ((some (List.replicate 16 0 : List Int)).bind fun y143 => (if 0 < (y143.length : Int) then (if 1 < (y143.length : Int) then ((lane_Choose.f k 4 4 ((y143.set (0 : Int).toNat 1).set (1 : Int).toNat 4) (List.replicate 16 0) 1 (-1) 0).bind fun bt152 => (if bt152.1 = 2 then (if bt152.2.1 = true then (some (bt152.2.2 == 0)) else (some false)) else (some false))) else (none)) else (none))) else (none)
theorem hinterlandlaw17_known.mono : ∀ k, LeO (hinterlandlaw17_known.f k ) (hinterlandlaw17_known.f (k + 1) ) := by
 intro  k
 unfold hinterlandlaw17_known.f
 repeat' first
   | (with_reducible exact lane_Choose.mono _ _ _ _ _ _ _ _)
   | (with_reducible exact LeO.refl _)
   | (with_reducible exact LeO.none _)
   | (with_reducible refine LeO.ite ?_ ?_)
   | (with_reducible refine LeO.bind ?_ (fun _ => ?_))
   | exact lane_Choose.mono _ _ _ _ _ _ _ _
   | exact LeO.none _
   | refine LeO.ite ?_ ?_
   | refine LeO.bind ?_ (fun _ => ?_)
set_option maxHeartbeats 8000000 in
set_option maxRecDepth 100000 in
theorem hinterlandlaw17_known.calls (k : Nat)  (r : Bool) (w : World) (h : hinterlandlaw17_known.f k  = some r) :
  Calls Try.prog 13 #[] w fun e w' => e = .returned (.bool r) ∧ Below w.heap.size w w':=by
 have hu24:=Try.underlying24
 have HB:=Aside0.mk (Below.refl w.heap.size w)
 have H : (if 16 ≤ 35184372088832 then ((some (List.replicate 16 0 : List Int)).bind fun y143 => (if 0 < (y143.length : Int) then (if 1 < (y143.length : Int) then ((lane_Choose.f k 4 4 ((y143.set (0 : Int).toNat 1).set (1 : Int).toNat 4) (List.replicate 16 0) 1 (-1) 0).bind fun bt152 => (if bt152.1 = 2 then (if bt152.2.1 = true then (some (bt152.2.2 == 0)) else (some false)) else (some false))) else (none)) else (none))) else (none)) = some r:=h
 clear h
 replace H:=ifp_ H;obtain ⟨c1,H⟩:=H
 have c1b0:=eq_true c1
 have c1b1 : decide (16 ≤ 35184372088832) = true:=decide_eq_true c1
 clear c1
 obtain ⟨y143,hy143⟩ : ∃ y_ : List Int,y_ = (List.replicate 16 0):=⟨_,rfl⟩
 replace H : (if 0 < (y143.length : Int) then (if 1 < (y143.length : Int) then ((lane_Choose.f k 4 4 ((y143.set (0 : Int).toNat 1).set (1 : Int).toNat 4) (List.replicate 16 0) 1 (-1) 0).bind fun bt152 => (if bt152.1 = 2 then (if bt152.2.1 = true then (some (bt152.2.2 == 0)) else (some false)) else (some false))) else (none)) else (none)) = some r:=by first|(rw [hy143];with_reducible exact H)|(have H2_:=(Option.bind_some _ _).symm.trans H;rw [hy143];with_reducible exact H2_)|(have H2_:=(Option.bind_some _ _).symm.trans H;with_reducible exact H2_)|with_reducible exact H|(rw [hy143];exact H)|exact H
 have Ny143:=Aside0.mk hy143
 clear hy143
 obtain ⟨y146,hy146⟩ : ∃ y_ : List Int,y_ = (List.replicate 16 0):=⟨_,rfl⟩
 replace H : (if 0 < (y143.length : Int) then (if 1 < (y143.length : Int) then ((lane_Choose.f k 4 4 ((y143.set (0 : Int).toNat 1).set (1 : Int).toNat 4) y146 1 (-1) 0).bind fun bt152 => (if bt152.1 = 2 then (if bt152.2.1 = true then (some (bt152.2.2 == 0)) else (some false)) else (some false))) else (none)) else (none)) = some r:=by first|(rw [hy146];with_reducible exact H)|(have H2_:=(Option.bind_some _ _).symm.trans H;rw [hy146];with_reducible exact H2_)|(have H2_:=(Option.bind_some _ _).symm.trans H;with_reducible exact H2_)|with_reducible exact H|(rw [hy146];exact H)|exact H
 have Ny146:=Aside0.mk hy146
 clear hy146
 replace H:=ifp_ H;obtain ⟨c2,H⟩:=H
 have c2b0 : decide (0 < (y143.length : Int)) = true:=decide_eq_true c2
 have c2b1 : decide (0 < y143.length) = true:=decide_eq_true (by omega)
 clear c2
 obtain ⟨y150,hy150⟩ : ∃ y_ : List Int,y_ = (y143.set (0 : Int).toNat 1):=⟨_,rfl⟩
 replace H : (if 1 < (y143.length : Int) then ((lane_Choose.f k 4 4 (y150.set (1 : Int).toNat 4) y146 1 (-1) 0).bind fun bt152 => (if bt152.1 = 2 then (if bt152.2.1 = true then (some (bt152.2.2 == 0)) else (some false)) else (some false))) else (none)) = some r:=by first|(rw [hy150];with_reducible exact H)|(have H2_:=(Option.bind_some _ _).symm.trans H;rw [hy150];with_reducible exact H2_)|(have H2_:=(Option.bind_some _ _).symm.trans H;with_reducible exact H2_)|with_reducible exact H|(rw [hy150];exact H)|exact H
 have Ny150:=Aside0.mk hy150
 clear hy150
 replace H:=ifp_ H;obtain ⟨c4,H⟩:=H
 have c4b0 : decide (1 < (y143.length : Int)) = true:=decide_eq_true c4
 have c4b1 : decide (1 < y143.length) = true:=decide_eq_true (by omega)
 clear c4
 obtain ⟨y151,hy151⟩ : ∃ y_ : List Int,y_ = (y150.set (1 : Int).toNat 4):=⟨_,rfl⟩
 replace H : ((lane_Choose.f k 4 4 y151 y146 1 (-1) 0).bind fun bt152 => (if bt152.1 = 2 then (if bt152.2.1 = true then (some (bt152.2.2 == 0)) else (some false)) else (some false))) = some r:=by first|(rw [hy151];with_reducible exact H)|(have H2_:=(Option.bind_some _ _).symm.trans H;rw [hy151];with_reducible exact H2_)|(have H2_:=(Option.bind_some _ _).symm.trans H;with_reducible exact H2_)|with_reducible exact H|(rw [hy151];exact H)|exact H
 have Ny151:=Aside0.mk hy151
 clear hy151
 replace H:=Option.bind_eq_some_iff.mp H
 obtain ⟨⟨t152,t153,t154⟩,A60,H⟩:=H
 replace H : (if t152 = 2 then (if t153 = true then (some (t154 == 0)) else (some false)) else (some false)) = some r:=H
 have A6:=Aside0.mk A60
 clear A60
 by_cases c7 : t152 = 2
 rotate_left
 ·rw [if_neg c7] at H
  have c7b0 : (t152 == 2) = false:=beq_eq_false_iff_ne.mpr c7
  have c7b1 : (t152 != 2) = true:=bne_iff_ne.mpr c7
  obtain rfl:=Option.some.inj H
  go_enter Try.func13,Try.ntmps13
  try go_wp2
  replace HB:=Aside0.mk (below_drew1 HB.out)
  refine start_ (n:=5) (S:=fun w' => True) (ds:=[]) #[false,false,false,false,false] (by kernel_rfl) rfl rfl trivial (fun hHeld => ?_)
  generalize w.drew = w57 at HB hHeld ⊢
  refine join_ (σ:=Value × Value × Nat) 1 #[true,true,true,true,false] (fun s_ => [(5,s_.1),(6,s_.2.1),(1,.pointer (some ⟨s_.2.2,0,none⟩)),(7,.agg #[.int .i64 4,.int .i64 4,s_.1,s_.2.1])]) (fun s_ w' => (Kd.R (Kd.int .i64) 3 w' w.heap.size (fun k_ => some k_ ≠ (s_.2.1 : Value).ownBlock) s_.1 y143) ∧ (Kd.R (Kd.int .i64) 3 w' w.heap.size (fun k_ => some k_ ≠ (s_.1 : Value).ownBlock) s_.2.1 y146) ∧ (w'.heap[s_.2.2]? = some (.cells #[.int .i64 0,.int .i64 0,.slice none 0 0,.slice none 0 0] 24 (0,0))) ∧ (w.heap.size ≤ s_.2.2) ∧ (w.heap.size ≤ s_.2.2) ∧ (Below w.heap.size w w')) ?_ ?_
  rotate_left
  ·intro hJ0_1_3
   refine join_ (σ:=Value × Value) 2 #[true,true,true,false,false] (fun s_ => [(5,s_.1),(6,s_.2),(7,.agg #[.int .i64 4,.int .i64 4,s_.1,s_.2])]) (fun s_ w' => (Kd.R (Kd.int .i64) 3 w' w.heap.size (fun k_ => some k_ ≠ (s_.2 : Value).ownBlock) s_.1 y143) ∧ (Kd.R (Kd.int .i64) 3 w' w.heap.size (fun k_ => some k_ ≠ (s_.1 : Value).ownBlock) s_.2 y146) ∧ (Below w.heap.size w w')) ?_ ?_
   rotate_left
   ·intro hJ0_1
    refine join_ (σ:=Value × Nat) 3 #[true,false,false,true,false] (fun s_ => [(5,s_.1),(1,.pointer (some ⟨s_.2,0,none⟩))]) (fun s_ w' => (Kd.R (Kd.int .i64) 3 w' w.heap.size (fun _ => True) s_.1 y143) ∧ (w'.heap[s_.2]? = some (.cells #[.int .i64 0,.int .i64 0,.slice none 0 0,.slice none 0 0] 24 (0,0))) ∧ (w.heap.size ≤ s_.2) ∧ (w.heap.size ≤ s_.2) ∧ (Below w.heap.size w w')) ?_ ?_
    rotate_left
    ·intro hJ0_3
     refine join_ (σ:=Value × Nat) 3 #[false,true,false,true,false] (fun s_ => [(6,s_.1),(1,.pointer (some ⟨s_.2,0,none⟩))]) (fun s_ w' => (Kd.R (Kd.int .i64) 3 w' w.heap.size (fun _ => True) s_.1 y146) ∧ (w'.heap[s_.2]? = some (.cells #[.int .i64 0,.int .i64 0,.slice none 0 0,.slice none 0 0] 24 (0,0))) ∧ (w.heap.size ≤ s_.2) ∧ (w.heap.size ≤ s_.2) ∧ (Below w.heap.size w w')) ?_ ?_
     rotate_left
     ·intro hJ1_3
      refine join_ (σ:=Value) 4 #[true,false,false,false,false] (fun s_ => [(5,s_)]) (fun s_ w' => (Kd.R (Kd.int .i64) 3 w' w.heap.size (fun _ => True) s_ y143) ∧ (Below w.heap.size w w')) ?_ ?_
      rotate_left
      ·intro hJ0
       refine join_ (σ:=Value) 4 #[false,true,false,false,false] (fun s_ => [(6,s_)]) (fun s_ w' => (Kd.R (Kd.int .i64) 3 w' w.heap.size (fun _ => True) s_ y146) ∧ (Below w.heap.size w w')) ?_ ?_
       rotate_left
       ·intro hJ1
        refine join_ (σ:=Nat) 4 #[false,false,false,true,false] (fun s_ => [(1,.pointer (some ⟨s_,0,none⟩))]) (fun s_ w' => (w'.heap[s_]? = some (.cells #[.int .i64 0,.int .i64 0,.slice none 0 0,.slice none 0 0] 24 (0,0))) ∧ (w.heap.size ≤ s_) ∧ (w.heap.size ≤ s_) ∧ (Below w.heap.size w w')) ?_ ?_
        rotate_left
        ·intro hJ3
         refine three_ (i:=0) (j:=1) (k:=3) (Ni:=some 5) (Nj:=some 6) (Nk:=some 1) #[true,false,false,false,false] #[false,true,false,false,false] #[false,false,false,true,false] rfl rfl rfl rfl rfl rfl (by kernel_rfl) (by decide) (by decide) (by decide) (fun K hK => ?_) (fun K hK => ?_) (fun K hK => ?_)
         ·skip
          refine Kd.R_make_step (Kd.int .i64) _ 3 (by rfl) (N:=5) rfl 22 _ _ rfl 16 rfl rfl Try.underlying22 (.int .i64 0) 8 info3 rfl (by decide) (by omega) 0 (ok:=fun _ => True) (okp:=fun _ => True) rfl (fun _ hk => hk) trivial (by omega) (by omega) (Below.refl _ _) (Nat.le_refl _) ?_
          intro v144 w58 ho59 hb hg_ hnew_
          clear hg_ hnew_
          (first|rw [← Ny143.out] at ho59|(simp only [Int.reduceToNat] at ho59;rw [← Ny143.out] at ho59))
          have n0_:=rlo ho59
          have n1_:=Aside0.mk (below_step (hb_) hb)
          clear HB
          have HO145:=n0_
          have HB:=n1_
          clear n0_ n1_
          clear hb ho59
          refine hK.out _ _ trivial (fun hHeld => ?_)
          clear hK K
          refine norm_ (a':=?_) ?_ ?_
          rotate_left
          ·show Act.put _ (some 5) _ = _
           simp only [Act.put,List.setIfInBounds_toArray,List.set_cons_zero,List.set_cons_succ,i64_w,i32_w]
           rfl
          exact norm_ (by first|(simp only [putAll,Act.put,List.setIfInBounds_toArray,List.set_cons_zero,List.set_cons_succ];done)|(simp only [putAll,Act.put,List.setIfInBounds_toArray,List.set_cons_zero,List.set_cons_succ];rfl)) (hJ0 (v144) _ ⟨(Kd.R_up HO145.out),(hb_)⟩)
         ·skip
          refine Kd.R_make_step (Kd.int .i64) _ 3 (by rfl) (N:=6) rfl 22 _ _ rfl 16 rfl rfl Try.underlying22 (.int .i64 0) 8 info3 rfl (by decide) (by omega) 0 (ok:=fun _ => True) (okp:=fun _ => True) rfl (fun _ hk => hk) trivial (by omega) (by omega) (Below.refl _ _) (Nat.le_refl _) ?_
          intro v147 w58 ho59 hb hg_ hnew_
          clear hg_ hnew_
          (first|rw [← Ny146.out] at ho59|(simp only [Int.reduceToNat] at ho59;rw [← Ny146.out] at ho59))
          have n0_:=rlo ho59
          have n1_:=Aside0.mk (below_step (hb_) hb)
          clear HB
          have HO148:=n0_
          have HB:=n1_
          clear n0_ n1_
          clear hb ho59
          refine hK.out _ _ trivial (fun hHeld => ?_)
          clear hK K
          refine norm_ (a':=?_) ?_ ?_
          rotate_left
          ·show Act.put _ (some 6) _ = _
           simp only [Act.put,List.setIfInBounds_toArray,List.set_cons_zero,List.set_cons_succ,i64_w,i32_w]
           rfl
          exact norm_ (by first|(simp only [putAll,Act.put,List.setIfInBounds_toArray,List.set_cons_zero,List.set_cons_succ];done)|(simp only [putAll,Act.put,List.setIfInBounds_toArray,List.set_cons_zero,List.set_cons_succ];rfl)) (hJ1 (v147) _ ⟨(Kd.R_up HO148.out),(hb_)⟩)
         ·skip
          refine box_step ?hg (N:=1) ?hd (cs:=#[.int .i64 0,.int .i64 0,.slice none 0 0,.slice none 0 0]) (t:=24) ?hr ?_;(case hd => rfl);(case hg => rfl);(case hr => first|(go_simp;done)|(go_simp;rfl))
          intro gb149 hg w58 hbox hb
          have n0_:=Aside0.mk (below_step (hb_) hb)
          have n1_:=Aside0.mk (hbox)
          have n2_:=Aside0.mk ((by rw [hg];exact (below_size (hb_)) : w.heap.size ≤ gb149))
          have n3_:=Aside0.mk ((by rw [hg];exact (below_size (hb_)) : w.heap.size ≤ gb149))
          clear HB
          have HB:=n0_
          have BK149:=n1_
          have GW149:=n2_
          have GE149:=n3_
          clear n0_ n1_ n2_ n3_
          clear hb hbox hg
          refine hK.out _ _ trivial (fun hHeld => ?_)
          clear hK K
          refine norm_ (a':=?_) ?_ ?_
          rotate_left
          ·show Act.put _ (some 1) _ = _
           simp only [Act.put,List.setIfInBounds_toArray,List.set_cons_zero,List.set_cons_succ,i64_w,i32_w]
           rfl
          exact norm_ (by first|(simp only [putAll,Act.put,List.setIfInBounds_toArray,List.set_cons_zero,List.set_cons_succ];done)|(simp only [putAll,Act.put,List.setIfInBounds_toArray,List.set_cons_zero,List.set_cons_succ];rfl)) (hJ3 (gb149) _ ⟨(blk_up BK149.out),GW149.out,GE149.out,(hb_)⟩)
        ·skip
         rintro gb149 w59 ⟨h0_,h1_,h2_,h3_⟩
         have n0_ : Aside0 (w59.heap[gb149]? = some (.cells #[.int .i64 0,.int .i64 0,.slice none 0 0,.slice none 0 0] 24 (0,0))):=⟨h0_⟩
         have n1_ : Aside0 (w.heap.size ≤ gb149):=⟨h1_⟩
         have n2_ : Aside0 (w.heap.size ≤ gb149):=⟨h2_⟩
         have n3_ : Aside0 (Below w.heap.size w w59):=⟨h3_⟩
         clear HB
         clear h0_ h1_ h2_ h3_
         have BK149:=n0_
         have GW149:=n1_
         have GE149:=n2_
         have HB:=n3_
         clear n0_ n1_ n2_ n3_
         have hHeld:=trivial
         refine norm_ (a':=?_) ?_ ?_
         rotate_left
         ·simp only [putAll,Act.put,List.setIfInBounds_toArray,List.set_cons_zero,List.set_cons_succ]
          rfl
         refine two_ (i:=0) (j:=1) (Ni:=some 5) (Nj:=some 6) #[true,false,false,true,false] #[false,true,false,true,false] rfl rfl rfl rfl (by kernel_rfl) (by decide) (by decide) (fun K hK => ?_) (fun K hK => ?_)
         ·skip
          refine Kd.R_make_step (Kd.int .i64) _ 3 (by rfl) (N:=5) rfl 22 _ _ rfl 16 rfl rfl Try.underlying22 (.int .i64 0) 8 info3 rfl (by decide) (by omega) 0 (ok:=fun _ => True) (okp:=fun _ => True) rfl (fun _ hk => hk) trivial (by omega) (by omega) (Below.refl _ _) (Nat.le_refl _) ?_
          intro v144 w60 ho61 hb hg_ hnew_
          clear hg_ hnew_
          (first|rw [← Ny143.out] at ho61|(simp only [Int.reduceToNat] at ho61;rw [← Ny143.out] at ho61))
          have n0_:=rlo ho61
          have n1_:=bkb BK149 hb
          have n2_:=Aside0.mk (below_step (hb_) hb)
          clear BK149
          clear HB
          have HO145:=n0_
          have BK149:=n1_
          have HB:=n2_
          clear n0_ n1_ n2_
          clear hb ho61
          refine hK.out _ _ trivial (fun hHeld => ?_)
          clear hK K
          refine norm_ (a':=?_) ?_ ?_
          rotate_left
          ·show Act.put _ (some 5) _ = _
           simp only [Act.put,List.setIfInBounds_toArray,List.set_cons_zero,List.set_cons_succ,i64_w,i32_w]
           rfl
          exact norm_ (by first|(simp only [putAll,Act.put,List.setIfInBounds_toArray,List.set_cons_zero,List.set_cons_succ];done)|(simp only [putAll,Act.put,List.setIfInBounds_toArray,List.set_cons_zero,List.set_cons_succ];rfl)) (hJ0_3 (v144,gb149) _ ⟨(Kd.R_up HO145.out),(blk_up BK149.out),GW149.out,GE149.out,(hb_)⟩)
         ·skip
          refine Kd.R_make_step (Kd.int .i64) _ 3 (by rfl) (N:=6) rfl 22 _ _ rfl 16 rfl rfl Try.underlying22 (.int .i64 0) 8 info3 rfl (by decide) (by omega) 0 (ok:=fun _ => True) (okp:=fun _ => True) rfl (fun _ hk => hk) trivial (by omega) (by omega) (Below.refl _ _) (Nat.le_refl _) ?_
          intro v147 w60 ho61 hb hg_ hnew_
          clear hg_ hnew_
          (first|rw [← Ny146.out] at ho61|(simp only [Int.reduceToNat] at ho61;rw [← Ny146.out] at ho61))
          have n0_:=rlo ho61
          have n1_:=bkb BK149 hb
          have n2_:=Aside0.mk (below_step (hb_) hb)
          clear BK149
          clear HB
          have HO148:=n0_
          have BK149:=n1_
          have HB:=n2_
          clear n0_ n1_ n2_
          clear hb ho61
          refine hK.out _ _ trivial (fun hHeld => ?_)
          clear hK K
          refine norm_ (a':=?_) ?_ ?_
          rotate_left
          ·show Act.put _ (some 6) _ = _
           simp only [Act.put,List.setIfInBounds_toArray,List.set_cons_zero,List.set_cons_succ,i64_w,i32_w]
           rfl
          exact norm_ (by first|(simp only [putAll,Act.put,List.setIfInBounds_toArray,List.set_cons_zero,List.set_cons_succ];done)|(simp only [putAll,Act.put,List.setIfInBounds_toArray,List.set_cons_zero,List.set_cons_succ];rfl)) (hJ1_3 (v147,gb149) _ ⟨(Kd.R_up HO148.out),(blk_up BK149.out),GW149.out,GE149.out,(hb_)⟩)
       ·skip
        rintro v147 w60 ⟨h0_,h1_⟩
        have n0_ : Aside0 (Kd.R (Kd.int .i64) 3 w60 w.heap.size (fun _ => True) v147 y146):=⟨h0_⟩
        have n1_ : Aside0 (Below w.heap.size w w60):=⟨h1_⟩
        clear HB
        clear h0_ h1_
        have HO148:=n0_
        have HB:=n1_
        clear n0_ n1_
        have hHeld:=trivial
        refine norm_ (a':=?_) ?_ ?_
        rotate_left
        ·simp only [putAll,Act.put,List.setIfInBounds_toArray,List.set_cons_zero,List.set_cons_succ]
         rfl
        refine two_ (i:=0) (j:=3) (Ni:=some 5) (Nj:=some 1) #[true,true,false,false,false] #[false,true,false,true,false] rfl rfl rfl rfl (by kernel_rfl) (by decide) (by decide) (fun K hK => ?_) (fun K hK => ?_)
        ·skip
         refine Kd.R_make_step (Kd.int .i64) _ 3 (by rfl) (N:=5) rfl 22 _ _ rfl 16 rfl rfl Try.underlying22 (.int .i64 0) 8 info3 rfl (by decide) (by omega) 0 (ok:=fun _ => True) (okp:=fun _ => True) rfl (fun _ hk => hk) trivial (by omega) (by omega) (Below.refl _ _) (Nat.le_refl _) ?_
         intro v144 w61 ho62 hb hg_ hnew_
         clear hg_ hnew_
         (first|rw [← Ny143.out] at ho62|(simp only [Int.reduceToNat] at ho62;rw [← Ny143.out] at ho62))
         have n0_:=Aside0.mk (Kd.R_elder' (Kd.R_up HO148.out) (Kd.R_base ho62) hb)
         have n1_:=Aside0.mk (Kd.R_lower (Kd.R_new' ho62 (Kd.R_lt (Kd.R_up HO148.out))) (below_size (hb_)))
         have n2_:=Aside0.mk (below_step (hb_) hb)
         clear HO148
         clear HB
         have HO148:=n0_
         have HO145:=n1_
         have HB:=n2_
         clear n0_ n1_ n2_
         clear hb ho62
         obtain ⟨Ao63,co63,eo63⟩:=Kd.R_slice HO148.out
         (first|subst eo63|(injection eo63 with f1_ f2_ f3_;have f4_:=f1_.symm;have f5_:=f3_.symm;clear f1_ f2_ f3_;subst f4_;subst f5_))
         obtain ⟨Ao64,co64,eo64⟩:=Kd.R_slice HO145.out
         (first|subst eo64|(injection eo64 with f1_ f2_ f3_;have f4_:=f1_.symm;have f5_:=f3_.symm;clear f1_ f2_ f3_;subst f4_;subst f5_))
         refine hK.out _ _ trivial (fun hHeld => ?_)
         clear hK K
         refine norm_ (a':=?_) ?_ ?_
         rotate_left
         ·show Act.put _ (some 5) _ = _
          simp only [Act.put,List.setIfInBounds_toArray,List.set_cons_zero,List.set_cons_succ,i64_w,i32_w]
          rfl
         refine pI 2 (some 7) ?_
         exact norm_ (by first|(simp only [putAll,Act.put,List.setIfInBounds_toArray,List.set_cons_zero,List.set_cons_succ];done)|(simp only [putAll,Act.put,List.setIfInBounds_toArray,List.set_cons_zero,List.set_cons_succ];rfl)) (hJ0_1 (.slice Ao64 y143.length co64,.slice Ao63 y146.length co63) _ ⟨(by (with_reducible repeat (first|apply Kd.R_alloc|apply Kd.R_drewN|apply Kd.R_drew));exact Kd.R_mono HO145.out (fun _ hk => hk.2)),(by (with_reducible repeat (first|apply Kd.R_alloc|apply Kd.R_drewN|apply Kd.R_drew));exact Kd.R_mono HO148.out (fun _ hk => hk.2)),(hb_)⟩)
        ·skip
         refine box_step ?hg (N:=1) ?hd (cs:=#[.int .i64 0,.int .i64 0,.slice none 0 0,.slice none 0 0]) (t:=24) ?hr ?_;(case hd => rfl);(case hg => rfl);(case hr => first|(go_simp;done)|(go_simp;rfl))
         intro gb149 hg w61 hbox hb
         have n0_:=rbw HO148 hb
         have n1_:=Aside0.mk (below_step (hb_) hb)
         have n2_:=Aside0.mk (hbox)
         have n3_:=Aside0.mk ((by rw [hg];exact (below_size (hb_)) : w.heap.size ≤ gb149))
         have n4_:=Aside0.mk ((by rw [hg];exact (below_size (hb_)) : w.heap.size ≤ gb149))
         clear HO148
         clear HB
         have HO148:=n0_
         have HB:=n1_
         have BK149:=n2_
         have GW149:=n3_
         have GE149:=n4_
         clear n0_ n1_ n2_ n3_ n4_
         clear hb hbox hg
         refine hK.out _ _ trivial (fun hHeld => ?_)
         clear hK K
         refine norm_ (a':=?_) ?_ ?_
         rotate_left
         ·show Act.put _ (some 1) _ = _
          simp only [Act.put,List.setIfInBounds_toArray,List.set_cons_zero,List.set_cons_succ,i64_w,i32_w]
          rfl
         exact norm_ (by first|(simp only [putAll,Act.put,List.setIfInBounds_toArray,List.set_cons_zero,List.set_cons_succ];done)|(simp only [putAll,Act.put,List.setIfInBounds_toArray,List.set_cons_zero,List.set_cons_succ];rfl)) (hJ1_3 (v147,gb149) _ ⟨(Kd.R_up HO148.out),(blk_up BK149.out),GW149.out,GE149.out,(hb_)⟩)
      ·skip
       rintro v144 w60 ⟨h0_,h1_⟩
       have n0_ : Aside0 (Kd.R (Kd.int .i64) 3 w60 w.heap.size (fun _ => True) v144 y143):=⟨h0_⟩
       have n1_ : Aside0 (Below w.heap.size w w60):=⟨h1_⟩
       clear HB
       clear h0_ h1_
       have HO145:=n0_
       have HB:=n1_
       clear n0_ n1_
       have hHeld:=trivial
       refine norm_ (a':=?_) ?_ ?_
       rotate_left
       ·simp only [putAll,Act.put,List.setIfInBounds_toArray,List.set_cons_zero,List.set_cons_succ]
        rfl
       refine two_ (i:=1) (j:=3) (Ni:=some 6) (Nj:=some 1) #[true,true,false,false,false] #[true,false,false,true,false] rfl rfl rfl rfl (by kernel_rfl) (by decide) (by decide) (fun K hK => ?_) (fun K hK => ?_)
       ·skip
        refine Kd.R_make_step (Kd.int .i64) _ 3 (by rfl) (N:=6) rfl 22 _ _ rfl 16 rfl rfl Try.underlying22 (.int .i64 0) 8 info3 rfl (by decide) (by omega) 0 (ok:=fun _ => True) (okp:=fun _ => True) rfl (fun _ hk => hk) trivial (by omega) (by omega) (Below.refl _ _) (Nat.le_refl _) ?_
        intro v147 w61 ho62 hb hg_ hnew_
        clear hg_ hnew_
        (first|rw [← Ny146.out] at ho62|(simp only [Int.reduceToNat] at ho62;rw [← Ny146.out] at ho62))
        have n0_:=Aside0.mk (Kd.R_elder' (Kd.R_up HO145.out) (Kd.R_base ho62) hb)
        have n1_:=Aside0.mk (Kd.R_lower (Kd.R_new' ho62 (Kd.R_lt (Kd.R_up HO145.out))) (below_size (hb_)))
        have n2_:=Aside0.mk (below_step (hb_) hb)
        clear HO145
        clear HB
        have HO145:=n0_
        have HO148:=n1_
        have HB:=n2_
        clear n0_ n1_ n2_
        clear hb ho62
        obtain ⟨Ao63,co63,eo63⟩:=Kd.R_slice HO148.out
        (first|subst eo63|(injection eo63 with f1_ f2_ f3_;have f4_:=f1_.symm;have f5_:=f3_.symm;clear f1_ f2_ f3_;subst f4_;subst f5_))
        obtain ⟨Ao64,co64,eo64⟩:=Kd.R_slice HO145.out
        (first|subst eo64|(injection eo64 with f1_ f2_ f3_;have f4_:=f1_.symm;have f5_:=f3_.symm;clear f1_ f2_ f3_;subst f4_;subst f5_))
        refine hK.out _ _ trivial (fun hHeld => ?_)
        clear hK K
        refine norm_ (a':=?_) ?_ ?_
        rotate_left
        ·show Act.put _ (some 6) _ = _
         simp only [Act.put,List.setIfInBounds_toArray,List.set_cons_zero,List.set_cons_succ,i64_w,i32_w]
         rfl
        refine pI 2 (some 7) ?_
        exact norm_ (by first|(simp only [putAll,Act.put,List.setIfInBounds_toArray,List.set_cons_zero,List.set_cons_succ];done)|(simp only [putAll,Act.put,List.setIfInBounds_toArray,List.set_cons_zero,List.set_cons_succ];rfl)) (hJ0_1 (.slice Ao64 y143.length co64,.slice Ao63 y146.length co63) _ ⟨(by (with_reducible repeat (first|apply Kd.R_alloc|apply Kd.R_drewN|apply Kd.R_drew));exact Kd.R_mono HO145.out (fun _ hk => hk.2)),(by (with_reducible repeat (first|apply Kd.R_alloc|apply Kd.R_drewN|apply Kd.R_drew));exact Kd.R_mono HO148.out (fun _ hk => hk.2)),(hb_)⟩)
       ·skip
        refine box_step ?hg (N:=1) ?hd (cs:=#[.int .i64 0,.int .i64 0,.slice none 0 0,.slice none 0 0]) (t:=24) ?hr ?_;(case hd => rfl);(case hg => rfl);(case hr => first|(go_simp;done)|(go_simp;rfl))
        intro gb149 hg w61 hbox hb
        have n0_:=rbw HO145 hb
        have n1_:=Aside0.mk (below_step (hb_) hb)
        have n2_:=Aside0.mk (hbox)
        have n3_:=Aside0.mk ((by rw [hg];exact (below_size (hb_)) : w.heap.size ≤ gb149))
        have n4_:=Aside0.mk ((by rw [hg];exact (below_size (hb_)) : w.heap.size ≤ gb149))
        clear HO145
        clear HB
        have HO145:=n0_
        have HB:=n1_
        have BK149:=n2_
        have GW149:=n3_
        have GE149:=n4_
        clear n0_ n1_ n2_ n3_ n4_
        clear hb hbox hg
        refine hK.out _ _ trivial (fun hHeld => ?_)
        clear hK K
        refine norm_ (a':=?_) ?_ ?_
        rotate_left
        ·show Act.put _ (some 1) _ = _
         simp only [Act.put,List.setIfInBounds_toArray,List.set_cons_zero,List.set_cons_succ,i64_w,i32_w]
         rfl
        exact norm_ (by first|(simp only [putAll,Act.put,List.setIfInBounds_toArray,List.set_cons_zero,List.set_cons_succ];done)|(simp only [putAll,Act.put,List.setIfInBounds_toArray,List.set_cons_zero,List.set_cons_succ];rfl)) (hJ0_3 (v144,gb149) _ ⟨(Kd.R_up HO145.out),(blk_up BK149.out),GW149.out,GE149.out,(hb_)⟩)
     ·skip
      rintro ⟨v147,gb149⟩ w61 ⟨h0_,h1_,h2_,h3_,h4_⟩
      have n0_ : Aside0 (Kd.R (Kd.int .i64) 3 w61 w.heap.size (fun _ => True) v147 y146):=⟨h0_⟩
      have n1_ : Aside0 (w61.heap[gb149]? = some (.cells #[.int .i64 0,.int .i64 0,.slice none 0 0,.slice none 0 0] 24 (0,0))):=⟨h1_⟩
      have n2_ : Aside0 (w.heap.size ≤ gb149):=⟨h2_⟩
      have n3_ : Aside0 (w.heap.size ≤ gb149):=⟨h3_⟩
      have n4_ : Aside0 (Below w.heap.size w w61):=⟨h4_⟩
      clear HB
      clear h0_ h1_ h2_ h3_ h4_
      have HO148:=n0_
      have BK149:=n1_
      have GW149:=n2_
      have GE149:=n3_
      have HB:=n4_
      clear n0_ n1_ n2_ n3_ n4_
      have hHeld:=trivial
      refine norm_ (a':=?_) ?_ ?_
      rotate_left
      ·simp only [putAll,Act.put,List.setIfInBounds_toArray,List.set_cons_zero,List.set_cons_succ]
       rfl
      refine oI 0 (some 5) (fun K hK => ?_)
      refine Kd.R_make_step (Kd.int .i64) _ 3 (by rfl) (N:=5) rfl 22 _ _ rfl 16 rfl rfl Try.underlying22 (.int .i64 0) 8 info3 rfl (by decide) (by omega) 0 (ok:=fun _ => True) (okp:=fun _ => True) rfl (fun _ hk => hk) trivial (by omega) (by omega) (Below.refl _ _) (Nat.le_refl _) ?_
      intro v144 w62 ho63 hb hg_ hnew_
      clear hg_ hnew_
      (first|rw [← Ny143.out] at ho63|(simp only [Int.reduceToNat] at ho63;rw [← Ny143.out] at ho63))
      have n0_:=Aside0.mk (Kd.R_elder' (Kd.R_up HO148.out) (Kd.R_base ho63) hb)
      have n1_:=Aside0.mk (Kd.R_lower (Kd.R_new' ho63 (Kd.R_lt (Kd.R_up HO148.out))) (below_size (hb_)))
      have n2_:=bkb BK149 hb
      have n3_:=Aside0.mk (below_step (hb_) hb)
      clear HO148
      clear BK149
      clear HB
      have HO148:=n0_
      have HO145:=n1_
      have BK149:=n2_
      have HB:=n3_
      clear n0_ n1_ n2_ n3_
      clear hb ho63
      obtain ⟨Ao64,co64,eo64⟩:=Kd.R_slice HO148.out
      (first|subst eo64|(injection eo64 with f1_ f2_ f3_;have f4_:=f1_.symm;have f5_:=f3_.symm;clear f1_ f2_ f3_;subst f4_;subst f5_))
      obtain ⟨Ao65,co65,eo65⟩:=Kd.R_slice HO145.out
      (first|subst eo65|(injection eo65 with f1_ f2_ f3_;have f4_:=f1_.symm;have f5_:=f3_.symm;clear f1_ f2_ f3_;subst f4_;subst f5_))
      refine hK.out _ _ trivial (fun hHeld => ?_)
      clear hK K
      refine norm_ (a':=?_) ?_ ?_
      rotate_left
      ·show Act.put _ (some 5) _ = _
       simp only [Act.put,List.setIfInBounds_toArray,List.set_cons_zero,List.set_cons_succ,i64_w,i32_w]
       rfl
      refine pI 2 (some 7) ?_
      exact norm_ (by first|(simp only [putAll,Act.put,List.setIfInBounds_toArray,List.set_cons_zero,List.set_cons_succ];done)|(simp only [putAll,Act.put,List.setIfInBounds_toArray,List.set_cons_zero,List.set_cons_succ];rfl)) (hJ0_1_3 (.slice Ao65 y143.length co65,.slice Ao64 y146.length co64,gb149) _ ⟨(by (with_reducible repeat (first|apply Kd.R_alloc|apply Kd.R_drewN|apply Kd.R_drew));exact Kd.R_mono HO145.out (fun _ hk => hk.2)),(by (with_reducible repeat (first|apply Kd.R_alloc|apply Kd.R_drewN|apply Kd.R_drew));exact Kd.R_mono HO148.out (fun _ hk => hk.2)),(blk_up BK149.out),GW149.out,GE149.out,(hb_)⟩)
    ·skip
     rintro ⟨v144,gb149⟩ w61 ⟨h0_,h1_,h2_,h3_,h4_⟩
     have n0_ : Aside0 (Kd.R (Kd.int .i64) 3 w61 w.heap.size (fun _ => True) v144 y143):=⟨h0_⟩
     have n1_ : Aside0 (w61.heap[gb149]? = some (.cells #[.int .i64 0,.int .i64 0,.slice none 0 0,.slice none 0 0] 24 (0,0))):=⟨h1_⟩
     have n2_ : Aside0 (w.heap.size ≤ gb149):=⟨h2_⟩
     have n3_ : Aside0 (w.heap.size ≤ gb149):=⟨h3_⟩
     have n4_ : Aside0 (Below w.heap.size w w61):=⟨h4_⟩
     clear HB
     clear h0_ h1_ h2_ h3_ h4_
     have HO145:=n0_
     have BK149:=n1_
     have GW149:=n2_
     have GE149:=n3_
     have HB:=n4_
     clear n0_ n1_ n2_ n3_ n4_
     have hHeld:=trivial
     refine norm_ (a':=?_) ?_ ?_
     rotate_left
     ·simp only [putAll,Act.put,List.setIfInBounds_toArray,List.set_cons_zero,List.set_cons_succ]
      rfl
     refine oI 1 (some 6) (fun K hK => ?_)
     refine Kd.R_make_step (Kd.int .i64) _ 3 (by rfl) (N:=6) rfl 22 _ _ rfl 16 rfl rfl Try.underlying22 (.int .i64 0) 8 info3 rfl (by decide) (by omega) 0 (ok:=fun _ => True) (okp:=fun _ => True) rfl (fun _ hk => hk) trivial (by omega) (by omega) (Below.refl _ _) (Nat.le_refl _) ?_
     intro v147 w62 ho63 hb hg_ hnew_
     clear hg_ hnew_
     (first|rw [← Ny146.out] at ho63|(simp only [Int.reduceToNat] at ho63;rw [← Ny146.out] at ho63))
     have n0_:=Aside0.mk (Kd.R_elder' (Kd.R_up HO145.out) (Kd.R_base ho63) hb)
     have n1_:=Aside0.mk (Kd.R_lower (Kd.R_new' ho63 (Kd.R_lt (Kd.R_up HO145.out))) (below_size (hb_)))
     have n2_:=bkb BK149 hb
     have n3_:=Aside0.mk (below_step (hb_) hb)
     clear HO145
     clear BK149
     clear HB
     have HO145:=n0_
     have HO148:=n1_
     have BK149:=n2_
     have HB:=n3_
     clear n0_ n1_ n2_ n3_
     clear hb ho63
     obtain ⟨Ao64,co64,eo64⟩:=Kd.R_slice HO148.out
     (first|subst eo64|(injection eo64 with f1_ f2_ f3_;have f4_:=f1_.symm;have f5_:=f3_.symm;clear f1_ f2_ f3_;subst f4_;subst f5_))
     obtain ⟨Ao65,co65,eo65⟩:=Kd.R_slice HO145.out
     (first|subst eo65|(injection eo65 with f1_ f2_ f3_;have f4_:=f1_.symm;have f5_:=f3_.symm;clear f1_ f2_ f3_;subst f4_;subst f5_))
     refine hK.out _ _ trivial (fun hHeld => ?_)
     clear hK K
     refine norm_ (a':=?_) ?_ ?_
     rotate_left
     ·show Act.put _ (some 6) _ = _
      simp only [Act.put,List.setIfInBounds_toArray,List.set_cons_zero,List.set_cons_succ,i64_w,i32_w]
      rfl
     refine pI 2 (some 7) ?_
     exact norm_ (by first|(simp only [putAll,Act.put,List.setIfInBounds_toArray,List.set_cons_zero,List.set_cons_succ];done)|(simp only [putAll,Act.put,List.setIfInBounds_toArray,List.set_cons_zero,List.set_cons_succ];rfl)) (hJ0_1_3 (.slice Ao65 y143.length co65,.slice Ao64 y146.length co64,gb149) _ ⟨(by (with_reducible repeat (first|apply Kd.R_alloc|apply Kd.R_drewN|apply Kd.R_drew));exact Kd.R_mono HO145.out (fun _ hk => hk.2)),(by (with_reducible repeat (first|apply Kd.R_alloc|apply Kd.R_drewN|apply Kd.R_drew));exact Kd.R_mono HO148.out (fun _ hk => hk.2)),(blk_up BK149.out),GW149.out,GE149.out,(hb_)⟩)
   ·skip
    rintro ⟨v144,v147⟩ w64 ⟨h0_,h1_,h2_⟩
    have n0_ : Aside0 (Kd.R (Kd.int .i64) 3 w64 w.heap.size (fun k_ => some k_ ≠ (v147 : Value).ownBlock) v144 y143):=⟨h0_⟩
    have n1_ : Aside0 (Kd.R (Kd.int .i64) 3 w64 w.heap.size (fun k_ => some k_ ≠ (v144 : Value).ownBlock) v147 y146):=⟨h1_⟩
    have n2_ : Aside0 (Below w.heap.size w w64):=⟨h2_⟩
    clear HB
    clear h0_ h1_ h2_
    have HO145:=n0_
    have HO148:=n1_
    have HB:=n2_
    clear n0_ n1_ n2_
    have hHeld:=trivial
    obtain ⟨Ao65,co65,eo65⟩:=Kd.R_slice HO148.out
    (first|subst eo65|(injection eo65 with f1_ f2_ f3_;have f4_:=f1_.symm;have f5_:=f3_.symm;clear f1_ f2_ f3_;subst f4_;subst f5_))
    obtain ⟨Ao66,co66,eo66⟩:=Kd.R_slice HO145.out
    (first|subst eo66|(injection eo66 with f1_ f2_ f3_;have f4_:=f1_.symm;have f5_:=f3_.symm;clear f1_ f2_ f3_;subst f4_;subst f5_))
    refine norm_ (a':=?_) ?_ ?_
    rotate_left
    ·simp only [putAll,Act.put,List.setIfInBounds_toArray,List.set_cons_zero,List.set_cons_succ]
     rfl
    refine oI 3 (some 1) (fun K hK => ?_)
    refine box_step ?hg (N:=1) ?hd (cs:=#[.int .i64 0,.int .i64 0,.slice none 0 0,.slice none 0 0]) (t:=24) ?hr ?_;(case hd => rfl);(case hg => rfl);(case hr => first|(go_simp;done)|(go_simp;rfl))
    intro gb149 hg w67 hbox hb
    have n0_:=rbw HO145 hb
    have n1_:=rbw HO148 hb
    have n2_:=Aside0.mk (below_step (hb_) hb)
    have n3_:=Aside0.mk (hbox)
    have n4_:=Aside0.mk ((by rw [hg];exact (below_size (hb_)) : w.heap.size ≤ gb149))
    have n5_:=Aside0.mk ((by rw [hg];exact (below_size (hb_)) : w.heap.size ≤ gb149))
    clear HO145
    clear HO148
    clear HB
    have HO145:=n0_
    have HO148:=n1_
    have HB:=n2_
    have BK149:=n3_
    have GW149:=n4_
    have GE149:=n5_
    clear n0_ n1_ n2_ n3_ n4_ n5_
    clear hb hbox hg
    refine hK.out _ _ trivial (fun hHeld => ?_)
    clear hK K
    refine norm_ (a':=?_) ?_ ?_
    rotate_left
    ·show Act.put _ (some 1) _ = _
     simp only [Act.put,List.setIfInBounds_toArray,List.set_cons_zero,List.set_cons_succ,i64_w,i32_w]
     rfl
    exact norm_ (by first|(simp only [putAll,Act.put,List.setIfInBounds_toArray,List.set_cons_zero,List.set_cons_succ];done)|(simp only [putAll,Act.put,List.setIfInBounds_toArray,List.set_cons_zero,List.set_cons_succ];rfl)) (hJ0_1_3 (.slice Ao66 y143.length co66,.slice Ao65 y146.length co65,gb149) _ ⟨(Kd.R_up HO145.out),(Kd.R_up HO148.out),(blk_up BK149.out),GW149.out,GE149.out,(hb_)⟩)
  rintro ⟨v144,v147,gb149⟩ w65 ⟨h0_,h1_,h2_,h3_,h4_,h5_⟩
  have n0_ : Aside0 (Kd.R (Kd.int .i64) 3 w65 w.heap.size (fun k_ => some k_ ≠ (v147 : Value).ownBlock) v144 y143):=⟨h0_⟩
  have n1_ : Aside0 (Kd.R (Kd.int .i64) 3 w65 w.heap.size (fun k_ => some k_ ≠ (v144 : Value).ownBlock) v147 y146):=⟨h1_⟩
  have n2_ : Aside0 (w65.heap[gb149]? = some (.cells #[.int .i64 0,.int .i64 0,.slice none 0 0,.slice none 0 0] 24 (0,0))):=⟨h2_⟩
  have n3_ : Aside0 (w.heap.size ≤ gb149):=⟨h3_⟩
  have n4_ : Aside0 (w.heap.size ≤ gb149):=⟨h4_⟩
  have n5_ : Aside0 (Below w.heap.size w w65):=⟨h5_⟩
  clear HB
  clear h0_ h1_ h2_ h3_ h4_ h5_
  have HO145:=n0_
  have HO148:=n1_
  have BK149:=n2_
  have GW149:=n3_
  have GE149:=n4_
  have HB:=n5_
  clear n0_ n1_ n2_ n3_ n4_ n5_
  have hHeld:=trivial
  obtain ⟨Ao66,co66,eo66⟩:=Kd.R_slice HO148.out
  (first|subst eo66|(injection eo66 with f1_ f2_ f3_;have f4_:=f1_.symm;have f5_:=f3_.symm;clear f1_ f2_ f3_;subst f4_;subst f5_))
  obtain ⟨Ao67,co67,eo67⟩:=Kd.R_slice HO145.out
  (first|subst eo67|(injection eo67 with f1_ f2_ f3_;have f4_:=f1_.symm;have f5_:=f3_.symm;clear f1_ f2_ f3_;subst f4_;subst f5_))
  refine norm_ (a':=?_) ?_ ?_
  rotate_left
  ·simp only [putAll,Act.put,List.setIfInBounds_toArray,List.set_cons_zero,List.set_cons_succ]
   rfl
  refine oI 4 (none) (fun K hK => ?_)
  have hs68 : w65.cell? ⟨gb149,0,none⟩ = some (.int .i64 0):=(blk_cell BK149.out 0).trans rfl
  have hfs68:=blk_frozen BK149.out 0
  have hs69 : w65.cell? ⟨gb149,1,none⟩ = some (.int .i64 0):=(blk_cell BK149.out 1).trans rfl
  have hfs69:=blk_frozen BK149.out 1
  have hs70 : w65.cell? ⟨gb149,2,none⟩ = some (.slice none 0 0):=(blk_cell BK149.out 2).trans rfl
  have hfs70:=blk_frozen BK149.out 2
  have hs71 : w65.cell? ⟨gb149,3,none⟩ = some (.slice none 0 0):=(blk_cell BK149.out 3).trans rfl
  have hfs71:=blk_frozen BK149.out 3
  refine skip_ (w1:=?_) (by rfl) rfl ?_ ?_
  rotate_left
  ·go_simp
   rfl
  refine hK.out _ _ trivial (fun hHeld => ?_)
  clear hK K
  refine done_ (by kernel_rfl) ?_
  have n0_ : Aside0 (Kd.R (Kd.int .i64) 3 ((((w65.setCell ⟨gb149,0,none⟩ (.int .i64 4)).setCell ⟨gb149,1,none⟩ (.int .i64 4)).setCell ⟨gb149,2,none⟩ (.slice Ao67 y143.length co67)).setCell ⟨gb149,3,none⟩ (.slice Ao66 y146.length co66)) w.heap.size (fun k_ => some k_ ≠ (.slice Ao66 y146.length co66 : Value).ownBlock) (.slice Ao67 y143.length co67) y143):=⟨by (with_reducible repeat (first|apply Kd.R_alloc|apply Kd.R_drewN|apply Kd.R_drew));exact Kd.R_mono (Kd.R_fars gb149 (Kd.R_types HO145.out BK149.out (by decide)) (fun _ hk => hk.2)) (fun _ hk => hk.1)⟩
  have n1_ : Aside0 (Kd.R (Kd.int .i64) 3 ((((w65.setCell ⟨gb149,0,none⟩ (.int .i64 4)).setCell ⟨gb149,1,none⟩ (.int .i64 4)).setCell ⟨gb149,2,none⟩ (.slice Ao67 y143.length co67)).setCell ⟨gb149,3,none⟩ (.slice Ao66 y146.length co66)) w.heap.size (fun k_ => some k_ ≠ (.slice Ao67 y143.length co67 : Value).ownBlock) (.slice Ao66 y146.length co66) y146):=⟨by (with_reducible repeat (first|apply Kd.R_alloc|apply Kd.R_drewN|apply Kd.R_drew));exact Kd.R_mono (Kd.R_fars gb149 (Kd.R_types HO148.out BK149.out (by decide)) (fun _ hk => hk.2)) (fun _ hk => hk.1)⟩
  have n2_ : Aside0 (((((w65.setCell ⟨gb149,0,none⟩ (.int .i64 4)).setCell ⟨gb149,1,none⟩ (.int .i64 4)).setCell ⟨gb149,2,none⟩ (.slice Ao67 y143.length co67)).setCell ⟨gb149,3,none⟩ (.slice Ao66 y146.length co66)).heap[gb149]? = some (.cells #[.int .i64 4,.int .i64 4,.slice Ao67 y143.length co67,.slice Ao66 y146.length co66] 24 (0,0))):=⟨by (with_reducible repeat (first|refine blk_drewN ?_ _|refine blk_drew ?_|refine blk_alloc ?_ _));exact blk_puts4 (blk_up BK149.out)⟩
  have n3_ : Aside0 (Below w.heap.size w ((((w65.setCell ⟨gb149,0,none⟩ (.int .i64 4)).setCell ⟨gb149,1,none⟩ (.int .i64 4)).setCell ⟨gb149,2,none⟩ (.slice Ao67 y143.length co67)).setCell ⟨gb149,3,none⟩ (.slice Ao66 y146.length co66))):=⟨hb_⟩
  (try clear HO145)
  (try clear HO148)
  (try clear BK149)
  (try clear HB)
  generalize ((((w65.setCell ⟨gb149,0,none⟩ (.int .i64 4)).setCell ⟨gb149,1,none⟩ (.int .i64 4)).setCell ⟨gb149,2,none⟩ (.slice Ao67 y143.length co67)).setCell ⟨gb149,3,none⟩ (.slice Ao66 y146.length co66)) = w72 at n0_ n1_ n2_ n3_ ⊢
  have HO145:=n0_
  have HO148:=n1_
  have BK149:=n2_
  have HB:=n3_
  clear n0_ n1_ n2_ n3_
  obtain ⟨hcz73_0,hcz73_1,hcz73_2,hcz73_3,hfz73_0,hfz73_1,hfz73_2,hfz73_3⟩:=cells4 BK149.out
  have p3 : 0 ≤ (0 : Int):=(by omega)
  have q3 : (0 : Int) < ((y143.length : Int) : Int):=of_decide_eq_true (by first|(with_reducible assumption)|assumption)
  have qi3 : (0 < y143.length) = True:=eq_true (by omega)
  obtain ⟨go3,co3,eo3,gb3,gl3,cl3,HG3⟩:=Kd.R_form HO145.out (by omega)
  (first|cases eo3|(injection eo3 with ea_ en_ ec_;(first|subst ea_|(injection ea_ with ea_;subst ea_));subst ec_;clear en_))
  have GB3:=Aside0.mk gb3
  have GG3:=Aside0.mk HG3
  clear gb3 gl3 HG3
  obtain ⟨hx3_0,hf3_0⟩:=Kd.R_celln 0 HO145.out (0 : Int) p3 q3
  (try rw [show ((0 : Int)).toNat = 0 from rfl] at hx3_0)
  (try simp only [Nat.reduceMul,Nat.zero_mul,Nat.zero_add,Nat.reduceAdd] at hx3_0)
  (try rw [show ((0 : Int)).toNat = 0 from rfl] at hf3_0)
  (try simp only [Nat.reduceMul,Nat.zero_mul,Nat.zero_add,Nat.reduceAdd] at hf3_0)
  replace p3:=eq_true p3
  replace q3:=eq_true q3
  obtain ⟨hy74_,hz74_⟩:=Kd.R_celln 0 HO145.out (0 : Int) (by omega) (of_decide_eq_true (by first|(with_reducible assumption)|assumption))
  (try simp only [Int.reduceToNat,Int.toNat_zero,Int.toNat_ofNat,Nat.reduceMul,Nat.zero_mul,Nat.zero_add] at hy74_ hz74_)
  (try rw [show ((0 : Int)).toNat = 0 from rfl] at hy74_)
  (try rw [show ((0 : Int)).toNat = 0 from rfl] at hz74_)
  have HP74:=Kd.R_putg HO145.out (0 : Int) 1
  try go_wp2_with (first|((with_reducible refine gate_store (t:=3) (p:=10) rfl ?_);refine store_event (t:=3) (p:=10) (v:=?vo_w75) (w1:=(w72.setCell ⟨go3,(0 : Int).toNat,none⟩ (.int .i64 1))) ?hg ?ho ?hn ?hr ?_;(case ho => rfl);(case hg => rfl);(case hn => rfl);(case hr => first|(go_simp;done)|(go_simp;rfl));intro w75 hw;have hg : w72.grownBy w75 (some go3):=(by rw [hw];exact HP74.2);have hp_ : Kd.R (Kd.int .i64) 3 w75 w.heap.size (fun k_ => some k_ ≠ (.slice Ao66 y146.length co66 : Value).ownBlock) (.slice (some ⟨go3,0,none⟩) y143.length co67) y150:=(by rw [hw,Ny150.out];exact HP74.1);clear HP74;replace HO148:=Aside0.mk (Kd.R_after (v:=(.slice (some ⟨go3,0,none⟩) y143.length co67)) (v1:=(.slice (some ⟨go3,0,none⟩) y143.length co67)) (ok:=(fun _ => True)) (by (with_reducible repeat (first|apply Kd.R_alloc|apply Kd.R_drewN|apply Kd.R_drew));exact Kd.R_mono HO148.out (fun _ hk => ⟨trivial,hk⟩)) hg (.inl rfl));replace BK149:=Aside0.mk (blk_grown (blk_up BK149.out) hg (Kd.R_ne HO145.out BK149.out (by decide)));replace HO145:=Aside0.mk (hp_);replace HB:=Aside0.mk ((by rw [hw];exact below_set (HB.out) GB3.out : Below w.heap.size w w75));clear hg hw hp_;obtain ⟨hcz76_0,hcz76_1,hcz76_2,hcz76_3,hfz76_0,hfz76_1,hfz76_2,hfz76_3⟩:=cells4 BK149.out;have p5 : 0 ≤ (1 : Int):=(by omega);have q5 : (1 : Int) < ((y143.length : Int) : Int):=of_decide_eq_true (by first|(with_reducible assumption)|assumption);have qi5 : (1 < y143.length) = True:=eq_true (by omega);obtain ⟨hx5_0,hf5_0⟩:=Kd.R_celln 0 HO145.out (1 : Int) p5 q5;(try rw [show ((1 : Int)).toNat = 1 from rfl] at hx5_0);(try simp only [Nat.reduceMul,Nat.zero_mul,Nat.zero_add,Nat.reduceAdd] at hx5_0);(try rw [show ((1 : Int)).toNat = 1 from rfl] at hf5_0);(try simp only [Nat.reduceMul,Nat.zero_mul,Nat.zero_add,Nat.reduceAdd] at hf5_0);replace p5:=eq_true p5;replace q5:=eq_true q5;obtain ⟨hy77_,hz77_⟩:=Kd.R_celln 0 HO145.out (1 : Int) (by omega) (of_decide_eq_true (by first|(with_reducible assumption)|assumption));(try simp only [Int.reduceToNat,Int.toNat_zero,Int.toNat_ofNat,Nat.reduceMul,Nat.zero_mul,Nat.zero_add] at hy77_ hz77_);(try rw [show ((1 : Int)).toNat = 1 from rfl] at hy77_);(try rw [show ((1 : Int)).toNat = 1 from rfl] at hz77_);have HP77:=Kd.R_putg HO145.out (1 : Int) 4)|((with_reducible refine gate_store (t:=3) (p:=13) rfl ?_);refine store_event (t:=3) (p:=13) (v:=?vo_w78) (w1:=(w75.setCell ⟨go3,(1 : Int).toNat,none⟩ (.int .i64 4))) ?hg ?ho ?hn ?hr ?_;(case ho => rfl);(case hg => rfl);(case hn => rfl);(case hr => first|(go_simp;done)|(go_simp;rfl));intro w78 hw;have hg : w75.grownBy w78 (some go3):=(by rw [hw];exact HP77.2);have hp_ : Kd.R (Kd.int .i64) 3 w78 w.heap.size (fun k_ => some k_ ≠ (.slice Ao66 y146.length co66 : Value).ownBlock) (.slice (some ⟨go3,0,none⟩) y143.length co67) y151:=(by rw [hw,Ny151.out];exact HP77.1);clear HP77;replace HO148:=Aside0.mk (Kd.R_after (v:=(.slice (some ⟨go3,0,none⟩) y143.length co67)) (v1:=(.slice (some ⟨go3,0,none⟩) y143.length co67)) (ok:=(fun _ => True)) (Kd.R_up HO148.out) hg (.inl rfl));replace BK149:=Aside0.mk (blk_grown (blk_up BK149.out) hg (Kd.R_ne HO145.out BK149.out (by decide)));replace HO145:=Aside0.mk (hp_);replace HB:=Aside0.mk ((by rw [hw];exact below_set (HB.out) GB3.out : Below w.heap.size w w78));clear hg hw hp_;obtain ⟨hcz79_0,hcz79_1,hcz79_2,hcz79_3,hfz79_0,hfz79_1,hfz79_2,hfz79_3⟩:=cells4 BK149.out)|((with_reducible refine gate_callee (f:=15) rfl ?_);refine goesL_ (some 16) rfl rfl Try.func15 (by kernel_rfl) rfl #[.agg #[.int .i64 4,.int .i64 4,.slice (some ⟨go3,0,none⟩) y151.length co67,.slice Ao66 y146.length co66],.int .i64 1,.int .i64 (-1),.int .i64 0] rfl (by (try simp only [List.map_toArray,List.map_cons,List.map_nil]);first|done|(rw [show y151.length = y143.length from (Kd.R_reads' HO145.out).1.symm] <;> rfl)|rfl|(simp only [List.length_drop,List.length_take];rfl)) ?_;(with_reducible refine (lane_Choose.calls k 4 4 _ _ y151 _ _ y146 1 (-1) 0 t152 t153 t154 _ ?side1 ?side2 ?side3 ?side4 A6.out).mono ?_);(case side1 => exact Kd.C_up (Kd.R_reads' HO145.out).2.2);(case side2 => rw [show y151.length = y143.length from (Kd.R_reads' HO145.out).1.symm];exact (Kd.R_reads' HO145.out).2.1);(case side3 => exact Kd.C_up (Kd.R_reads' HO148.out).2.2);(case side4 => exact (Kd.R_reads' HO148.out).2.1);rintro e w80 ⟨rfl,hb⟩;refine ⟨_,rfl,?_⟩;replace HO145:=rbw HO145 hb;replace HO148:=rbw HO148 hb;replace BK149:=bkb BK149 hb;replace HB:=Aside0.mk (below_step (hb_) hb)))
  go_ret
  exact ⟨by first|rfl|(simp [errW_none,errW_some] <;> rfl)|(simp [*,errW_none,errW_some] <;> rfl),hb_⟩
 rw [if_pos c7] at H
 have c7b0 : (t152 == 2) = true:=beq_iff_eq.mpr c7
 have c7b1 : (t152 != 2) = false:=bne_eq_false_iff_eq.mpr c7
 clear c7
 by_cases c8 : t153 = true
 ·subst c8
  have H1 : (some (t154 == 0)) = some r:=by rw [if_pos rfl] at H;exact H
  clear H
  have H:=H1
  clear H1
  obtain rfl:=Option.some.inj H
  go_enter Try.func13,Try.ntmps13
  try go_wp2
  replace HB:=Aside0.mk (below_drew1 HB.out)
  refine start_ (n:=5) (S:=fun w' => True) (ds:=[]) #[false,false,false,false,false] (by kernel_rfl) rfl rfl trivial (fun hHeld => ?_)
  generalize w.drew = w9 at HB hHeld ⊢
  refine join_ (σ:=Value × Value × Nat) 1 #[true,true,true,true,false] (fun s_ => [(5,s_.1),(6,s_.2.1),(1,.pointer (some ⟨s_.2.2,0,none⟩)),(7,.agg #[.int .i64 4,.int .i64 4,s_.1,s_.2.1])]) (fun s_ w' => (Kd.R (Kd.int .i64) 3 w' w.heap.size (fun k_ => some k_ ≠ (s_.2.1 : Value).ownBlock) s_.1 y143) ∧ (Kd.R (Kd.int .i64) 3 w' w.heap.size (fun k_ => some k_ ≠ (s_.1 : Value).ownBlock) s_.2.1 y146) ∧ (w'.heap[s_.2.2]? = some (.cells #[.int .i64 0,.int .i64 0,.slice none 0 0,.slice none 0 0] 24 (0,0))) ∧ (w.heap.size ≤ s_.2.2) ∧ (w.heap.size ≤ s_.2.2) ∧ (Below w.heap.size w w')) ?_ ?_
  rotate_left
  ·intro hJ0_1_3
   refine join_ (σ:=Value × Value) 2 #[true,true,true,false,false] (fun s_ => [(5,s_.1),(6,s_.2),(7,.agg #[.int .i64 4,.int .i64 4,s_.1,s_.2])]) (fun s_ w' => (Kd.R (Kd.int .i64) 3 w' w.heap.size (fun k_ => some k_ ≠ (s_.2 : Value).ownBlock) s_.1 y143) ∧ (Kd.R (Kd.int .i64) 3 w' w.heap.size (fun k_ => some k_ ≠ (s_.1 : Value).ownBlock) s_.2 y146) ∧ (Below w.heap.size w w')) ?_ ?_
   rotate_left
   ·intro hJ0_1
    refine join_ (σ:=Value × Nat) 3 #[true,false,false,true,false] (fun s_ => [(5,s_.1),(1,.pointer (some ⟨s_.2,0,none⟩))]) (fun s_ w' => (Kd.R (Kd.int .i64) 3 w' w.heap.size (fun _ => True) s_.1 y143) ∧ (w'.heap[s_.2]? = some (.cells #[.int .i64 0,.int .i64 0,.slice none 0 0,.slice none 0 0] 24 (0,0))) ∧ (w.heap.size ≤ s_.2) ∧ (w.heap.size ≤ s_.2) ∧ (Below w.heap.size w w')) ?_ ?_
    rotate_left
    ·intro hJ0_3
     refine join_ (σ:=Value × Nat) 3 #[false,true,false,true,false] (fun s_ => [(6,s_.1),(1,.pointer (some ⟨s_.2,0,none⟩))]) (fun s_ w' => (Kd.R (Kd.int .i64) 3 w' w.heap.size (fun _ => True) s_.1 y146) ∧ (w'.heap[s_.2]? = some (.cells #[.int .i64 0,.int .i64 0,.slice none 0 0,.slice none 0 0] 24 (0,0))) ∧ (w.heap.size ≤ s_.2) ∧ (w.heap.size ≤ s_.2) ∧ (Below w.heap.size w w')) ?_ ?_
     rotate_left
     ·intro hJ1_3
      refine join_ (σ:=Value) 4 #[true,false,false,false,false] (fun s_ => [(5,s_)]) (fun s_ w' => (Kd.R (Kd.int .i64) 3 w' w.heap.size (fun _ => True) s_ y143) ∧ (Below w.heap.size w w')) ?_ ?_
      rotate_left
      ·intro hJ0
       refine join_ (σ:=Value) 4 #[false,true,false,false,false] (fun s_ => [(6,s_)]) (fun s_ w' => (Kd.R (Kd.int .i64) 3 w' w.heap.size (fun _ => True) s_ y146) ∧ (Below w.heap.size w w')) ?_ ?_
       rotate_left
       ·intro hJ1
        refine join_ (σ:=Nat) 4 #[false,false,false,true,false] (fun s_ => [(1,.pointer (some ⟨s_,0,none⟩))]) (fun s_ w' => (w'.heap[s_]? = some (.cells #[.int .i64 0,.int .i64 0,.slice none 0 0,.slice none 0 0] 24 (0,0))) ∧ (w.heap.size ≤ s_) ∧ (w.heap.size ≤ s_) ∧ (Below w.heap.size w w')) ?_ ?_
        rotate_left
        ·intro hJ3
         refine three_ (i:=0) (j:=1) (k:=3) (Ni:=some 5) (Nj:=some 6) (Nk:=some 1) #[true,false,false,false,false] #[false,true,false,false,false] #[false,false,false,true,false] rfl rfl rfl rfl rfl rfl (by kernel_rfl) (by decide) (by decide) (by decide) (fun K hK => ?_) (fun K hK => ?_) (fun K hK => ?_)
         ·skip
          refine Kd.R_make_step (Kd.int .i64) _ 3 (by rfl) (N:=5) rfl 22 _ _ rfl 16 rfl rfl Try.underlying22 (.int .i64 0) 8 info3 rfl (by decide) (by omega) 0 (ok:=fun _ => True) (okp:=fun _ => True) rfl (fun _ hk => hk) trivial (by omega) (by omega) (Below.refl _ _) (Nat.le_refl _) ?_
          intro v144 w10 ho11 hb hg_ hnew_
          clear hg_ hnew_
          (first|rw [← Ny143.out] at ho11|(simp only [Int.reduceToNat] at ho11;rw [← Ny143.out] at ho11))
          have n0_:=rlo ho11
          have n1_:=Aside0.mk (below_step (hb_) hb)
          clear HB
          have HO145:=n0_
          have HB:=n1_
          clear n0_ n1_
          clear hb ho11
          refine hK.out _ _ trivial (fun hHeld => ?_)
          clear hK K
          refine norm_ (a':=?_) ?_ ?_
          rotate_left
          ·show Act.put _ (some 5) _ = _
           simp only [Act.put,List.setIfInBounds_toArray,List.set_cons_zero,List.set_cons_succ,i64_w,i32_w]
           rfl
          exact norm_ (by first|(simp only [putAll,Act.put,List.setIfInBounds_toArray,List.set_cons_zero,List.set_cons_succ];done)|(simp only [putAll,Act.put,List.setIfInBounds_toArray,List.set_cons_zero,List.set_cons_succ];rfl)) (hJ0 (v144) _ ⟨(Kd.R_up HO145.out),(hb_)⟩)
         ·skip
          refine Kd.R_make_step (Kd.int .i64) _ 3 (by rfl) (N:=6) rfl 22 _ _ rfl 16 rfl rfl Try.underlying22 (.int .i64 0) 8 info3 rfl (by decide) (by omega) 0 (ok:=fun _ => True) (okp:=fun _ => True) rfl (fun _ hk => hk) trivial (by omega) (by omega) (Below.refl _ _) (Nat.le_refl _) ?_
          intro v147 w10 ho11 hb hg_ hnew_
          clear hg_ hnew_
          (first|rw [← Ny146.out] at ho11|(simp only [Int.reduceToNat] at ho11;rw [← Ny146.out] at ho11))
          have n0_:=rlo ho11
          have n1_:=Aside0.mk (below_step (hb_) hb)
          clear HB
          have HO148:=n0_
          have HB:=n1_
          clear n0_ n1_
          clear hb ho11
          refine hK.out _ _ trivial (fun hHeld => ?_)
          clear hK K
          refine norm_ (a':=?_) ?_ ?_
          rotate_left
          ·show Act.put _ (some 6) _ = _
           simp only [Act.put,List.setIfInBounds_toArray,List.set_cons_zero,List.set_cons_succ,i64_w,i32_w]
           rfl
          exact norm_ (by first|(simp only [putAll,Act.put,List.setIfInBounds_toArray,List.set_cons_zero,List.set_cons_succ];done)|(simp only [putAll,Act.put,List.setIfInBounds_toArray,List.set_cons_zero,List.set_cons_succ];rfl)) (hJ1 (v147) _ ⟨(Kd.R_up HO148.out),(hb_)⟩)
         ·skip
          refine box_step ?hg (N:=1) ?hd (cs:=#[.int .i64 0,.int .i64 0,.slice none 0 0,.slice none 0 0]) (t:=24) ?hr ?_;(case hd => rfl);(case hg => rfl);(case hr => first|(go_simp;done)|(go_simp;rfl))
          intro gb149 hg w10 hbox hb
          have n0_:=Aside0.mk (below_step (hb_) hb)
          have n1_:=Aside0.mk (hbox)
          have n2_:=Aside0.mk ((by rw [hg];exact (below_size (hb_)) : w.heap.size ≤ gb149))
          have n3_:=Aside0.mk ((by rw [hg];exact (below_size (hb_)) : w.heap.size ≤ gb149))
          clear HB
          have HB:=n0_
          have BK149:=n1_
          have GW149:=n2_
          have GE149:=n3_
          clear n0_ n1_ n2_ n3_
          clear hb hbox hg
          refine hK.out _ _ trivial (fun hHeld => ?_)
          clear hK K
          refine norm_ (a':=?_) ?_ ?_
          rotate_left
          ·show Act.put _ (some 1) _ = _
           simp only [Act.put,List.setIfInBounds_toArray,List.set_cons_zero,List.set_cons_succ,i64_w,i32_w]
           rfl
          exact norm_ (by first|(simp only [putAll,Act.put,List.setIfInBounds_toArray,List.set_cons_zero,List.set_cons_succ];done)|(simp only [putAll,Act.put,List.setIfInBounds_toArray,List.set_cons_zero,List.set_cons_succ];rfl)) (hJ3 (gb149) _ ⟨(blk_up BK149.out),GW149.out,GE149.out,(hb_)⟩)
        ·skip
         rintro gb149 w11 ⟨h0_,h1_,h2_,h3_⟩
         have n0_ : Aside0 (w11.heap[gb149]? = some (.cells #[.int .i64 0,.int .i64 0,.slice none 0 0,.slice none 0 0] 24 (0,0))):=⟨h0_⟩
         have n1_ : Aside0 (w.heap.size ≤ gb149):=⟨h1_⟩
         have n2_ : Aside0 (w.heap.size ≤ gb149):=⟨h2_⟩
         have n3_ : Aside0 (Below w.heap.size w w11):=⟨h3_⟩
         clear HB
         clear h0_ h1_ h2_ h3_
         have BK149:=n0_
         have GW149:=n1_
         have GE149:=n2_
         have HB:=n3_
         clear n0_ n1_ n2_ n3_
         have hHeld:=trivial
         refine norm_ (a':=?_) ?_ ?_
         rotate_left
         ·simp only [putAll,Act.put,List.setIfInBounds_toArray,List.set_cons_zero,List.set_cons_succ]
          rfl
         refine two_ (i:=0) (j:=1) (Ni:=some 5) (Nj:=some 6) #[true,false,false,true,false] #[false,true,false,true,false] rfl rfl rfl rfl (by kernel_rfl) (by decide) (by decide) (fun K hK => ?_) (fun K hK => ?_)
         ·skip
          refine Kd.R_make_step (Kd.int .i64) _ 3 (by rfl) (N:=5) rfl 22 _ _ rfl 16 rfl rfl Try.underlying22 (.int .i64 0) 8 info3 rfl (by decide) (by omega) 0 (ok:=fun _ => True) (okp:=fun _ => True) rfl (fun _ hk => hk) trivial (by omega) (by omega) (Below.refl _ _) (Nat.le_refl _) ?_
          intro v144 w12 ho13 hb hg_ hnew_
          clear hg_ hnew_
          (first|rw [← Ny143.out] at ho13|(simp only [Int.reduceToNat] at ho13;rw [← Ny143.out] at ho13))
          have n0_:=rlo ho13
          have n1_:=bkb BK149 hb
          have n2_:=Aside0.mk (below_step (hb_) hb)
          clear BK149
          clear HB
          have HO145:=n0_
          have BK149:=n1_
          have HB:=n2_
          clear n0_ n1_ n2_
          clear hb ho13
          refine hK.out _ _ trivial (fun hHeld => ?_)
          clear hK K
          refine norm_ (a':=?_) ?_ ?_
          rotate_left
          ·show Act.put _ (some 5) _ = _
           simp only [Act.put,List.setIfInBounds_toArray,List.set_cons_zero,List.set_cons_succ,i64_w,i32_w]
           rfl
          exact norm_ (by first|(simp only [putAll,Act.put,List.setIfInBounds_toArray,List.set_cons_zero,List.set_cons_succ];done)|(simp only [putAll,Act.put,List.setIfInBounds_toArray,List.set_cons_zero,List.set_cons_succ];rfl)) (hJ0_3 (v144,gb149) _ ⟨(Kd.R_up HO145.out),(blk_up BK149.out),GW149.out,GE149.out,(hb_)⟩)
         ·skip
          refine Kd.R_make_step (Kd.int .i64) _ 3 (by rfl) (N:=6) rfl 22 _ _ rfl 16 rfl rfl Try.underlying22 (.int .i64 0) 8 info3 rfl (by decide) (by omega) 0 (ok:=fun _ => True) (okp:=fun _ => True) rfl (fun _ hk => hk) trivial (by omega) (by omega) (Below.refl _ _) (Nat.le_refl _) ?_
          intro v147 w12 ho13 hb hg_ hnew_
          clear hg_ hnew_
          (first|rw [← Ny146.out] at ho13|(simp only [Int.reduceToNat] at ho13;rw [← Ny146.out] at ho13))
          have n0_:=rlo ho13
          have n1_:=bkb BK149 hb
          have n2_:=Aside0.mk (below_step (hb_) hb)
          clear BK149
          clear HB
          have HO148:=n0_
          have BK149:=n1_
          have HB:=n2_
          clear n0_ n1_ n2_
          clear hb ho13
          refine hK.out _ _ trivial (fun hHeld => ?_)
          clear hK K
          refine norm_ (a':=?_) ?_ ?_
          rotate_left
          ·show Act.put _ (some 6) _ = _
           simp only [Act.put,List.setIfInBounds_toArray,List.set_cons_zero,List.set_cons_succ,i64_w,i32_w]
           rfl
          exact norm_ (by first|(simp only [putAll,Act.put,List.setIfInBounds_toArray,List.set_cons_zero,List.set_cons_succ];done)|(simp only [putAll,Act.put,List.setIfInBounds_toArray,List.set_cons_zero,List.set_cons_succ];rfl)) (hJ1_3 (v147,gb149) _ ⟨(Kd.R_up HO148.out),(blk_up BK149.out),GW149.out,GE149.out,(hb_)⟩)
       ·skip
        rintro v147 w12 ⟨h0_,h1_⟩
        have n0_ : Aside0 (Kd.R (Kd.int .i64) 3 w12 w.heap.size (fun _ => True) v147 y146):=⟨h0_⟩
        have n1_ : Aside0 (Below w.heap.size w w12):=⟨h1_⟩
        clear HB
        clear h0_ h1_
        have HO148:=n0_
        have HB:=n1_
        clear n0_ n1_
        have hHeld:=trivial
        refine norm_ (a':=?_) ?_ ?_
        rotate_left
        ·simp only [putAll,Act.put,List.setIfInBounds_toArray,List.set_cons_zero,List.set_cons_succ]
         rfl
        refine two_ (i:=0) (j:=3) (Ni:=some 5) (Nj:=some 1) #[true,true,false,false,false] #[false,true,false,true,false] rfl rfl rfl rfl (by kernel_rfl) (by decide) (by decide) (fun K hK => ?_) (fun K hK => ?_)
        ·skip
         refine Kd.R_make_step (Kd.int .i64) _ 3 (by rfl) (N:=5) rfl 22 _ _ rfl 16 rfl rfl Try.underlying22 (.int .i64 0) 8 info3 rfl (by decide) (by omega) 0 (ok:=fun _ => True) (okp:=fun _ => True) rfl (fun _ hk => hk) trivial (by omega) (by omega) (Below.refl _ _) (Nat.le_refl _) ?_
         intro v144 w13 ho14 hb hg_ hnew_
         clear hg_ hnew_
         (first|rw [← Ny143.out] at ho14|(simp only [Int.reduceToNat] at ho14;rw [← Ny143.out] at ho14))
         have n0_:=Aside0.mk (Kd.R_elder' (Kd.R_up HO148.out) (Kd.R_base ho14) hb)
         have n1_:=Aside0.mk (Kd.R_lower (Kd.R_new' ho14 (Kd.R_lt (Kd.R_up HO148.out))) (below_size (hb_)))
         have n2_:=Aside0.mk (below_step (hb_) hb)
         clear HO148
         clear HB
         have HO148:=n0_
         have HO145:=n1_
         have HB:=n2_
         clear n0_ n1_ n2_
         clear hb ho14
         obtain ⟨Ao15,co15,eo15⟩:=Kd.R_slice HO148.out
         (first|subst eo15|(injection eo15 with f1_ f2_ f3_;have f4_:=f1_.symm;have f5_:=f3_.symm;clear f1_ f2_ f3_;subst f4_;subst f5_))
         obtain ⟨Ao16,co16,eo16⟩:=Kd.R_slice HO145.out
         (first|subst eo16|(injection eo16 with f1_ f2_ f3_;have f4_:=f1_.symm;have f5_:=f3_.symm;clear f1_ f2_ f3_;subst f4_;subst f5_))
         refine hK.out _ _ trivial (fun hHeld => ?_)
         clear hK K
         refine norm_ (a':=?_) ?_ ?_
         rotate_left
         ·show Act.put _ (some 5) _ = _
          simp only [Act.put,List.setIfInBounds_toArray,List.set_cons_zero,List.set_cons_succ,i64_w,i32_w]
          rfl
         refine pI 2 (some 7) ?_
         exact norm_ (by first|(simp only [putAll,Act.put,List.setIfInBounds_toArray,List.set_cons_zero,List.set_cons_succ];done)|(simp only [putAll,Act.put,List.setIfInBounds_toArray,List.set_cons_zero,List.set_cons_succ];rfl)) (hJ0_1 (.slice Ao16 y143.length co16,.slice Ao15 y146.length co15) _ ⟨(by (with_reducible repeat (first|apply Kd.R_alloc|apply Kd.R_drewN|apply Kd.R_drew));exact Kd.R_mono HO145.out (fun _ hk => hk.2)),(by (with_reducible repeat (first|apply Kd.R_alloc|apply Kd.R_drewN|apply Kd.R_drew));exact Kd.R_mono HO148.out (fun _ hk => hk.2)),(hb_)⟩)
        ·skip
         refine box_step ?hg (N:=1) ?hd (cs:=#[.int .i64 0,.int .i64 0,.slice none 0 0,.slice none 0 0]) (t:=24) ?hr ?_;(case hd => rfl);(case hg => rfl);(case hr => first|(go_simp;done)|(go_simp;rfl))
         intro gb149 hg w13 hbox hb
         have n0_:=rbw HO148 hb
         have n1_:=Aside0.mk (below_step (hb_) hb)
         have n2_:=Aside0.mk (hbox)
         have n3_:=Aside0.mk ((by rw [hg];exact (below_size (hb_)) : w.heap.size ≤ gb149))
         have n4_:=Aside0.mk ((by rw [hg];exact (below_size (hb_)) : w.heap.size ≤ gb149))
         clear HO148
         clear HB
         have HO148:=n0_
         have HB:=n1_
         have BK149:=n2_
         have GW149:=n3_
         have GE149:=n4_
         clear n0_ n1_ n2_ n3_ n4_
         clear hb hbox hg
         refine hK.out _ _ trivial (fun hHeld => ?_)
         clear hK K
         refine norm_ (a':=?_) ?_ ?_
         rotate_left
         ·show Act.put _ (some 1) _ = _
          simp only [Act.put,List.setIfInBounds_toArray,List.set_cons_zero,List.set_cons_succ,i64_w,i32_w]
          rfl
         exact norm_ (by first|(simp only [putAll,Act.put,List.setIfInBounds_toArray,List.set_cons_zero,List.set_cons_succ];done)|(simp only [putAll,Act.put,List.setIfInBounds_toArray,List.set_cons_zero,List.set_cons_succ];rfl)) (hJ1_3 (v147,gb149) _ ⟨(Kd.R_up HO148.out),(blk_up BK149.out),GW149.out,GE149.out,(hb_)⟩)
      ·skip
       rintro v144 w12 ⟨h0_,h1_⟩
       have n0_ : Aside0 (Kd.R (Kd.int .i64) 3 w12 w.heap.size (fun _ => True) v144 y143):=⟨h0_⟩
       have n1_ : Aside0 (Below w.heap.size w w12):=⟨h1_⟩
       clear HB
       clear h0_ h1_
       have HO145:=n0_
       have HB:=n1_
       clear n0_ n1_
       have hHeld:=trivial
       refine norm_ (a':=?_) ?_ ?_
       rotate_left
       ·simp only [putAll,Act.put,List.setIfInBounds_toArray,List.set_cons_zero,List.set_cons_succ]
        rfl
       refine two_ (i:=1) (j:=3) (Ni:=some 6) (Nj:=some 1) #[true,true,false,false,false] #[true,false,false,true,false] rfl rfl rfl rfl (by kernel_rfl) (by decide) (by decide) (fun K hK => ?_) (fun K hK => ?_)
       ·skip
        refine Kd.R_make_step (Kd.int .i64) _ 3 (by rfl) (N:=6) rfl 22 _ _ rfl 16 rfl rfl Try.underlying22 (.int .i64 0) 8 info3 rfl (by decide) (by omega) 0 (ok:=fun _ => True) (okp:=fun _ => True) rfl (fun _ hk => hk) trivial (by omega) (by omega) (Below.refl _ _) (Nat.le_refl _) ?_
        intro v147 w13 ho14 hb hg_ hnew_
        clear hg_ hnew_
        (first|rw [← Ny146.out] at ho14|(simp only [Int.reduceToNat] at ho14;rw [← Ny146.out] at ho14))
        have n0_:=Aside0.mk (Kd.R_elder' (Kd.R_up HO145.out) (Kd.R_base ho14) hb)
        have n1_:=Aside0.mk (Kd.R_lower (Kd.R_new' ho14 (Kd.R_lt (Kd.R_up HO145.out))) (below_size (hb_)))
        have n2_:=Aside0.mk (below_step (hb_) hb)
        clear HO145
        clear HB
        have HO145:=n0_
        have HO148:=n1_
        have HB:=n2_
        clear n0_ n1_ n2_
        clear hb ho14
        obtain ⟨Ao15,co15,eo15⟩:=Kd.R_slice HO148.out
        (first|subst eo15|(injection eo15 with f1_ f2_ f3_;have f4_:=f1_.symm;have f5_:=f3_.symm;clear f1_ f2_ f3_;subst f4_;subst f5_))
        obtain ⟨Ao16,co16,eo16⟩:=Kd.R_slice HO145.out
        (first|subst eo16|(injection eo16 with f1_ f2_ f3_;have f4_:=f1_.symm;have f5_:=f3_.symm;clear f1_ f2_ f3_;subst f4_;subst f5_))
        refine hK.out _ _ trivial (fun hHeld => ?_)
        clear hK K
        refine norm_ (a':=?_) ?_ ?_
        rotate_left
        ·show Act.put _ (some 6) _ = _
         simp only [Act.put,List.setIfInBounds_toArray,List.set_cons_zero,List.set_cons_succ,i64_w,i32_w]
         rfl
        refine pI 2 (some 7) ?_
        exact norm_ (by first|(simp only [putAll,Act.put,List.setIfInBounds_toArray,List.set_cons_zero,List.set_cons_succ];done)|(simp only [putAll,Act.put,List.setIfInBounds_toArray,List.set_cons_zero,List.set_cons_succ];rfl)) (hJ0_1 (.slice Ao16 y143.length co16,.slice Ao15 y146.length co15) _ ⟨(by (with_reducible repeat (first|apply Kd.R_alloc|apply Kd.R_drewN|apply Kd.R_drew));exact Kd.R_mono HO145.out (fun _ hk => hk.2)),(by (with_reducible repeat (first|apply Kd.R_alloc|apply Kd.R_drewN|apply Kd.R_drew));exact Kd.R_mono HO148.out (fun _ hk => hk.2)),(hb_)⟩)
       ·skip
        refine box_step ?hg (N:=1) ?hd (cs:=#[.int .i64 0,.int .i64 0,.slice none 0 0,.slice none 0 0]) (t:=24) ?hr ?_;(case hd => rfl);(case hg => rfl);(case hr => first|(go_simp;done)|(go_simp;rfl))
        intro gb149 hg w13 hbox hb
        have n0_:=rbw HO145 hb
        have n1_:=Aside0.mk (below_step (hb_) hb)
        have n2_:=Aside0.mk (hbox)
        have n3_:=Aside0.mk ((by rw [hg];exact (below_size (hb_)) : w.heap.size ≤ gb149))
        have n4_:=Aside0.mk ((by rw [hg];exact (below_size (hb_)) : w.heap.size ≤ gb149))
        clear HO145
        clear HB
        have HO145:=n0_
        have HB:=n1_
        have BK149:=n2_
        have GW149:=n3_
        have GE149:=n4_
        clear n0_ n1_ n2_ n3_ n4_
        clear hb hbox hg
        refine hK.out _ _ trivial (fun hHeld => ?_)
        clear hK K
        refine norm_ (a':=?_) ?_ ?_
        rotate_left
        ·show Act.put _ (some 1) _ = _
         simp only [Act.put,List.setIfInBounds_toArray,List.set_cons_zero,List.set_cons_succ,i64_w,i32_w]
         rfl
        exact norm_ (by first|(simp only [putAll,Act.put,List.setIfInBounds_toArray,List.set_cons_zero,List.set_cons_succ];done)|(simp only [putAll,Act.put,List.setIfInBounds_toArray,List.set_cons_zero,List.set_cons_succ];rfl)) (hJ0_3 (v144,gb149) _ ⟨(Kd.R_up HO145.out),(blk_up BK149.out),GW149.out,GE149.out,(hb_)⟩)
     ·skip
      rintro ⟨v147,gb149⟩ w13 ⟨h0_,h1_,h2_,h3_,h4_⟩
      have n0_ : Aside0 (Kd.R (Kd.int .i64) 3 w13 w.heap.size (fun _ => True) v147 y146):=⟨h0_⟩
      have n1_ : Aside0 (w13.heap[gb149]? = some (.cells #[.int .i64 0,.int .i64 0,.slice none 0 0,.slice none 0 0] 24 (0,0))):=⟨h1_⟩
      have n2_ : Aside0 (w.heap.size ≤ gb149):=⟨h2_⟩
      have n3_ : Aside0 (w.heap.size ≤ gb149):=⟨h3_⟩
      have n4_ : Aside0 (Below w.heap.size w w13):=⟨h4_⟩
      clear HB
      clear h0_ h1_ h2_ h3_ h4_
      have HO148:=n0_
      have BK149:=n1_
      have GW149:=n2_
      have GE149:=n3_
      have HB:=n4_
      clear n0_ n1_ n2_ n3_ n4_
      have hHeld:=trivial
      refine norm_ (a':=?_) ?_ ?_
      rotate_left
      ·simp only [putAll,Act.put,List.setIfInBounds_toArray,List.set_cons_zero,List.set_cons_succ]
       rfl
      refine oI 0 (some 5) (fun K hK => ?_)
      refine Kd.R_make_step (Kd.int .i64) _ 3 (by rfl) (N:=5) rfl 22 _ _ rfl 16 rfl rfl Try.underlying22 (.int .i64 0) 8 info3 rfl (by decide) (by omega) 0 (ok:=fun _ => True) (okp:=fun _ => True) rfl (fun _ hk => hk) trivial (by omega) (by omega) (Below.refl _ _) (Nat.le_refl _) ?_
      intro v144 w14 ho15 hb hg_ hnew_
      clear hg_ hnew_
      (first|rw [← Ny143.out] at ho15|(simp only [Int.reduceToNat] at ho15;rw [← Ny143.out] at ho15))
      have n0_:=Aside0.mk (Kd.R_elder' (Kd.R_up HO148.out) (Kd.R_base ho15) hb)
      have n1_:=Aside0.mk (Kd.R_lower (Kd.R_new' ho15 (Kd.R_lt (Kd.R_up HO148.out))) (below_size (hb_)))
      have n2_:=bkb BK149 hb
      have n3_:=Aside0.mk (below_step (hb_) hb)
      clear HO148
      clear BK149
      clear HB
      have HO148:=n0_
      have HO145:=n1_
      have BK149:=n2_
      have HB:=n3_
      clear n0_ n1_ n2_ n3_
      clear hb ho15
      obtain ⟨Ao16,co16,eo16⟩:=Kd.R_slice HO148.out
      (first|subst eo16|(injection eo16 with f1_ f2_ f3_;have f4_:=f1_.symm;have f5_:=f3_.symm;clear f1_ f2_ f3_;subst f4_;subst f5_))
      obtain ⟨Ao17,co17,eo17⟩:=Kd.R_slice HO145.out
      (first|subst eo17|(injection eo17 with f1_ f2_ f3_;have f4_:=f1_.symm;have f5_:=f3_.symm;clear f1_ f2_ f3_;subst f4_;subst f5_))
      refine hK.out _ _ trivial (fun hHeld => ?_)
      clear hK K
      refine norm_ (a':=?_) ?_ ?_
      rotate_left
      ·show Act.put _ (some 5) _ = _
       simp only [Act.put,List.setIfInBounds_toArray,List.set_cons_zero,List.set_cons_succ,i64_w,i32_w]
       rfl
      refine pI 2 (some 7) ?_
      exact norm_ (by first|(simp only [putAll,Act.put,List.setIfInBounds_toArray,List.set_cons_zero,List.set_cons_succ];done)|(simp only [putAll,Act.put,List.setIfInBounds_toArray,List.set_cons_zero,List.set_cons_succ];rfl)) (hJ0_1_3 (.slice Ao17 y143.length co17,.slice Ao16 y146.length co16,gb149) _ ⟨(by (with_reducible repeat (first|apply Kd.R_alloc|apply Kd.R_drewN|apply Kd.R_drew));exact Kd.R_mono HO145.out (fun _ hk => hk.2)),(by (with_reducible repeat (first|apply Kd.R_alloc|apply Kd.R_drewN|apply Kd.R_drew));exact Kd.R_mono HO148.out (fun _ hk => hk.2)),(blk_up BK149.out),GW149.out,GE149.out,(hb_)⟩)
    ·skip
     rintro ⟨v144,gb149⟩ w13 ⟨h0_,h1_,h2_,h3_,h4_⟩
     have n0_ : Aside0 (Kd.R (Kd.int .i64) 3 w13 w.heap.size (fun _ => True) v144 y143):=⟨h0_⟩
     have n1_ : Aside0 (w13.heap[gb149]? = some (.cells #[.int .i64 0,.int .i64 0,.slice none 0 0,.slice none 0 0] 24 (0,0))):=⟨h1_⟩
     have n2_ : Aside0 (w.heap.size ≤ gb149):=⟨h2_⟩
     have n3_ : Aside0 (w.heap.size ≤ gb149):=⟨h3_⟩
     have n4_ : Aside0 (Below w.heap.size w w13):=⟨h4_⟩
     clear HB
     clear h0_ h1_ h2_ h3_ h4_
     have HO145:=n0_
     have BK149:=n1_
     have GW149:=n2_
     have GE149:=n3_
     have HB:=n4_
     clear n0_ n1_ n2_ n3_ n4_
     have hHeld:=trivial
     refine norm_ (a':=?_) ?_ ?_
     rotate_left
     ·simp only [putAll,Act.put,List.setIfInBounds_toArray,List.set_cons_zero,List.set_cons_succ]
      rfl
     refine oI 1 (some 6) (fun K hK => ?_)
     refine Kd.R_make_step (Kd.int .i64) _ 3 (by rfl) (N:=6) rfl 22 _ _ rfl 16 rfl rfl Try.underlying22 (.int .i64 0) 8 info3 rfl (by decide) (by omega) 0 (ok:=fun _ => True) (okp:=fun _ => True) rfl (fun _ hk => hk) trivial (by omega) (by omega) (Below.refl _ _) (Nat.le_refl _) ?_
     intro v147 w14 ho15 hb hg_ hnew_
     clear hg_ hnew_
     (first|rw [← Ny146.out] at ho15|(simp only [Int.reduceToNat] at ho15;rw [← Ny146.out] at ho15))
     have n0_:=Aside0.mk (Kd.R_elder' (Kd.R_up HO145.out) (Kd.R_base ho15) hb)
     have n1_:=Aside0.mk (Kd.R_lower (Kd.R_new' ho15 (Kd.R_lt (Kd.R_up HO145.out))) (below_size (hb_)))
     have n2_:=bkb BK149 hb
     have n3_:=Aside0.mk (below_step (hb_) hb)
     clear HO145
     clear BK149
     clear HB
     have HO145:=n0_
     have HO148:=n1_
     have BK149:=n2_
     have HB:=n3_
     clear n0_ n1_ n2_ n3_
     clear hb ho15
     obtain ⟨Ao16,co16,eo16⟩:=Kd.R_slice HO148.out
     (first|subst eo16|(injection eo16 with f1_ f2_ f3_;have f4_:=f1_.symm;have f5_:=f3_.symm;clear f1_ f2_ f3_;subst f4_;subst f5_))
     obtain ⟨Ao17,co17,eo17⟩:=Kd.R_slice HO145.out
     (first|subst eo17|(injection eo17 with f1_ f2_ f3_;have f4_:=f1_.symm;have f5_:=f3_.symm;clear f1_ f2_ f3_;subst f4_;subst f5_))
     refine hK.out _ _ trivial (fun hHeld => ?_)
     clear hK K
     refine norm_ (a':=?_) ?_ ?_
     rotate_left
     ·show Act.put _ (some 6) _ = _
      simp only [Act.put,List.setIfInBounds_toArray,List.set_cons_zero,List.set_cons_succ,i64_w,i32_w]
      rfl
     refine pI 2 (some 7) ?_
     exact norm_ (by first|(simp only [putAll,Act.put,List.setIfInBounds_toArray,List.set_cons_zero,List.set_cons_succ];done)|(simp only [putAll,Act.put,List.setIfInBounds_toArray,List.set_cons_zero,List.set_cons_succ];rfl)) (hJ0_1_3 (.slice Ao17 y143.length co17,.slice Ao16 y146.length co16,gb149) _ ⟨(by (with_reducible repeat (first|apply Kd.R_alloc|apply Kd.R_drewN|apply Kd.R_drew));exact Kd.R_mono HO145.out (fun _ hk => hk.2)),(by (with_reducible repeat (first|apply Kd.R_alloc|apply Kd.R_drewN|apply Kd.R_drew));exact Kd.R_mono HO148.out (fun _ hk => hk.2)),(blk_up BK149.out),GW149.out,GE149.out,(hb_)⟩)
   ·skip
    rintro ⟨v144,v147⟩ w16 ⟨h0_,h1_,h2_⟩
    have n0_ : Aside0 (Kd.R (Kd.int .i64) 3 w16 w.heap.size (fun k_ => some k_ ≠ (v147 : Value).ownBlock) v144 y143):=⟨h0_⟩
    have n1_ : Aside0 (Kd.R (Kd.int .i64) 3 w16 w.heap.size (fun k_ => some k_ ≠ (v144 : Value).ownBlock) v147 y146):=⟨h1_⟩
    have n2_ : Aside0 (Below w.heap.size w w16):=⟨h2_⟩
    clear HB
    clear h0_ h1_ h2_
    have HO145:=n0_
    have HO148:=n1_
    have HB:=n2_
    clear n0_ n1_ n2_
    have hHeld:=trivial
    obtain ⟨Ao17,co17,eo17⟩:=Kd.R_slice HO148.out
    (first|subst eo17|(injection eo17 with f1_ f2_ f3_;have f4_:=f1_.symm;have f5_:=f3_.symm;clear f1_ f2_ f3_;subst f4_;subst f5_))
    obtain ⟨Ao18,co18,eo18⟩:=Kd.R_slice HO145.out
    (first|subst eo18|(injection eo18 with f1_ f2_ f3_;have f4_:=f1_.symm;have f5_:=f3_.symm;clear f1_ f2_ f3_;subst f4_;subst f5_))
    refine norm_ (a':=?_) ?_ ?_
    rotate_left
    ·simp only [putAll,Act.put,List.setIfInBounds_toArray,List.set_cons_zero,List.set_cons_succ]
     rfl
    refine oI 3 (some 1) (fun K hK => ?_)
    refine box_step ?hg (N:=1) ?hd (cs:=#[.int .i64 0,.int .i64 0,.slice none 0 0,.slice none 0 0]) (t:=24) ?hr ?_;(case hd => rfl);(case hg => rfl);(case hr => first|(go_simp;done)|(go_simp;rfl))
    intro gb149 hg w19 hbox hb
    have n0_:=rbw HO145 hb
    have n1_:=rbw HO148 hb
    have n2_:=Aside0.mk (below_step (hb_) hb)
    have n3_:=Aside0.mk (hbox)
    have n4_:=Aside0.mk ((by rw [hg];exact (below_size (hb_)) : w.heap.size ≤ gb149))
    have n5_:=Aside0.mk ((by rw [hg];exact (below_size (hb_)) : w.heap.size ≤ gb149))
    clear HO145
    clear HO148
    clear HB
    have HO145:=n0_
    have HO148:=n1_
    have HB:=n2_
    have BK149:=n3_
    have GW149:=n4_
    have GE149:=n5_
    clear n0_ n1_ n2_ n3_ n4_ n5_
    clear hb hbox hg
    refine hK.out _ _ trivial (fun hHeld => ?_)
    clear hK K
    refine norm_ (a':=?_) ?_ ?_
    rotate_left
    ·show Act.put _ (some 1) _ = _
     simp only [Act.put,List.setIfInBounds_toArray,List.set_cons_zero,List.set_cons_succ,i64_w,i32_w]
     rfl
    exact norm_ (by first|(simp only [putAll,Act.put,List.setIfInBounds_toArray,List.set_cons_zero,List.set_cons_succ];done)|(simp only [putAll,Act.put,List.setIfInBounds_toArray,List.set_cons_zero,List.set_cons_succ];rfl)) (hJ0_1_3 (.slice Ao18 y143.length co18,.slice Ao17 y146.length co17,gb149) _ ⟨(Kd.R_up HO145.out),(Kd.R_up HO148.out),(blk_up BK149.out),GW149.out,GE149.out,(hb_)⟩)
  rintro ⟨v144,v147,gb149⟩ w17 ⟨h0_,h1_,h2_,h3_,h4_,h5_⟩
  have n0_ : Aside0 (Kd.R (Kd.int .i64) 3 w17 w.heap.size (fun k_ => some k_ ≠ (v147 : Value).ownBlock) v144 y143):=⟨h0_⟩
  have n1_ : Aside0 (Kd.R (Kd.int .i64) 3 w17 w.heap.size (fun k_ => some k_ ≠ (v144 : Value).ownBlock) v147 y146):=⟨h1_⟩
  have n2_ : Aside0 (w17.heap[gb149]? = some (.cells #[.int .i64 0,.int .i64 0,.slice none 0 0,.slice none 0 0] 24 (0,0))):=⟨h2_⟩
  have n3_ : Aside0 (w.heap.size ≤ gb149):=⟨h3_⟩
  have n4_ : Aside0 (w.heap.size ≤ gb149):=⟨h4_⟩
  have n5_ : Aside0 (Below w.heap.size w w17):=⟨h5_⟩
  clear HB
  clear h0_ h1_ h2_ h3_ h4_ h5_
  have HO145:=n0_
  have HO148:=n1_
  have BK149:=n2_
  have GW149:=n3_
  have GE149:=n4_
  have HB:=n5_
  clear n0_ n1_ n2_ n3_ n4_ n5_
  have hHeld:=trivial
  obtain ⟨Ao18,co18,eo18⟩:=Kd.R_slice HO148.out
  (first|subst eo18|(injection eo18 with f1_ f2_ f3_;have f4_:=f1_.symm;have f5_:=f3_.symm;clear f1_ f2_ f3_;subst f4_;subst f5_))
  obtain ⟨Ao19,co19,eo19⟩:=Kd.R_slice HO145.out
  (first|subst eo19|(injection eo19 with f1_ f2_ f3_;have f4_:=f1_.symm;have f5_:=f3_.symm;clear f1_ f2_ f3_;subst f4_;subst f5_))
  refine norm_ (a':=?_) ?_ ?_
  rotate_left
  ·simp only [putAll,Act.put,List.setIfInBounds_toArray,List.set_cons_zero,List.set_cons_succ]
   rfl
  refine oI 4 (none) (fun K hK => ?_)
  have hs20 : w17.cell? ⟨gb149,0,none⟩ = some (.int .i64 0):=(blk_cell BK149.out 0).trans rfl
  have hfs20:=blk_frozen BK149.out 0
  have hs21 : w17.cell? ⟨gb149,1,none⟩ = some (.int .i64 0):=(blk_cell BK149.out 1).trans rfl
  have hfs21:=blk_frozen BK149.out 1
  have hs22 : w17.cell? ⟨gb149,2,none⟩ = some (.slice none 0 0):=(blk_cell BK149.out 2).trans rfl
  have hfs22:=blk_frozen BK149.out 2
  have hs23 : w17.cell? ⟨gb149,3,none⟩ = some (.slice none 0 0):=(blk_cell BK149.out 3).trans rfl
  have hfs23:=blk_frozen BK149.out 3
  refine skip_ (w1:=?_) (by rfl) rfl ?_ ?_
  rotate_left
  ·go_simp
   rfl
  refine hK.out _ _ trivial (fun hHeld => ?_)
  clear hK K
  refine done_ (by kernel_rfl) ?_
  have n0_ : Aside0 (Kd.R (Kd.int .i64) 3 ((((w17.setCell ⟨gb149,0,none⟩ (.int .i64 4)).setCell ⟨gb149,1,none⟩ (.int .i64 4)).setCell ⟨gb149,2,none⟩ (.slice Ao19 y143.length co19)).setCell ⟨gb149,3,none⟩ (.slice Ao18 y146.length co18)) w.heap.size (fun k_ => some k_ ≠ (.slice Ao18 y146.length co18 : Value).ownBlock) (.slice Ao19 y143.length co19) y143):=⟨by (with_reducible repeat (first|apply Kd.R_alloc|apply Kd.R_drewN|apply Kd.R_drew));exact Kd.R_mono (Kd.R_fars gb149 (Kd.R_types HO145.out BK149.out (by decide)) (fun _ hk => hk.2)) (fun _ hk => hk.1)⟩
  have n1_ : Aside0 (Kd.R (Kd.int .i64) 3 ((((w17.setCell ⟨gb149,0,none⟩ (.int .i64 4)).setCell ⟨gb149,1,none⟩ (.int .i64 4)).setCell ⟨gb149,2,none⟩ (.slice Ao19 y143.length co19)).setCell ⟨gb149,3,none⟩ (.slice Ao18 y146.length co18)) w.heap.size (fun k_ => some k_ ≠ (.slice Ao19 y143.length co19 : Value).ownBlock) (.slice Ao18 y146.length co18) y146):=⟨by (with_reducible repeat (first|apply Kd.R_alloc|apply Kd.R_drewN|apply Kd.R_drew));exact Kd.R_mono (Kd.R_fars gb149 (Kd.R_types HO148.out BK149.out (by decide)) (fun _ hk => hk.2)) (fun _ hk => hk.1)⟩
  have n2_ : Aside0 (((((w17.setCell ⟨gb149,0,none⟩ (.int .i64 4)).setCell ⟨gb149,1,none⟩ (.int .i64 4)).setCell ⟨gb149,2,none⟩ (.slice Ao19 y143.length co19)).setCell ⟨gb149,3,none⟩ (.slice Ao18 y146.length co18)).heap[gb149]? = some (.cells #[.int .i64 4,.int .i64 4,.slice Ao19 y143.length co19,.slice Ao18 y146.length co18] 24 (0,0))):=⟨by (with_reducible repeat (first|refine blk_drewN ?_ _|refine blk_drew ?_|refine blk_alloc ?_ _));exact blk_puts4 (blk_up BK149.out)⟩
  have n3_ : Aside0 (Below w.heap.size w ((((w17.setCell ⟨gb149,0,none⟩ (.int .i64 4)).setCell ⟨gb149,1,none⟩ (.int .i64 4)).setCell ⟨gb149,2,none⟩ (.slice Ao19 y143.length co19)).setCell ⟨gb149,3,none⟩ (.slice Ao18 y146.length co18))):=⟨hb_⟩
  (try clear HO145)
  (try clear HO148)
  (try clear BK149)
  (try clear HB)
  generalize ((((w17.setCell ⟨gb149,0,none⟩ (.int .i64 4)).setCell ⟨gb149,1,none⟩ (.int .i64 4)).setCell ⟨gb149,2,none⟩ (.slice Ao19 y143.length co19)).setCell ⟨gb149,3,none⟩ (.slice Ao18 y146.length co18)) = w24 at n0_ n1_ n2_ n3_ ⊢
  have HO145:=n0_
  have HO148:=n1_
  have BK149:=n2_
  have HB:=n3_
  clear n0_ n1_ n2_ n3_
  obtain ⟨hcz25_0,hcz25_1,hcz25_2,hcz25_3,hfz25_0,hfz25_1,hfz25_2,hfz25_3⟩:=cells4 BK149.out
  have p3 : 0 ≤ (0 : Int):=(by omega)
  have q3 : (0 : Int) < ((y143.length : Int) : Int):=of_decide_eq_true (by first|(with_reducible assumption)|assumption)
  have qi3 : (0 < y143.length) = True:=eq_true (by omega)
  obtain ⟨go3,co3,eo3,gb3,gl3,cl3,HG3⟩:=Kd.R_form HO145.out (by omega)
  (first|cases eo3|(injection eo3 with ea_ en_ ec_;(first|subst ea_|(injection ea_ with ea_;subst ea_));subst ec_;clear en_))
  have GB3:=Aside0.mk gb3
  have GG3:=Aside0.mk HG3
  clear gb3 gl3 HG3
  obtain ⟨hx3_0,hf3_0⟩:=Kd.R_celln 0 HO145.out (0 : Int) p3 q3
  (try rw [show ((0 : Int)).toNat = 0 from rfl] at hx3_0)
  (try simp only [Nat.reduceMul,Nat.zero_mul,Nat.zero_add,Nat.reduceAdd] at hx3_0)
  (try rw [show ((0 : Int)).toNat = 0 from rfl] at hf3_0)
  (try simp only [Nat.reduceMul,Nat.zero_mul,Nat.zero_add,Nat.reduceAdd] at hf3_0)
  replace p3:=eq_true p3
  replace q3:=eq_true q3
  obtain ⟨hy26_,hz26_⟩:=Kd.R_celln 0 HO145.out (0 : Int) (by omega) (of_decide_eq_true (by first|(with_reducible assumption)|assumption))
  (try simp only [Int.reduceToNat,Int.toNat_zero,Int.toNat_ofNat,Nat.reduceMul,Nat.zero_mul,Nat.zero_add] at hy26_ hz26_)
  (try rw [show ((0 : Int)).toNat = 0 from rfl] at hy26_)
  (try rw [show ((0 : Int)).toNat = 0 from rfl] at hz26_)
  have HP26:=Kd.R_putg HO145.out (0 : Int) 1
  try go_wp2_with (first|((with_reducible refine gate_store (t:=3) (p:=10) rfl ?_);refine store_event (t:=3) (p:=10) (v:=?vo_w27) (w1:=(w24.setCell ⟨go3,(0 : Int).toNat,none⟩ (.int .i64 1))) ?hg ?ho ?hn ?hr ?_;(case ho => rfl);(case hg => rfl);(case hn => rfl);(case hr => first|(go_simp;done)|(go_simp;rfl));intro w27 hw;have hg : w24.grownBy w27 (some go3):=(by rw [hw];exact HP26.2);have hp_ : Kd.R (Kd.int .i64) 3 w27 w.heap.size (fun k_ => some k_ ≠ (.slice Ao18 y146.length co18 : Value).ownBlock) (.slice (some ⟨go3,0,none⟩) y143.length co19) y150:=(by rw [hw,Ny150.out];exact HP26.1);clear HP26;replace HO148:=Aside0.mk (Kd.R_after (v:=(.slice (some ⟨go3,0,none⟩) y143.length co19)) (v1:=(.slice (some ⟨go3,0,none⟩) y143.length co19)) (ok:=(fun _ => True)) (by (with_reducible repeat (first|apply Kd.R_alloc|apply Kd.R_drewN|apply Kd.R_drew));exact Kd.R_mono HO148.out (fun _ hk => ⟨trivial,hk⟩)) hg (.inl rfl));replace BK149:=Aside0.mk (blk_grown (blk_up BK149.out) hg (Kd.R_ne HO145.out BK149.out (by decide)));replace HO145:=Aside0.mk (hp_);replace HB:=Aside0.mk ((by rw [hw];exact below_set (HB.out) GB3.out : Below w.heap.size w w27));clear hg hw hp_;obtain ⟨hcz28_0,hcz28_1,hcz28_2,hcz28_3,hfz28_0,hfz28_1,hfz28_2,hfz28_3⟩:=cells4 BK149.out;have p5 : 0 ≤ (1 : Int):=(by omega);have q5 : (1 : Int) < ((y143.length : Int) : Int):=of_decide_eq_true (by first|(with_reducible assumption)|assumption);have qi5 : (1 < y143.length) = True:=eq_true (by omega);obtain ⟨hx5_0,hf5_0⟩:=Kd.R_celln 0 HO145.out (1 : Int) p5 q5;(try rw [show ((1 : Int)).toNat = 1 from rfl] at hx5_0);(try simp only [Nat.reduceMul,Nat.zero_mul,Nat.zero_add,Nat.reduceAdd] at hx5_0);(try rw [show ((1 : Int)).toNat = 1 from rfl] at hf5_0);(try simp only [Nat.reduceMul,Nat.zero_mul,Nat.zero_add,Nat.reduceAdd] at hf5_0);replace p5:=eq_true p5;replace q5:=eq_true q5;obtain ⟨hy29_,hz29_⟩:=Kd.R_celln 0 HO145.out (1 : Int) (by omega) (of_decide_eq_true (by first|(with_reducible assumption)|assumption));(try simp only [Int.reduceToNat,Int.toNat_zero,Int.toNat_ofNat,Nat.reduceMul,Nat.zero_mul,Nat.zero_add] at hy29_ hz29_);(try rw [show ((1 : Int)).toNat = 1 from rfl] at hy29_);(try rw [show ((1 : Int)).toNat = 1 from rfl] at hz29_);have HP29:=Kd.R_putg HO145.out (1 : Int) 4)|((with_reducible refine gate_store (t:=3) (p:=13) rfl ?_);refine store_event (t:=3) (p:=13) (v:=?vo_w30) (w1:=(w27.setCell ⟨go3,(1 : Int).toNat,none⟩ (.int .i64 4))) ?hg ?ho ?hn ?hr ?_;(case ho => rfl);(case hg => rfl);(case hn => rfl);(case hr => first|(go_simp;done)|(go_simp;rfl));intro w30 hw;have hg : w27.grownBy w30 (some go3):=(by rw [hw];exact HP29.2);have hp_ : Kd.R (Kd.int .i64) 3 w30 w.heap.size (fun k_ => some k_ ≠ (.slice Ao18 y146.length co18 : Value).ownBlock) (.slice (some ⟨go3,0,none⟩) y143.length co19) y151:=(by rw [hw,Ny151.out];exact HP29.1);clear HP29;replace HO148:=Aside0.mk (Kd.R_after (v:=(.slice (some ⟨go3,0,none⟩) y143.length co19)) (v1:=(.slice (some ⟨go3,0,none⟩) y143.length co19)) (ok:=(fun _ => True)) (Kd.R_up HO148.out) hg (.inl rfl));replace BK149:=Aside0.mk (blk_grown (blk_up BK149.out) hg (Kd.R_ne HO145.out BK149.out (by decide)));replace HO145:=Aside0.mk (hp_);replace HB:=Aside0.mk ((by rw [hw];exact below_set (HB.out) GB3.out : Below w.heap.size w w30));clear hg hw hp_;obtain ⟨hcz31_0,hcz31_1,hcz31_2,hcz31_3,hfz31_0,hfz31_1,hfz31_2,hfz31_3⟩:=cells4 BK149.out)|((with_reducible refine gate_callee (f:=15) rfl ?_);refine goesL_ (some 16) rfl rfl Try.func15 (by kernel_rfl) rfl #[.agg #[.int .i64 4,.int .i64 4,.slice (some ⟨go3,0,none⟩) y151.length co19,.slice Ao18 y146.length co18],.int .i64 1,.int .i64 (-1),.int .i64 0] rfl (by (try simp only [List.map_toArray,List.map_cons,List.map_nil]);first|done|(rw [show y151.length = y143.length from (Kd.R_reads' HO145.out).1.symm] <;> rfl)|rfl|(simp only [List.length_drop,List.length_take];rfl)) ?_;(with_reducible refine (lane_Choose.calls k 4 4 _ _ y151 _ _ y146 1 (-1) 0 t152 true t154 _ ?side1 ?side2 ?side3 ?side4 A6.out).mono ?_);(case side1 => exact Kd.C_up (Kd.R_reads' HO145.out).2.2);(case side2 => rw [show y151.length = y143.length from (Kd.R_reads' HO145.out).1.symm];exact (Kd.R_reads' HO145.out).2.1);(case side3 => exact Kd.C_up (Kd.R_reads' HO148.out).2.2);(case side4 => exact (Kd.R_reads' HO148.out).2.1);rintro e w32 ⟨rfl,hb⟩;refine ⟨_,rfl,?_⟩;replace HO145:=rbw HO145 hb;replace HO148:=rbw HO148 hb;replace BK149:=bkb BK149 hb;replace HB:=Aside0.mk (below_step (hb_) hb)))
  go_ret
  exact ⟨by first|rfl|(simp [errW_none,errW_some] <;> rfl)|(simp [*,errW_none,errW_some] <;> rfl),hb_⟩
 ·replace c8:=Bool.eq_false_iff.mpr c8
  subst c8
  have H1 : (some false) = some r:=by rw [if_neg (show ¬ (false = true) by decide)] at H;exact H
  clear H
  have H:=H1
  clear H1
  obtain rfl:=Option.some.inj H
  go_enter Try.func13,Try.ntmps13
  try go_wp2
  replace HB:=Aside0.mk (below_drew1 HB.out)
  refine start_ (n:=5) (S:=fun w' => True) (ds:=[]) #[false,false,false,false,false] (by kernel_rfl) rfl rfl trivial (fun hHeld => ?_)
  generalize w.drew = w33 at HB hHeld ⊢
  refine join_ (σ:=Value × Value × Nat) 1 #[true,true,true,true,false] (fun s_ => [(5,s_.1),(6,s_.2.1),(1,.pointer (some ⟨s_.2.2,0,none⟩)),(7,.agg #[.int .i64 4,.int .i64 4,s_.1,s_.2.1])]) (fun s_ w' => (Kd.R (Kd.int .i64) 3 w' w.heap.size (fun k_ => some k_ ≠ (s_.2.1 : Value).ownBlock) s_.1 y143) ∧ (Kd.R (Kd.int .i64) 3 w' w.heap.size (fun k_ => some k_ ≠ (s_.1 : Value).ownBlock) s_.2.1 y146) ∧ (w'.heap[s_.2.2]? = some (.cells #[.int .i64 0,.int .i64 0,.slice none 0 0,.slice none 0 0] 24 (0,0))) ∧ (w.heap.size ≤ s_.2.2) ∧ (w.heap.size ≤ s_.2.2) ∧ (Below w.heap.size w w')) ?_ ?_
  rotate_left
  ·intro hJ0_1_3
   refine join_ (σ:=Value × Value) 2 #[true,true,true,false,false] (fun s_ => [(5,s_.1),(6,s_.2),(7,.agg #[.int .i64 4,.int .i64 4,s_.1,s_.2])]) (fun s_ w' => (Kd.R (Kd.int .i64) 3 w' w.heap.size (fun k_ => some k_ ≠ (s_.2 : Value).ownBlock) s_.1 y143) ∧ (Kd.R (Kd.int .i64) 3 w' w.heap.size (fun k_ => some k_ ≠ (s_.1 : Value).ownBlock) s_.2 y146) ∧ (Below w.heap.size w w')) ?_ ?_
   rotate_left
   ·intro hJ0_1
    refine join_ (σ:=Value × Nat) 3 #[true,false,false,true,false] (fun s_ => [(5,s_.1),(1,.pointer (some ⟨s_.2,0,none⟩))]) (fun s_ w' => (Kd.R (Kd.int .i64) 3 w' w.heap.size (fun _ => True) s_.1 y143) ∧ (w'.heap[s_.2]? = some (.cells #[.int .i64 0,.int .i64 0,.slice none 0 0,.slice none 0 0] 24 (0,0))) ∧ (w.heap.size ≤ s_.2) ∧ (w.heap.size ≤ s_.2) ∧ (Below w.heap.size w w')) ?_ ?_
    rotate_left
    ·intro hJ0_3
     refine join_ (σ:=Value × Nat) 3 #[false,true,false,true,false] (fun s_ => [(6,s_.1),(1,.pointer (some ⟨s_.2,0,none⟩))]) (fun s_ w' => (Kd.R (Kd.int .i64) 3 w' w.heap.size (fun _ => True) s_.1 y146) ∧ (w'.heap[s_.2]? = some (.cells #[.int .i64 0,.int .i64 0,.slice none 0 0,.slice none 0 0] 24 (0,0))) ∧ (w.heap.size ≤ s_.2) ∧ (w.heap.size ≤ s_.2) ∧ (Below w.heap.size w w')) ?_ ?_
     rotate_left
     ·intro hJ1_3
      refine join_ (σ:=Value) 4 #[true,false,false,false,false] (fun s_ => [(5,s_)]) (fun s_ w' => (Kd.R (Kd.int .i64) 3 w' w.heap.size (fun _ => True) s_ y143) ∧ (Below w.heap.size w w')) ?_ ?_
      rotate_left
      ·intro hJ0
       refine join_ (σ:=Value) 4 #[false,true,false,false,false] (fun s_ => [(6,s_)]) (fun s_ w' => (Kd.R (Kd.int .i64) 3 w' w.heap.size (fun _ => True) s_ y146) ∧ (Below w.heap.size w w')) ?_ ?_
       rotate_left
       ·intro hJ1
        refine join_ (σ:=Nat) 4 #[false,false,false,true,false] (fun s_ => [(1,.pointer (some ⟨s_,0,none⟩))]) (fun s_ w' => (w'.heap[s_]? = some (.cells #[.int .i64 0,.int .i64 0,.slice none 0 0,.slice none 0 0] 24 (0,0))) ∧ (w.heap.size ≤ s_) ∧ (w.heap.size ≤ s_) ∧ (Below w.heap.size w w')) ?_ ?_
        rotate_left
        ·intro hJ3
         refine three_ (i:=0) (j:=1) (k:=3) (Ni:=some 5) (Nj:=some 6) (Nk:=some 1) #[true,false,false,false,false] #[false,true,false,false,false] #[false,false,false,true,false] rfl rfl rfl rfl rfl rfl (by kernel_rfl) (by decide) (by decide) (by decide) (fun K hK => ?_) (fun K hK => ?_) (fun K hK => ?_)
         ·skip
          refine Kd.R_make_step (Kd.int .i64) _ 3 (by rfl) (N:=5) rfl 22 _ _ rfl 16 rfl rfl Try.underlying22 (.int .i64 0) 8 info3 rfl (by decide) (by omega) 0 (ok:=fun _ => True) (okp:=fun _ => True) rfl (fun _ hk => hk) trivial (by omega) (by omega) (Below.refl _ _) (Nat.le_refl _) ?_
          intro v144 w34 ho35 hb hg_ hnew_
          clear hg_ hnew_
          (first|rw [← Ny143.out] at ho35|(simp only [Int.reduceToNat] at ho35;rw [← Ny143.out] at ho35))
          have n0_:=rlo ho35
          have n1_:=Aside0.mk (below_step (hb_) hb)
          clear HB
          have HO145:=n0_
          have HB:=n1_
          clear n0_ n1_
          clear hb ho35
          refine hK.out _ _ trivial (fun hHeld => ?_)
          clear hK K
          refine norm_ (a':=?_) ?_ ?_
          rotate_left
          ·show Act.put _ (some 5) _ = _
           simp only [Act.put,List.setIfInBounds_toArray,List.set_cons_zero,List.set_cons_succ,i64_w,i32_w]
           rfl
          exact norm_ (by first|(simp only [putAll,Act.put,List.setIfInBounds_toArray,List.set_cons_zero,List.set_cons_succ];done)|(simp only [putAll,Act.put,List.setIfInBounds_toArray,List.set_cons_zero,List.set_cons_succ];rfl)) (hJ0 (v144) _ ⟨(Kd.R_up HO145.out),(hb_)⟩)
         ·skip
          refine Kd.R_make_step (Kd.int .i64) _ 3 (by rfl) (N:=6) rfl 22 _ _ rfl 16 rfl rfl Try.underlying22 (.int .i64 0) 8 info3 rfl (by decide) (by omega) 0 (ok:=fun _ => True) (okp:=fun _ => True) rfl (fun _ hk => hk) trivial (by omega) (by omega) (Below.refl _ _) (Nat.le_refl _) ?_
          intro v147 w34 ho35 hb hg_ hnew_
          clear hg_ hnew_
          (first|rw [← Ny146.out] at ho35|(simp only [Int.reduceToNat] at ho35;rw [← Ny146.out] at ho35))
          have n0_:=rlo ho35
          have n1_:=Aside0.mk (below_step (hb_) hb)
          clear HB
          have HO148:=n0_
          have HB:=n1_
          clear n0_ n1_
          clear hb ho35
          refine hK.out _ _ trivial (fun hHeld => ?_)
          clear hK K
          refine norm_ (a':=?_) ?_ ?_
          rotate_left
          ·show Act.put _ (some 6) _ = _
           simp only [Act.put,List.setIfInBounds_toArray,List.set_cons_zero,List.set_cons_succ,i64_w,i32_w]
           rfl
          exact norm_ (by first|(simp only [putAll,Act.put,List.setIfInBounds_toArray,List.set_cons_zero,List.set_cons_succ];done)|(simp only [putAll,Act.put,List.setIfInBounds_toArray,List.set_cons_zero,List.set_cons_succ];rfl)) (hJ1 (v147) _ ⟨(Kd.R_up HO148.out),(hb_)⟩)
         ·skip
          refine box_step ?hg (N:=1) ?hd (cs:=#[.int .i64 0,.int .i64 0,.slice none 0 0,.slice none 0 0]) (t:=24) ?hr ?_;(case hd => rfl);(case hg => rfl);(case hr => first|(go_simp;done)|(go_simp;rfl))
          intro gb149 hg w34 hbox hb
          have n0_:=Aside0.mk (below_step (hb_) hb)
          have n1_:=Aside0.mk (hbox)
          have n2_:=Aside0.mk ((by rw [hg];exact (below_size (hb_)) : w.heap.size ≤ gb149))
          have n3_:=Aside0.mk ((by rw [hg];exact (below_size (hb_)) : w.heap.size ≤ gb149))
          clear HB
          have HB:=n0_
          have BK149:=n1_
          have GW149:=n2_
          have GE149:=n3_
          clear n0_ n1_ n2_ n3_
          clear hb hbox hg
          refine hK.out _ _ trivial (fun hHeld => ?_)
          clear hK K
          refine norm_ (a':=?_) ?_ ?_
          rotate_left
          ·show Act.put _ (some 1) _ = _
           simp only [Act.put,List.setIfInBounds_toArray,List.set_cons_zero,List.set_cons_succ,i64_w,i32_w]
           rfl
          exact norm_ (by first|(simp only [putAll,Act.put,List.setIfInBounds_toArray,List.set_cons_zero,List.set_cons_succ];done)|(simp only [putAll,Act.put,List.setIfInBounds_toArray,List.set_cons_zero,List.set_cons_succ];rfl)) (hJ3 (gb149) _ ⟨(blk_up BK149.out),GW149.out,GE149.out,(hb_)⟩)
        ·skip
         rintro gb149 w35 ⟨h0_,h1_,h2_,h3_⟩
         have n0_ : Aside0 (w35.heap[gb149]? = some (.cells #[.int .i64 0,.int .i64 0,.slice none 0 0,.slice none 0 0] 24 (0,0))):=⟨h0_⟩
         have n1_ : Aside0 (w.heap.size ≤ gb149):=⟨h1_⟩
         have n2_ : Aside0 (w.heap.size ≤ gb149):=⟨h2_⟩
         have n3_ : Aside0 (Below w.heap.size w w35):=⟨h3_⟩
         clear HB
         clear h0_ h1_ h2_ h3_
         have BK149:=n0_
         have GW149:=n1_
         have GE149:=n2_
         have HB:=n3_
         clear n0_ n1_ n2_ n3_
         have hHeld:=trivial
         refine norm_ (a':=?_) ?_ ?_
         rotate_left
         ·simp only [putAll,Act.put,List.setIfInBounds_toArray,List.set_cons_zero,List.set_cons_succ]
          rfl
         refine two_ (i:=0) (j:=1) (Ni:=some 5) (Nj:=some 6) #[true,false,false,true,false] #[false,true,false,true,false] rfl rfl rfl rfl (by kernel_rfl) (by decide) (by decide) (fun K hK => ?_) (fun K hK => ?_)
         ·skip
          refine Kd.R_make_step (Kd.int .i64) _ 3 (by rfl) (N:=5) rfl 22 _ _ rfl 16 rfl rfl Try.underlying22 (.int .i64 0) 8 info3 rfl (by decide) (by omega) 0 (ok:=fun _ => True) (okp:=fun _ => True) rfl (fun _ hk => hk) trivial (by omega) (by omega) (Below.refl _ _) (Nat.le_refl _) ?_
          intro v144 w36 ho37 hb hg_ hnew_
          clear hg_ hnew_
          (first|rw [← Ny143.out] at ho37|(simp only [Int.reduceToNat] at ho37;rw [← Ny143.out] at ho37))
          have n0_:=rlo ho37
          have n1_:=bkb BK149 hb
          have n2_:=Aside0.mk (below_step (hb_) hb)
          clear BK149
          clear HB
          have HO145:=n0_
          have BK149:=n1_
          have HB:=n2_
          clear n0_ n1_ n2_
          clear hb ho37
          refine hK.out _ _ trivial (fun hHeld => ?_)
          clear hK K
          refine norm_ (a':=?_) ?_ ?_
          rotate_left
          ·show Act.put _ (some 5) _ = _
           simp only [Act.put,List.setIfInBounds_toArray,List.set_cons_zero,List.set_cons_succ,i64_w,i32_w]
           rfl
          exact norm_ (by first|(simp only [putAll,Act.put,List.setIfInBounds_toArray,List.set_cons_zero,List.set_cons_succ];done)|(simp only [putAll,Act.put,List.setIfInBounds_toArray,List.set_cons_zero,List.set_cons_succ];rfl)) (hJ0_3 (v144,gb149) _ ⟨(Kd.R_up HO145.out),(blk_up BK149.out),GW149.out,GE149.out,(hb_)⟩)
         ·skip
          refine Kd.R_make_step (Kd.int .i64) _ 3 (by rfl) (N:=6) rfl 22 _ _ rfl 16 rfl rfl Try.underlying22 (.int .i64 0) 8 info3 rfl (by decide) (by omega) 0 (ok:=fun _ => True) (okp:=fun _ => True) rfl (fun _ hk => hk) trivial (by omega) (by omega) (Below.refl _ _) (Nat.le_refl _) ?_
          intro v147 w36 ho37 hb hg_ hnew_
          clear hg_ hnew_
          (first|rw [← Ny146.out] at ho37|(simp only [Int.reduceToNat] at ho37;rw [← Ny146.out] at ho37))
          have n0_:=rlo ho37
          have n1_:=bkb BK149 hb
          have n2_:=Aside0.mk (below_step (hb_) hb)
          clear BK149
          clear HB
          have HO148:=n0_
          have BK149:=n1_
          have HB:=n2_
          clear n0_ n1_ n2_
          clear hb ho37
          refine hK.out _ _ trivial (fun hHeld => ?_)
          clear hK K
          refine norm_ (a':=?_) ?_ ?_
          rotate_left
          ·show Act.put _ (some 6) _ = _
           simp only [Act.put,List.setIfInBounds_toArray,List.set_cons_zero,List.set_cons_succ,i64_w,i32_w]
           rfl
          exact norm_ (by first|(simp only [putAll,Act.put,List.setIfInBounds_toArray,List.set_cons_zero,List.set_cons_succ];done)|(simp only [putAll,Act.put,List.setIfInBounds_toArray,List.set_cons_zero,List.set_cons_succ];rfl)) (hJ1_3 (v147,gb149) _ ⟨(Kd.R_up HO148.out),(blk_up BK149.out),GW149.out,GE149.out,(hb_)⟩)
       ·skip
        rintro v147 w36 ⟨h0_,h1_⟩
        have n0_ : Aside0 (Kd.R (Kd.int .i64) 3 w36 w.heap.size (fun _ => True) v147 y146):=⟨h0_⟩
        have n1_ : Aside0 (Below w.heap.size w w36):=⟨h1_⟩
        clear HB
        clear h0_ h1_
        have HO148:=n0_
        have HB:=n1_
        clear n0_ n1_
        have hHeld:=trivial
        refine norm_ (a':=?_) ?_ ?_
        rotate_left
        ·simp only [putAll,Act.put,List.setIfInBounds_toArray,List.set_cons_zero,List.set_cons_succ]
         rfl
        refine two_ (i:=0) (j:=3) (Ni:=some 5) (Nj:=some 1) #[true,true,false,false,false] #[false,true,false,true,false] rfl rfl rfl rfl (by kernel_rfl) (by decide) (by decide) (fun K hK => ?_) (fun K hK => ?_)
        ·skip
         refine Kd.R_make_step (Kd.int .i64) _ 3 (by rfl) (N:=5) rfl 22 _ _ rfl 16 rfl rfl Try.underlying22 (.int .i64 0) 8 info3 rfl (by decide) (by omega) 0 (ok:=fun _ => True) (okp:=fun _ => True) rfl (fun _ hk => hk) trivial (by omega) (by omega) (Below.refl _ _) (Nat.le_refl _) ?_
         intro v144 w37 ho38 hb hg_ hnew_
         clear hg_ hnew_
         (first|rw [← Ny143.out] at ho38|(simp only [Int.reduceToNat] at ho38;rw [← Ny143.out] at ho38))
         have n0_:=Aside0.mk (Kd.R_elder' (Kd.R_up HO148.out) (Kd.R_base ho38) hb)
         have n1_:=Aside0.mk (Kd.R_lower (Kd.R_new' ho38 (Kd.R_lt (Kd.R_up HO148.out))) (below_size (hb_)))
         have n2_:=Aside0.mk (below_step (hb_) hb)
         clear HO148
         clear HB
         have HO148:=n0_
         have HO145:=n1_
         have HB:=n2_
         clear n0_ n1_ n2_
         clear hb ho38
         obtain ⟨Ao39,co39,eo39⟩:=Kd.R_slice HO148.out
         (first|subst eo39|(injection eo39 with f1_ f2_ f3_;have f4_:=f1_.symm;have f5_:=f3_.symm;clear f1_ f2_ f3_;subst f4_;subst f5_))
         obtain ⟨Ao40,co40,eo40⟩:=Kd.R_slice HO145.out
         (first|subst eo40|(injection eo40 with f1_ f2_ f3_;have f4_:=f1_.symm;have f5_:=f3_.symm;clear f1_ f2_ f3_;subst f4_;subst f5_))
         refine hK.out _ _ trivial (fun hHeld => ?_)
         clear hK K
         refine norm_ (a':=?_) ?_ ?_
         rotate_left
         ·show Act.put _ (some 5) _ = _
          simp only [Act.put,List.setIfInBounds_toArray,List.set_cons_zero,List.set_cons_succ,i64_w,i32_w]
          rfl
         refine pI 2 (some 7) ?_
         exact norm_ (by first|(simp only [putAll,Act.put,List.setIfInBounds_toArray,List.set_cons_zero,List.set_cons_succ];done)|(simp only [putAll,Act.put,List.setIfInBounds_toArray,List.set_cons_zero,List.set_cons_succ];rfl)) (hJ0_1 (.slice Ao40 y143.length co40,.slice Ao39 y146.length co39) _ ⟨(by (with_reducible repeat (first|apply Kd.R_alloc|apply Kd.R_drewN|apply Kd.R_drew));exact Kd.R_mono HO145.out (fun _ hk => hk.2)),(by (with_reducible repeat (first|apply Kd.R_alloc|apply Kd.R_drewN|apply Kd.R_drew));exact Kd.R_mono HO148.out (fun _ hk => hk.2)),(hb_)⟩)
        ·skip
         refine box_step ?hg (N:=1) ?hd (cs:=#[.int .i64 0,.int .i64 0,.slice none 0 0,.slice none 0 0]) (t:=24) ?hr ?_;(case hd => rfl);(case hg => rfl);(case hr => first|(go_simp;done)|(go_simp;rfl))
         intro gb149 hg w37 hbox hb
         have n0_:=rbw HO148 hb
         have n1_:=Aside0.mk (below_step (hb_) hb)
         have n2_:=Aside0.mk (hbox)
         have n3_:=Aside0.mk ((by rw [hg];exact (below_size (hb_)) : w.heap.size ≤ gb149))
         have n4_:=Aside0.mk ((by rw [hg];exact (below_size (hb_)) : w.heap.size ≤ gb149))
         clear HO148
         clear HB
         have HO148:=n0_
         have HB:=n1_
         have BK149:=n2_
         have GW149:=n3_
         have GE149:=n4_
         clear n0_ n1_ n2_ n3_ n4_
         clear hb hbox hg
         refine hK.out _ _ trivial (fun hHeld => ?_)
         clear hK K
         refine norm_ (a':=?_) ?_ ?_
         rotate_left
         ·show Act.put _ (some 1) _ = _
          simp only [Act.put,List.setIfInBounds_toArray,List.set_cons_zero,List.set_cons_succ,i64_w,i32_w]
          rfl
         exact norm_ (by first|(simp only [putAll,Act.put,List.setIfInBounds_toArray,List.set_cons_zero,List.set_cons_succ];done)|(simp only [putAll,Act.put,List.setIfInBounds_toArray,List.set_cons_zero,List.set_cons_succ];rfl)) (hJ1_3 (v147,gb149) _ ⟨(Kd.R_up HO148.out),(blk_up BK149.out),GW149.out,GE149.out,(hb_)⟩)
      ·skip
       rintro v144 w36 ⟨h0_,h1_⟩
       have n0_ : Aside0 (Kd.R (Kd.int .i64) 3 w36 w.heap.size (fun _ => True) v144 y143):=⟨h0_⟩
       have n1_ : Aside0 (Below w.heap.size w w36):=⟨h1_⟩
       clear HB
       clear h0_ h1_
       have HO145:=n0_
       have HB:=n1_
       clear n0_ n1_
       have hHeld:=trivial
       refine norm_ (a':=?_) ?_ ?_
       rotate_left
       ·simp only [putAll,Act.put,List.setIfInBounds_toArray,List.set_cons_zero,List.set_cons_succ]
        rfl
       refine two_ (i:=1) (j:=3) (Ni:=some 6) (Nj:=some 1) #[true,true,false,false,false] #[true,false,false,true,false] rfl rfl rfl rfl (by kernel_rfl) (by decide) (by decide) (fun K hK => ?_) (fun K hK => ?_)
       ·skip
        refine Kd.R_make_step (Kd.int .i64) _ 3 (by rfl) (N:=6) rfl 22 _ _ rfl 16 rfl rfl Try.underlying22 (.int .i64 0) 8 info3 rfl (by decide) (by omega) 0 (ok:=fun _ => True) (okp:=fun _ => True) rfl (fun _ hk => hk) trivial (by omega) (by omega) (Below.refl _ _) (Nat.le_refl _) ?_
        intro v147 w37 ho38 hb hg_ hnew_
        clear hg_ hnew_
        (first|rw [← Ny146.out] at ho38|(simp only [Int.reduceToNat] at ho38;rw [← Ny146.out] at ho38))
        have n0_:=Aside0.mk (Kd.R_elder' (Kd.R_up HO145.out) (Kd.R_base ho38) hb)
        have n1_:=Aside0.mk (Kd.R_lower (Kd.R_new' ho38 (Kd.R_lt (Kd.R_up HO145.out))) (below_size (hb_)))
        have n2_:=Aside0.mk (below_step (hb_) hb)
        clear HO145
        clear HB
        have HO145:=n0_
        have HO148:=n1_
        have HB:=n2_
        clear n0_ n1_ n2_
        clear hb ho38
        obtain ⟨Ao39,co39,eo39⟩:=Kd.R_slice HO148.out
        (first|subst eo39|(injection eo39 with f1_ f2_ f3_;have f4_:=f1_.symm;have f5_:=f3_.symm;clear f1_ f2_ f3_;subst f4_;subst f5_))
        obtain ⟨Ao40,co40,eo40⟩:=Kd.R_slice HO145.out
        (first|subst eo40|(injection eo40 with f1_ f2_ f3_;have f4_:=f1_.symm;have f5_:=f3_.symm;clear f1_ f2_ f3_;subst f4_;subst f5_))
        refine hK.out _ _ trivial (fun hHeld => ?_)
        clear hK K
        refine norm_ (a':=?_) ?_ ?_
        rotate_left
        ·show Act.put _ (some 6) _ = _
         simp only [Act.put,List.setIfInBounds_toArray,List.set_cons_zero,List.set_cons_succ,i64_w,i32_w]
         rfl
        refine pI 2 (some 7) ?_
        exact norm_ (by first|(simp only [putAll,Act.put,List.setIfInBounds_toArray,List.set_cons_zero,List.set_cons_succ];done)|(simp only [putAll,Act.put,List.setIfInBounds_toArray,List.set_cons_zero,List.set_cons_succ];rfl)) (hJ0_1 (.slice Ao40 y143.length co40,.slice Ao39 y146.length co39) _ ⟨(by (with_reducible repeat (first|apply Kd.R_alloc|apply Kd.R_drewN|apply Kd.R_drew));exact Kd.R_mono HO145.out (fun _ hk => hk.2)),(by (with_reducible repeat (first|apply Kd.R_alloc|apply Kd.R_drewN|apply Kd.R_drew));exact Kd.R_mono HO148.out (fun _ hk => hk.2)),(hb_)⟩)
       ·skip
        refine box_step ?hg (N:=1) ?hd (cs:=#[.int .i64 0,.int .i64 0,.slice none 0 0,.slice none 0 0]) (t:=24) ?hr ?_;(case hd => rfl);(case hg => rfl);(case hr => first|(go_simp;done)|(go_simp;rfl))
        intro gb149 hg w37 hbox hb
        have n0_:=rbw HO145 hb
        have n1_:=Aside0.mk (below_step (hb_) hb)
        have n2_:=Aside0.mk (hbox)
        have n3_:=Aside0.mk ((by rw [hg];exact (below_size (hb_)) : w.heap.size ≤ gb149))
        have n4_:=Aside0.mk ((by rw [hg];exact (below_size (hb_)) : w.heap.size ≤ gb149))
        clear HO145
        clear HB
        have HO145:=n0_
        have HB:=n1_
        have BK149:=n2_
        have GW149:=n3_
        have GE149:=n4_
        clear n0_ n1_ n2_ n3_ n4_
        clear hb hbox hg
        refine hK.out _ _ trivial (fun hHeld => ?_)
        clear hK K
        refine norm_ (a':=?_) ?_ ?_
        rotate_left
        ·show Act.put _ (some 1) _ = _
         simp only [Act.put,List.setIfInBounds_toArray,List.set_cons_zero,List.set_cons_succ,i64_w,i32_w]
         rfl
        exact norm_ (by first|(simp only [putAll,Act.put,List.setIfInBounds_toArray,List.set_cons_zero,List.set_cons_succ];done)|(simp only [putAll,Act.put,List.setIfInBounds_toArray,List.set_cons_zero,List.set_cons_succ];rfl)) (hJ0_3 (v144,gb149) _ ⟨(Kd.R_up HO145.out),(blk_up BK149.out),GW149.out,GE149.out,(hb_)⟩)
     ·skip
      rintro ⟨v147,gb149⟩ w37 ⟨h0_,h1_,h2_,h3_,h4_⟩
      have n0_ : Aside0 (Kd.R (Kd.int .i64) 3 w37 w.heap.size (fun _ => True) v147 y146):=⟨h0_⟩
      have n1_ : Aside0 (w37.heap[gb149]? = some (.cells #[.int .i64 0,.int .i64 0,.slice none 0 0,.slice none 0 0] 24 (0,0))):=⟨h1_⟩
      have n2_ : Aside0 (w.heap.size ≤ gb149):=⟨h2_⟩
      have n3_ : Aside0 (w.heap.size ≤ gb149):=⟨h3_⟩
      have n4_ : Aside0 (Below w.heap.size w w37):=⟨h4_⟩
      clear HB
      clear h0_ h1_ h2_ h3_ h4_
      have HO148:=n0_
      have BK149:=n1_
      have GW149:=n2_
      have GE149:=n3_
      have HB:=n4_
      clear n0_ n1_ n2_ n3_ n4_
      have hHeld:=trivial
      refine norm_ (a':=?_) ?_ ?_
      rotate_left
      ·simp only [putAll,Act.put,List.setIfInBounds_toArray,List.set_cons_zero,List.set_cons_succ]
       rfl
      refine oI 0 (some 5) (fun K hK => ?_)
      refine Kd.R_make_step (Kd.int .i64) _ 3 (by rfl) (N:=5) rfl 22 _ _ rfl 16 rfl rfl Try.underlying22 (.int .i64 0) 8 info3 rfl (by decide) (by omega) 0 (ok:=fun _ => True) (okp:=fun _ => True) rfl (fun _ hk => hk) trivial (by omega) (by omega) (Below.refl _ _) (Nat.le_refl _) ?_
      intro v144 w38 ho39 hb hg_ hnew_
      clear hg_ hnew_
      (first|rw [← Ny143.out] at ho39|(simp only [Int.reduceToNat] at ho39;rw [← Ny143.out] at ho39))
      have n0_:=Aside0.mk (Kd.R_elder' (Kd.R_up HO148.out) (Kd.R_base ho39) hb)
      have n1_:=Aside0.mk (Kd.R_lower (Kd.R_new' ho39 (Kd.R_lt (Kd.R_up HO148.out))) (below_size (hb_)))
      have n2_:=bkb BK149 hb
      have n3_:=Aside0.mk (below_step (hb_) hb)
      clear HO148
      clear BK149
      clear HB
      have HO148:=n0_
      have HO145:=n1_
      have BK149:=n2_
      have HB:=n3_
      clear n0_ n1_ n2_ n3_
      clear hb ho39
      obtain ⟨Ao40,co40,eo40⟩:=Kd.R_slice HO148.out
      (first|subst eo40|(injection eo40 with f1_ f2_ f3_;have f4_:=f1_.symm;have f5_:=f3_.symm;clear f1_ f2_ f3_;subst f4_;subst f5_))
      obtain ⟨Ao41,co41,eo41⟩:=Kd.R_slice HO145.out
      (first|subst eo41|(injection eo41 with f1_ f2_ f3_;have f4_:=f1_.symm;have f5_:=f3_.symm;clear f1_ f2_ f3_;subst f4_;subst f5_))
      refine hK.out _ _ trivial (fun hHeld => ?_)
      clear hK K
      refine norm_ (a':=?_) ?_ ?_
      rotate_left
      ·show Act.put _ (some 5) _ = _
       simp only [Act.put,List.setIfInBounds_toArray,List.set_cons_zero,List.set_cons_succ,i64_w,i32_w]
       rfl
      refine pI 2 (some 7) ?_
      exact norm_ (by first|(simp only [putAll,Act.put,List.setIfInBounds_toArray,List.set_cons_zero,List.set_cons_succ];done)|(simp only [putAll,Act.put,List.setIfInBounds_toArray,List.set_cons_zero,List.set_cons_succ];rfl)) (hJ0_1_3 (.slice Ao41 y143.length co41,.slice Ao40 y146.length co40,gb149) _ ⟨(by (with_reducible repeat (first|apply Kd.R_alloc|apply Kd.R_drewN|apply Kd.R_drew));exact Kd.R_mono HO145.out (fun _ hk => hk.2)),(by (with_reducible repeat (first|apply Kd.R_alloc|apply Kd.R_drewN|apply Kd.R_drew));exact Kd.R_mono HO148.out (fun _ hk => hk.2)),(blk_up BK149.out),GW149.out,GE149.out,(hb_)⟩)
    ·skip
     rintro ⟨v144,gb149⟩ w37 ⟨h0_,h1_,h2_,h3_,h4_⟩
     have n0_ : Aside0 (Kd.R (Kd.int .i64) 3 w37 w.heap.size (fun _ => True) v144 y143):=⟨h0_⟩
     have n1_ : Aside0 (w37.heap[gb149]? = some (.cells #[.int .i64 0,.int .i64 0,.slice none 0 0,.slice none 0 0] 24 (0,0))):=⟨h1_⟩
     have n2_ : Aside0 (w.heap.size ≤ gb149):=⟨h2_⟩
     have n3_ : Aside0 (w.heap.size ≤ gb149):=⟨h3_⟩
     have n4_ : Aside0 (Below w.heap.size w w37):=⟨h4_⟩
     clear HB
     clear h0_ h1_ h2_ h3_ h4_
     have HO145:=n0_
     have BK149:=n1_
     have GW149:=n2_
     have GE149:=n3_
     have HB:=n4_
     clear n0_ n1_ n2_ n3_ n4_
     have hHeld:=trivial
     refine norm_ (a':=?_) ?_ ?_
     rotate_left
     ·simp only [putAll,Act.put,List.setIfInBounds_toArray,List.set_cons_zero,List.set_cons_succ]
      rfl
     refine oI 1 (some 6) (fun K hK => ?_)
     refine Kd.R_make_step (Kd.int .i64) _ 3 (by rfl) (N:=6) rfl 22 _ _ rfl 16 rfl rfl Try.underlying22 (.int .i64 0) 8 info3 rfl (by decide) (by omega) 0 (ok:=fun _ => True) (okp:=fun _ => True) rfl (fun _ hk => hk) trivial (by omega) (by omega) (Below.refl _ _) (Nat.le_refl _) ?_
     intro v147 w38 ho39 hb hg_ hnew_
     clear hg_ hnew_
     (first|rw [← Ny146.out] at ho39|(simp only [Int.reduceToNat] at ho39;rw [← Ny146.out] at ho39))
     have n0_:=Aside0.mk (Kd.R_elder' (Kd.R_up HO145.out) (Kd.R_base ho39) hb)
     have n1_:=Aside0.mk (Kd.R_lower (Kd.R_new' ho39 (Kd.R_lt (Kd.R_up HO145.out))) (below_size (hb_)))
     have n2_:=bkb BK149 hb
     have n3_:=Aside0.mk (below_step (hb_) hb)
     clear HO145
     clear BK149
     clear HB
     have HO145:=n0_
     have HO148:=n1_
     have BK149:=n2_
     have HB:=n3_
     clear n0_ n1_ n2_ n3_
     clear hb ho39
     obtain ⟨Ao40,co40,eo40⟩:=Kd.R_slice HO148.out
     (first|subst eo40|(injection eo40 with f1_ f2_ f3_;have f4_:=f1_.symm;have f5_:=f3_.symm;clear f1_ f2_ f3_;subst f4_;subst f5_))
     obtain ⟨Ao41,co41,eo41⟩:=Kd.R_slice HO145.out
     (first|subst eo41|(injection eo41 with f1_ f2_ f3_;have f4_:=f1_.symm;have f5_:=f3_.symm;clear f1_ f2_ f3_;subst f4_;subst f5_))
     refine hK.out _ _ trivial (fun hHeld => ?_)
     clear hK K
     refine norm_ (a':=?_) ?_ ?_
     rotate_left
     ·show Act.put _ (some 6) _ = _
      simp only [Act.put,List.setIfInBounds_toArray,List.set_cons_zero,List.set_cons_succ,i64_w,i32_w]
      rfl
     refine pI 2 (some 7) ?_
     exact norm_ (by first|(simp only [putAll,Act.put,List.setIfInBounds_toArray,List.set_cons_zero,List.set_cons_succ];done)|(simp only [putAll,Act.put,List.setIfInBounds_toArray,List.set_cons_zero,List.set_cons_succ];rfl)) (hJ0_1_3 (.slice Ao41 y143.length co41,.slice Ao40 y146.length co40,gb149) _ ⟨(by (with_reducible repeat (first|apply Kd.R_alloc|apply Kd.R_drewN|apply Kd.R_drew));exact Kd.R_mono HO145.out (fun _ hk => hk.2)),(by (with_reducible repeat (first|apply Kd.R_alloc|apply Kd.R_drewN|apply Kd.R_drew));exact Kd.R_mono HO148.out (fun _ hk => hk.2)),(blk_up BK149.out),GW149.out,GE149.out,(hb_)⟩)
   ·skip
    rintro ⟨v144,v147⟩ w40 ⟨h0_,h1_,h2_⟩
    have n0_ : Aside0 (Kd.R (Kd.int .i64) 3 w40 w.heap.size (fun k_ => some k_ ≠ (v147 : Value).ownBlock) v144 y143):=⟨h0_⟩
    have n1_ : Aside0 (Kd.R (Kd.int .i64) 3 w40 w.heap.size (fun k_ => some k_ ≠ (v144 : Value).ownBlock) v147 y146):=⟨h1_⟩
    have n2_ : Aside0 (Below w.heap.size w w40):=⟨h2_⟩
    clear HB
    clear h0_ h1_ h2_
    have HO145:=n0_
    have HO148:=n1_
    have HB:=n2_
    clear n0_ n1_ n2_
    have hHeld:=trivial
    obtain ⟨Ao41,co41,eo41⟩:=Kd.R_slice HO148.out
    (first|subst eo41|(injection eo41 with f1_ f2_ f3_;have f4_:=f1_.symm;have f5_:=f3_.symm;clear f1_ f2_ f3_;subst f4_;subst f5_))
    obtain ⟨Ao42,co42,eo42⟩:=Kd.R_slice HO145.out
    (first|subst eo42|(injection eo42 with f1_ f2_ f3_;have f4_:=f1_.symm;have f5_:=f3_.symm;clear f1_ f2_ f3_;subst f4_;subst f5_))
    refine norm_ (a':=?_) ?_ ?_
    rotate_left
    ·simp only [putAll,Act.put,List.setIfInBounds_toArray,List.set_cons_zero,List.set_cons_succ]
     rfl
    refine oI 3 (some 1) (fun K hK => ?_)
    refine box_step ?hg (N:=1) ?hd (cs:=#[.int .i64 0,.int .i64 0,.slice none 0 0,.slice none 0 0]) (t:=24) ?hr ?_;(case hd => rfl);(case hg => rfl);(case hr => first|(go_simp;done)|(go_simp;rfl))
    intro gb149 hg w43 hbox hb
    have n0_:=rbw HO145 hb
    have n1_:=rbw HO148 hb
    have n2_:=Aside0.mk (below_step (hb_) hb)
    have n3_:=Aside0.mk (hbox)
    have n4_:=Aside0.mk ((by rw [hg];exact (below_size (hb_)) : w.heap.size ≤ gb149))
    have n5_:=Aside0.mk ((by rw [hg];exact (below_size (hb_)) : w.heap.size ≤ gb149))
    clear HO145
    clear HO148
    clear HB
    have HO145:=n0_
    have HO148:=n1_
    have HB:=n2_
    have BK149:=n3_
    have GW149:=n4_
    have GE149:=n5_
    clear n0_ n1_ n2_ n3_ n4_ n5_
    clear hb hbox hg
    refine hK.out _ _ trivial (fun hHeld => ?_)
    clear hK K
    refine norm_ (a':=?_) ?_ ?_
    rotate_left
    ·show Act.put _ (some 1) _ = _
     simp only [Act.put,List.setIfInBounds_toArray,List.set_cons_zero,List.set_cons_succ,i64_w,i32_w]
     rfl
    exact norm_ (by first|(simp only [putAll,Act.put,List.setIfInBounds_toArray,List.set_cons_zero,List.set_cons_succ];done)|(simp only [putAll,Act.put,List.setIfInBounds_toArray,List.set_cons_zero,List.set_cons_succ];rfl)) (hJ0_1_3 (.slice Ao42 y143.length co42,.slice Ao41 y146.length co41,gb149) _ ⟨(Kd.R_up HO145.out),(Kd.R_up HO148.out),(blk_up BK149.out),GW149.out,GE149.out,(hb_)⟩)
  rintro ⟨v144,v147,gb149⟩ w41 ⟨h0_,h1_,h2_,h3_,h4_,h5_⟩
  have n0_ : Aside0 (Kd.R (Kd.int .i64) 3 w41 w.heap.size (fun k_ => some k_ ≠ (v147 : Value).ownBlock) v144 y143):=⟨h0_⟩
  have n1_ : Aside0 (Kd.R (Kd.int .i64) 3 w41 w.heap.size (fun k_ => some k_ ≠ (v144 : Value).ownBlock) v147 y146):=⟨h1_⟩
  have n2_ : Aside0 (w41.heap[gb149]? = some (.cells #[.int .i64 0,.int .i64 0,.slice none 0 0,.slice none 0 0] 24 (0,0))):=⟨h2_⟩
  have n3_ : Aside0 (w.heap.size ≤ gb149):=⟨h3_⟩
  have n4_ : Aside0 (w.heap.size ≤ gb149):=⟨h4_⟩
  have n5_ : Aside0 (Below w.heap.size w w41):=⟨h5_⟩
  clear HB
  clear h0_ h1_ h2_ h3_ h4_ h5_
  have HO145:=n0_
  have HO148:=n1_
  have BK149:=n2_
  have GW149:=n3_
  have GE149:=n4_
  have HB:=n5_
  clear n0_ n1_ n2_ n3_ n4_ n5_
  have hHeld:=trivial
  obtain ⟨Ao42,co42,eo42⟩:=Kd.R_slice HO148.out
  (first|subst eo42|(injection eo42 with f1_ f2_ f3_;have f4_:=f1_.symm;have f5_:=f3_.symm;clear f1_ f2_ f3_;subst f4_;subst f5_))
  obtain ⟨Ao43,co43,eo43⟩:=Kd.R_slice HO145.out
  (first|subst eo43|(injection eo43 with f1_ f2_ f3_;have f4_:=f1_.symm;have f5_:=f3_.symm;clear f1_ f2_ f3_;subst f4_;subst f5_))
  refine norm_ (a':=?_) ?_ ?_
  rotate_left
  ·simp only [putAll,Act.put,List.setIfInBounds_toArray,List.set_cons_zero,List.set_cons_succ]
   rfl
  refine oI 4 (none) (fun K hK => ?_)
  have hs44 : w41.cell? ⟨gb149,0,none⟩ = some (.int .i64 0):=(blk_cell BK149.out 0).trans rfl
  have hfs44:=blk_frozen BK149.out 0
  have hs45 : w41.cell? ⟨gb149,1,none⟩ = some (.int .i64 0):=(blk_cell BK149.out 1).trans rfl
  have hfs45:=blk_frozen BK149.out 1
  have hs46 : w41.cell? ⟨gb149,2,none⟩ = some (.slice none 0 0):=(blk_cell BK149.out 2).trans rfl
  have hfs46:=blk_frozen BK149.out 2
  have hs47 : w41.cell? ⟨gb149,3,none⟩ = some (.slice none 0 0):=(blk_cell BK149.out 3).trans rfl
  have hfs47:=blk_frozen BK149.out 3
  refine skip_ (w1:=?_) (by rfl) rfl ?_ ?_
  rotate_left
  ·go_simp
   rfl
  refine hK.out _ _ trivial (fun hHeld => ?_)
  clear hK K
  refine done_ (by kernel_rfl) ?_
  have n0_ : Aside0 (Kd.R (Kd.int .i64) 3 ((((w41.setCell ⟨gb149,0,none⟩ (.int .i64 4)).setCell ⟨gb149,1,none⟩ (.int .i64 4)).setCell ⟨gb149,2,none⟩ (.slice Ao43 y143.length co43)).setCell ⟨gb149,3,none⟩ (.slice Ao42 y146.length co42)) w.heap.size (fun k_ => some k_ ≠ (.slice Ao42 y146.length co42 : Value).ownBlock) (.slice Ao43 y143.length co43) y143):=⟨by (with_reducible repeat (first|apply Kd.R_alloc|apply Kd.R_drewN|apply Kd.R_drew));exact Kd.R_mono (Kd.R_fars gb149 (Kd.R_types HO145.out BK149.out (by decide)) (fun _ hk => hk.2)) (fun _ hk => hk.1)⟩
  have n1_ : Aside0 (Kd.R (Kd.int .i64) 3 ((((w41.setCell ⟨gb149,0,none⟩ (.int .i64 4)).setCell ⟨gb149,1,none⟩ (.int .i64 4)).setCell ⟨gb149,2,none⟩ (.slice Ao43 y143.length co43)).setCell ⟨gb149,3,none⟩ (.slice Ao42 y146.length co42)) w.heap.size (fun k_ => some k_ ≠ (.slice Ao43 y143.length co43 : Value).ownBlock) (.slice Ao42 y146.length co42) y146):=⟨by (with_reducible repeat (first|apply Kd.R_alloc|apply Kd.R_drewN|apply Kd.R_drew));exact Kd.R_mono (Kd.R_fars gb149 (Kd.R_types HO148.out BK149.out (by decide)) (fun _ hk => hk.2)) (fun _ hk => hk.1)⟩
  have n2_ : Aside0 (((((w41.setCell ⟨gb149,0,none⟩ (.int .i64 4)).setCell ⟨gb149,1,none⟩ (.int .i64 4)).setCell ⟨gb149,2,none⟩ (.slice Ao43 y143.length co43)).setCell ⟨gb149,3,none⟩ (.slice Ao42 y146.length co42)).heap[gb149]? = some (.cells #[.int .i64 4,.int .i64 4,.slice Ao43 y143.length co43,.slice Ao42 y146.length co42] 24 (0,0))):=⟨by (with_reducible repeat (first|refine blk_drewN ?_ _|refine blk_drew ?_|refine blk_alloc ?_ _));exact blk_puts4 (blk_up BK149.out)⟩
  have n3_ : Aside0 (Below w.heap.size w ((((w41.setCell ⟨gb149,0,none⟩ (.int .i64 4)).setCell ⟨gb149,1,none⟩ (.int .i64 4)).setCell ⟨gb149,2,none⟩ (.slice Ao43 y143.length co43)).setCell ⟨gb149,3,none⟩ (.slice Ao42 y146.length co42))):=⟨hb_⟩
  (try clear HO145)
  (try clear HO148)
  (try clear BK149)
  (try clear HB)
  generalize ((((w41.setCell ⟨gb149,0,none⟩ (.int .i64 4)).setCell ⟨gb149,1,none⟩ (.int .i64 4)).setCell ⟨gb149,2,none⟩ (.slice Ao43 y143.length co43)).setCell ⟨gb149,3,none⟩ (.slice Ao42 y146.length co42)) = w48 at n0_ n1_ n2_ n3_ ⊢
  have HO145:=n0_
  have HO148:=n1_
  have BK149:=n2_
  have HB:=n3_
  clear n0_ n1_ n2_ n3_
  obtain ⟨hcz49_0,hcz49_1,hcz49_2,hcz49_3,hfz49_0,hfz49_1,hfz49_2,hfz49_3⟩:=cells4 BK149.out
  have p3 : 0 ≤ (0 : Int):=(by omega)
  have q3 : (0 : Int) < ((y143.length : Int) : Int):=of_decide_eq_true (by first|(with_reducible assumption)|assumption)
  have qi3 : (0 < y143.length) = True:=eq_true (by omega)
  obtain ⟨go3,co3,eo3,gb3,gl3,cl3,HG3⟩:=Kd.R_form HO145.out (by omega)
  (first|cases eo3|(injection eo3 with ea_ en_ ec_;(first|subst ea_|(injection ea_ with ea_;subst ea_));subst ec_;clear en_))
  have GB3:=Aside0.mk gb3
  have GG3:=Aside0.mk HG3
  clear gb3 gl3 HG3
  obtain ⟨hx3_0,hf3_0⟩:=Kd.R_celln 0 HO145.out (0 : Int) p3 q3
  (try rw [show ((0 : Int)).toNat = 0 from rfl] at hx3_0)
  (try simp only [Nat.reduceMul,Nat.zero_mul,Nat.zero_add,Nat.reduceAdd] at hx3_0)
  (try rw [show ((0 : Int)).toNat = 0 from rfl] at hf3_0)
  (try simp only [Nat.reduceMul,Nat.zero_mul,Nat.zero_add,Nat.reduceAdd] at hf3_0)
  replace p3:=eq_true p3
  replace q3:=eq_true q3
  obtain ⟨hy50_,hz50_⟩:=Kd.R_celln 0 HO145.out (0 : Int) (by omega) (of_decide_eq_true (by first|(with_reducible assumption)|assumption))
  (try simp only [Int.reduceToNat,Int.toNat_zero,Int.toNat_ofNat,Nat.reduceMul,Nat.zero_mul,Nat.zero_add] at hy50_ hz50_)
  (try rw [show ((0 : Int)).toNat = 0 from rfl] at hy50_)
  (try rw [show ((0 : Int)).toNat = 0 from rfl] at hz50_)
  have HP50:=Kd.R_putg HO145.out (0 : Int) 1
  try go_wp2_with (first|((with_reducible refine gate_store (t:=3) (p:=10) rfl ?_);refine store_event (t:=3) (p:=10) (v:=?vo_w51) (w1:=(w48.setCell ⟨go3,(0 : Int).toNat,none⟩ (.int .i64 1))) ?hg ?ho ?hn ?hr ?_;(case ho => rfl);(case hg => rfl);(case hn => rfl);(case hr => first|(go_simp;done)|(go_simp;rfl));intro w51 hw;have hg : w48.grownBy w51 (some go3):=(by rw [hw];exact HP50.2);have hp_ : Kd.R (Kd.int .i64) 3 w51 w.heap.size (fun k_ => some k_ ≠ (.slice Ao42 y146.length co42 : Value).ownBlock) (.slice (some ⟨go3,0,none⟩) y143.length co43) y150:=(by rw [hw,Ny150.out];exact HP50.1);clear HP50;replace HO148:=Aside0.mk (Kd.R_after (v:=(.slice (some ⟨go3,0,none⟩) y143.length co43)) (v1:=(.slice (some ⟨go3,0,none⟩) y143.length co43)) (ok:=(fun _ => True)) (by (with_reducible repeat (first|apply Kd.R_alloc|apply Kd.R_drewN|apply Kd.R_drew));exact Kd.R_mono HO148.out (fun _ hk => ⟨trivial,hk⟩)) hg (.inl rfl));replace BK149:=Aside0.mk (blk_grown (blk_up BK149.out) hg (Kd.R_ne HO145.out BK149.out (by decide)));replace HO145:=Aside0.mk (hp_);replace HB:=Aside0.mk ((by rw [hw];exact below_set (HB.out) GB3.out : Below w.heap.size w w51));clear hg hw hp_;obtain ⟨hcz52_0,hcz52_1,hcz52_2,hcz52_3,hfz52_0,hfz52_1,hfz52_2,hfz52_3⟩:=cells4 BK149.out;have p5 : 0 ≤ (1 : Int):=(by omega);have q5 : (1 : Int) < ((y143.length : Int) : Int):=of_decide_eq_true (by first|(with_reducible assumption)|assumption);have qi5 : (1 < y143.length) = True:=eq_true (by omega);obtain ⟨hx5_0,hf5_0⟩:=Kd.R_celln 0 HO145.out (1 : Int) p5 q5;(try rw [show ((1 : Int)).toNat = 1 from rfl] at hx5_0);(try simp only [Nat.reduceMul,Nat.zero_mul,Nat.zero_add,Nat.reduceAdd] at hx5_0);(try rw [show ((1 : Int)).toNat = 1 from rfl] at hf5_0);(try simp only [Nat.reduceMul,Nat.zero_mul,Nat.zero_add,Nat.reduceAdd] at hf5_0);replace p5:=eq_true p5;replace q5:=eq_true q5;obtain ⟨hy53_,hz53_⟩:=Kd.R_celln 0 HO145.out (1 : Int) (by omega) (of_decide_eq_true (by first|(with_reducible assumption)|assumption));(try simp only [Int.reduceToNat,Int.toNat_zero,Int.toNat_ofNat,Nat.reduceMul,Nat.zero_mul,Nat.zero_add] at hy53_ hz53_);(try rw [show ((1 : Int)).toNat = 1 from rfl] at hy53_);(try rw [show ((1 : Int)).toNat = 1 from rfl] at hz53_);have HP53:=Kd.R_putg HO145.out (1 : Int) 4)|((with_reducible refine gate_store (t:=3) (p:=13) rfl ?_);refine store_event (t:=3) (p:=13) (v:=?vo_w54) (w1:=(w51.setCell ⟨go3,(1 : Int).toNat,none⟩ (.int .i64 4))) ?hg ?ho ?hn ?hr ?_;(case ho => rfl);(case hg => rfl);(case hn => rfl);(case hr => first|(go_simp;done)|(go_simp;rfl));intro w54 hw;have hg : w51.grownBy w54 (some go3):=(by rw [hw];exact HP53.2);have hp_ : Kd.R (Kd.int .i64) 3 w54 w.heap.size (fun k_ => some k_ ≠ (.slice Ao42 y146.length co42 : Value).ownBlock) (.slice (some ⟨go3,0,none⟩) y143.length co43) y151:=(by rw [hw,Ny151.out];exact HP53.1);clear HP53;replace HO148:=Aside0.mk (Kd.R_after (v:=(.slice (some ⟨go3,0,none⟩) y143.length co43)) (v1:=(.slice (some ⟨go3,0,none⟩) y143.length co43)) (ok:=(fun _ => True)) (Kd.R_up HO148.out) hg (.inl rfl));replace BK149:=Aside0.mk (blk_grown (blk_up BK149.out) hg (Kd.R_ne HO145.out BK149.out (by decide)));replace HO145:=Aside0.mk (hp_);replace HB:=Aside0.mk ((by rw [hw];exact below_set (HB.out) GB3.out : Below w.heap.size w w54));clear hg hw hp_;obtain ⟨hcz55_0,hcz55_1,hcz55_2,hcz55_3,hfz55_0,hfz55_1,hfz55_2,hfz55_3⟩:=cells4 BK149.out)|((with_reducible refine gate_callee (f:=15) rfl ?_);refine goesL_ (some 16) rfl rfl Try.func15 (by kernel_rfl) rfl #[.agg #[.int .i64 4,.int .i64 4,.slice (some ⟨go3,0,none⟩) y151.length co43,.slice Ao42 y146.length co42],.int .i64 1,.int .i64 (-1),.int .i64 0] rfl (by (try simp only [List.map_toArray,List.map_cons,List.map_nil]);first|done|(rw [show y151.length = y143.length from (Kd.R_reads' HO145.out).1.symm] <;> rfl)|rfl|(simp only [List.length_drop,List.length_take];rfl)) ?_;(with_reducible refine (lane_Choose.calls k 4 4 _ _ y151 _ _ y146 1 (-1) 0 t152 false t154 _ ?side1 ?side2 ?side3 ?side4 A6.out).mono ?_);(case side1 => exact Kd.C_up (Kd.R_reads' HO145.out).2.2);(case side2 => rw [show y151.length = y143.length from (Kd.R_reads' HO145.out).1.symm];exact (Kd.R_reads' HO145.out).2.1);(case side3 => exact Kd.C_up (Kd.R_reads' HO148.out).2.2);(case side4 => exact (Kd.R_reads' HO148.out).2.1);rintro e w56 ⟨rfl,hb⟩;refine ⟨_,rfl,?_⟩;replace HO145:=rbw HO145 hb;replace HO148:=rbw HO148 hb;replace BK149:=bkb BK149 hb;replace HB:=Aside0.mk (below_step (hb_) hb)))
  go_ret
  exact ⟨by first|rfl|(simp [errW_none,errW_some] <;> rfl)|(simp [*,errW_none,errW_some] <;> rfl),hb_⟩

end Go.Proofs.Ythjmdpekcleihaa.P
