/- Functions of this seat as plain Lean functions, with proofs that the Go code comes to just their answers, or what stands between them and a law's statement; no conditions. (Laid by a program of this session, out of the kit's print.) -/
import Derived.Test.YthjmdpekcleihaaPx0
import Derived.Test.YthjmdpekcleihaaPx6
namespace Go.Proofs.Ythjmdpekcleihaa.P
open Go.RowKit Go.Proofs.YthjmdpekcleihaaW.PrintWords Go.Proofs.YthjmdpekcleihaaW.PrintLast Go.Proofs.YthjmdpekcleihaaW.PrintMore
attribute [local go_sem] max2_int min2_int max_two min_two max_three min_three max_four min_four   -- for this text's walks alone
set_option linter.unusedVariables false
set_option linter.unusedSimpArgs false

/-! ### hinterlandlaw17_known: function 13 -/
def hinterlandlaw17_known.j0 : Nat → Bool → Option (Bool)
 | 0,_ => none
 | k + 1,x0 => some x0
def hinterlandlaw17_known.f (k : Nat)  : Option (Bool) := if 16 ≤ 35184372088832 then ((some (List.replicate 16 0 : List Int)).bind fun y143 => (if 0 < (y143.length : Int) then (if 1 < (y143.length : Int) then ((lane_Choose.f k 4 4 ((y143.set (0 : Int).toNat 1).set (1 : Int).toNat 4) (List.replicate 16 0) 1 (-1) 0).bind fun bt152 => (if bt152.1 = 2 then (if bt152.2.1 = true then (hinterlandlaw17_known.j0 k (bt152.2.2 == 0)) else (hinterlandlaw17_known.j0 k false)) else (hinterlandlaw17_known.j0 k false))) else (none)) else (none))) else (none)
theorem hinterlandlaw17_known.mono_l : ∀ k, (∀ y0, LeO (hinterlandlaw17_known.j0 k y0) (hinterlandlaw17_known.j0 (k + 1) y0))
 | 0 => fun _ r h => by simp [hinterlandlaw17_known.j0] at h
 | k + 1 => by
  have ih0:=hinterlandlaw17_known.mono_l k
  ·intro y0
   unfold hinterlandlaw17_known.j0
   repeat' first
   | (with_reducible exact ih0 _)
   | (with_reducible exact lane_Choose.mono _ _ _ _ _ _ _ _)
   | (with_reducible exact LeO.refl _)
   | (with_reducible exact LeO.none _)
   | (with_reducible refine LeO.ite ?_ ?_)
   | (with_reducible refine LeO.bind ?_ (fun _ => ?_))
   | exact ih0 _
   | exact lane_Choose.mono _ _ _ _ _ _ _ _
   | exact LeO.none _
   | refine LeO.ite ?_ ?_
   | refine LeO.bind ?_ (fun _ => ?_)
theorem hinterlandlaw17_known.mono : ∀ k, LeO (hinterlandlaw17_known.f k ) (hinterlandlaw17_known.f (k + 1) ) := by
 intro  k
 have ih0:=hinterlandlaw17_known.mono_l k
 unfold hinterlandlaw17_known.f
 repeat' first
   | (with_reducible exact ih0 _)
   | (with_reducible exact lane_Choose.mono _ _ _ _ _ _ _ _)
   | (with_reducible exact LeO.refl _)
   | (with_reducible exact LeO.none _)
   | (with_reducible refine LeO.ite ?_ ?_)
   | (with_reducible refine LeO.bind ?_ (fun _ => ?_))
   | exact ih0 _
   | exact lane_Choose.mono _ _ _ _ _ _ _ _
   | exact LeO.none _
   | refine LeO.ite ?_ ?_
   | refine LeO.bind ?_ (fun _ => ?_)
set_option maxHeartbeats 8000000 in
set_option maxRecDepth 100000 in
theorem hinterlandlaw17_known.calls (k : Nat)  (r : Bool) (w : World) (h : hinterlandlaw17_known.f k  = some r) :
  Calls Try.prog 13 #[] w fun e w' => e = .returned (.bool r) ∧ Below w.heap.size w w':=by
 have hu24:=Try.underlying24
 have HB:=Aside0.mk (Below.refl w.heap.size w)
 have H : (if 16 ≤ 35184372088832 then ((some (List.replicate 16 0 : List Int)).bind fun y143 => (if 0 < (y143.length : Int) then (if 1 < (y143.length : Int) then ((lane_Choose.f k 4 4 ((y143.set (0 : Int).toNat 1).set (1 : Int).toNat 4) (List.replicate 16 0) 1 (-1) 0).bind fun bt152 => (if bt152.1 = 2 then (if bt152.2.1 = true then (hinterlandlaw17_known.j0 k (bt152.2.2 == 0)) else (hinterlandlaw17_known.j0 k false)) else (hinterlandlaw17_known.j0 k false))) else (none)) else (none))) else (none)) = some r:=h
 clear h
 replace H:=ifp_ H;obtain ⟨c1,H⟩:=H
 have c1b0:=eq_true c1
 have c1b1 : decide (16 ≤ 35184372088832) = true:=decide_eq_true c1
 clear c1
 obtain ⟨y143,hy143⟩ : ∃ y_ : List Int,y_ = (List.replicate 16 0):=⟨_,rfl⟩
 replace H : (if 0 < (y143.length : Int) then (if 1 < (y143.length : Int) then ((lane_Choose.f k 4 4 ((y143.set (0 : Int).toNat 1).set (1 : Int).toNat 4) (List.replicate 16 0) 1 (-1) 0).bind fun bt152 => (if bt152.1 = 2 then (if bt152.2.1 = true then (hinterlandlaw17_known.j0 k (bt152.2.2 == 0)) else (hinterlandlaw17_known.j0 k false)) else (hinterlandlaw17_known.j0 k false))) else (none)) else (none)) = some r:=by first|(rw [hy143];with_reducible exact H)|(have H2_:=(Option.bind_some _ _).symm.trans H;rw [hy143];with_reducible exact H2_)|(have H2_:=(Option.bind_some _ _).symm.trans H;with_reducible exact H2_)|with_reducible exact H|(rw [hy143];exact H)|exact H
 have Ny143:=Aside0.mk hy143
 clear hy143
 obtain ⟨y146,hy146⟩ : ∃ y_ : List Int,y_ = (List.replicate 16 0):=⟨_,rfl⟩
 replace H : (if 0 < (y143.length : Int) then (if 1 < (y143.length : Int) then ((lane_Choose.f k 4 4 ((y143.set (0 : Int).toNat 1).set (1 : Int).toNat 4) y146 1 (-1) 0).bind fun bt152 => (if bt152.1 = 2 then (if bt152.2.1 = true then (hinterlandlaw17_known.j0 k (bt152.2.2 == 0)) else (hinterlandlaw17_known.j0 k false)) else (hinterlandlaw17_known.j0 k false))) else (none)) else (none)) = some r:=by first|(rw [hy146];with_reducible exact H)|(have H2_:=(Option.bind_some _ _).symm.trans H;rw [hy146];with_reducible exact H2_)|(have H2_:=(Option.bind_some _ _).symm.trans H;with_reducible exact H2_)|with_reducible exact H|(rw [hy146];exact H)|exact H
 have Ny146:=Aside0.mk hy146
 clear hy146
 replace H:=ifp_ H;obtain ⟨c2,H⟩:=H
 have c2b0 : decide (0 < (y143.length : Int)) = true:=decide_eq_true c2
 have c2b1 : decide (0 < y143.length) = true:=decide_eq_true (by omega)
 clear c2
 obtain ⟨y150,hy150⟩ : ∃ y_ : List Int,y_ = (y143.set (0 : Int).toNat 1):=⟨_,rfl⟩
 replace H : (if 1 < (y143.length : Int) then ((lane_Choose.f k 4 4 (y150.set (1 : Int).toNat 4) y146 1 (-1) 0).bind fun bt152 => (if bt152.1 = 2 then (if bt152.2.1 = true then (hinterlandlaw17_known.j0 k (bt152.2.2 == 0)) else (hinterlandlaw17_known.j0 k false)) else (hinterlandlaw17_known.j0 k false))) else (none)) = some r:=by first|(rw [hy150];with_reducible exact H)|(have H2_:=(Option.bind_some _ _).symm.trans H;rw [hy150];with_reducible exact H2_)|(have H2_:=(Option.bind_some _ _).symm.trans H;with_reducible exact H2_)|with_reducible exact H|(rw [hy150];exact H)|exact H
 have Ny150:=Aside0.mk hy150
 clear hy150
 replace H:=ifp_ H;obtain ⟨c4,H⟩:=H
 have c4b0 : decide (1 < (y143.length : Int)) = true:=decide_eq_true c4
 have c4b1 : decide (1 < y143.length) = true:=decide_eq_true (by omega)
 clear c4
 obtain ⟨y151,hy151⟩ : ∃ y_ : List Int,y_ = (y150.set (1 : Int).toNat 4):=⟨_,rfl⟩
 replace H : ((lane_Choose.f k 4 4 y151 y146 1 (-1) 0).bind fun bt152 => (if bt152.1 = 2 then (if bt152.2.1 = true then (hinterlandlaw17_known.j0 k (bt152.2.2 == 0)) else (hinterlandlaw17_known.j0 k false)) else (hinterlandlaw17_known.j0 k false))) = some r:=by first|(rw [hy151];with_reducible exact H)|(have H2_:=(Option.bind_some _ _).symm.trans H;rw [hy151];with_reducible exact H2_)|(have H2_:=(Option.bind_some _ _).symm.trans H;with_reducible exact H2_)|with_reducible exact H|(rw [hy151];exact H)|exact H
 have Ny151:=Aside0.mk hy151
 clear hy151
 replace H:=Option.bind_eq_some_iff.mp H
 obtain ⟨⟨t152,t153,t154⟩,A60,H⟩:=H
 replace H : (if t152 = 2 then (if t153 = true then (hinterlandlaw17_known.j0 k (t154 == 0)) else (hinterlandlaw17_known.j0 k false)) else (hinterlandlaw17_known.j0 k false)) = some r:=H
 have A6:=Aside0.mk A60
 clear A60
 have HC7:=Aside0.mk H
 clear H
 go_enter Try.func13,Try.ntmps13
 try go_wp2
 replace HB:=Aside0.mk (below_drew1 HB.out)
 refine start_ (n:=5) (S:=fun w' => True) (ds:=[]) #[false,false,false,false,false] (by kernel_rfl) rfl rfl trivial (fun hHeld => ?_)
 generalize w.drew = w8 at HB hHeld ⊢
 refine join_ (σ:=Value × Value × Nat) 1 #[true,true,true,true,false] (fun s_ => [(5,s_.1),(6,s_.2.1),(1,.pointer (some ⟨s_.2.2,0,none⟩)),(7,.agg #[.int .i64 4,.int .i64 4,s_.1,s_.2.1])]) (fun s_ w' => (Kd.R (Kd.int .i64) 3 w' w.heap.size (fun k_ => some k_ ≠ (s_.2.1 : Value).ownBlock) s_.1 y143) ∧ (Kd.R (Kd.int .i64) 3 w' w.heap.size (fun k_ => some k_ ≠ (s_.1 : Value).ownBlock) s_.2.1 y146) ∧ (w'.heap[s_.2.2]? = some (.cells #[.int .i64 0,.int .i64 0,.slice none 0 0,.slice none 0 0] 24 (0,0))) ∧ (w.heap.size ≤ s_.2.2) ∧ (w.heap.size ≤ s_.2.2) ∧ (Below w.heap.size w w')) ?_ ?_
 rotate_left
 ·intro hJ0_1_3
  refine join_ (σ:=Value × Value) 2 #[true,true,true,false,false] (fun s_ => [(5,s_.1),(6,s_.2),(7,.agg #[.int .i64 4,.int .i64 4,s_.1,s_.2])]) (fun s_ w' => (Kd.R (Kd.int .i64) 3 w' w.heap.size (fun k_ => some k_ ≠ (s_.2 : Value).ownBlock) s_.1 y143) ∧ (Kd.R (Kd.int .i64) 3 w' w.heap.size (fun k_ => some k_ ≠ (s_.1 : Value).ownBlock) s_.2 y146) ∧ (Below w.heap.size w w')) ?_ ?_
  rotate_left
  ·intro hJ0_1
   refine join_ (σ:=Value × Nat) 3 #[true,false,false,true,false] (fun s_ => [(5,s_.1),(1,.pointer (some ⟨s_.2,0,none⟩))]) (fun s_ w' => (Kd.R (Kd.int .i64) 3 w' w.heap.size (fun _ => True) s_.1 y143) ∧ (w'.heap[s_.2]? = some (.cells #[.int .i64 0,.int .i64 0,.slice none 0 0,.slice none 0 0] 24 (0,0))) ∧ (w.heap.size ≤ s_.2) ∧ (w.heap.size ≤ s_.2) ∧ (Below w.heap.size w w')) ?_ ?_
   rotate_left
   ·intro hJ0_3
    refine join_ (σ:=Value × Nat) 3 #[false,true,false,true,false] (fun s_ => [(6,s_.1),(1,.pointer (some ⟨s_.2,0,none⟩))]) (fun s_ w' => (Kd.R (Kd.int .i64) 3 w' w.heap.size (fun _ => True) s_.1 y146) ∧ (w'.heap[s_.2]? = some (.cells #[.int .i64 0,.int .i64 0,.slice none 0 0,.slice none 0 0] 24 (0,0))) ∧ (w.heap.size ≤ s_.2) ∧ (w.heap.size ≤ s_.2) ∧ (Below w.heap.size w w')) ?_ ?_
    rotate_left
    ·intro hJ1_3
     refine join_ (σ:=Value) 4 #[true,false,false,false,false] (fun s_ => [(5,s_)]) (fun s_ w' => (Kd.R (Kd.int .i64) 3 w' w.heap.size (fun _ => True) s_ y143) ∧ (Below w.heap.size w w')) ?_ ?_
     rotate_left
     ·intro hJ0
      refine join_ (σ:=Value) 4 #[false,true,false,false,false] (fun s_ => [(6,s_)]) (fun s_ w' => (Kd.R (Kd.int .i64) 3 w' w.heap.size (fun _ => True) s_ y146) ∧ (Below w.heap.size w w')) ?_ ?_
      rotate_left
      ·intro hJ1
       refine join_ (σ:=Nat) 4 #[false,false,false,true,false] (fun s_ => [(1,.pointer (some ⟨s_,0,none⟩))]) (fun s_ w' => (w'.heap[s_]? = some (.cells #[.int .i64 0,.int .i64 0,.slice none 0 0,.slice none 0 0] 24 (0,0))) ∧ (w.heap.size ≤ s_) ∧ (w.heap.size ≤ s_) ∧ (Below w.heap.size w w')) ?_ ?_
       rotate_left
       ·intro hJ3
        refine three_ (i:=0) (j:=1) (k:=3) (Ni:=some 5) (Nj:=some 6) (Nk:=some 1) #[true,false,false,false,false] #[false,true,false,false,false] #[false,false,false,true,false] rfl rfl rfl rfl rfl rfl (by kernel_rfl) (by decide) (by decide) (by decide) (fun K hK => ?_) (fun K hK => ?_) (fun K hK => ?_)
        ·skip
         refine Kd.R_make_step (Kd.int .i64) _ 3 (by rfl) (N:=5) rfl 22 _ _ rfl 16 rfl rfl Try.underlying22 (.int .i64 0) 8 info3 rfl (by decide) (by omega) 0 (ok:=fun _ => True) (okp:=fun _ => True) rfl (fun _ hk => hk) trivial (by omega) (by omega) (Below.refl _ _) (Nat.le_refl _) ?_
         intro v144 w9 ho10 hb hg_ hnew_
         clear hg_ hnew_
         (first|rw [← Ny143.out] at ho10|(simp only [Int.reduceToNat] at ho10;rw [← Ny143.out] at ho10))
         have n0_:=rlo ho10
         have n1_:=Aside0.mk (below_step (hb_) hb)
         clear HB
         have HO145:=n0_
         have HB:=n1_
         clear n0_ n1_
         clear hb ho10
         refine hK.out _ _ trivial (fun hHeld => ?_)
         clear hK K
         refine norm_ (a':=?_) ?_ ?_
         rotate_left
         ·show Act.put _ (some 5) _ = _
          simp only [Act.put,List.setIfInBounds_toArray,List.set_cons_zero,List.set_cons_succ,i64_w,i32_w]
          rfl
         exact norm_ (by first|(simp only [putAll,Act.put,List.setIfInBounds_toArray,List.set_cons_zero,List.set_cons_succ];done)|(simp only [putAll,Act.put,List.setIfInBounds_toArray,List.set_cons_zero,List.set_cons_succ];rfl)) (hJ0 (v144) _ ⟨(Kd.R_up HO145.out),(hb_)⟩)
        ·skip
         refine Kd.R_make_step (Kd.int .i64) _ 3 (by rfl) (N:=6) rfl 22 _ _ rfl 16 rfl rfl Try.underlying22 (.int .i64 0) 8 info3 rfl (by decide) (by omega) 0 (ok:=fun _ => True) (okp:=fun _ => True) rfl (fun _ hk => hk) trivial (by omega) (by omega) (Below.refl _ _) (Nat.le_refl _) ?_
         intro v147 w9 ho10 hb hg_ hnew_
         clear hg_ hnew_
         (first|rw [← Ny146.out] at ho10|(simp only [Int.reduceToNat] at ho10;rw [← Ny146.out] at ho10))
         have n0_:=rlo ho10
         have n1_:=Aside0.mk (below_step (hb_) hb)
         clear HB
         have HO148:=n0_
         have HB:=n1_
         clear n0_ n1_
         clear hb ho10
         refine hK.out _ _ trivial (fun hHeld => ?_)
         clear hK K
         refine norm_ (a':=?_) ?_ ?_
         rotate_left
         ·show Act.put _ (some 6) _ = _
          simp only [Act.put,List.setIfInBounds_toArray,List.set_cons_zero,List.set_cons_succ,i64_w,i32_w]
          rfl
         exact norm_ (by first|(simp only [putAll,Act.put,List.setIfInBounds_toArray,List.set_cons_zero,List.set_cons_succ];done)|(simp only [putAll,Act.put,List.setIfInBounds_toArray,List.set_cons_zero,List.set_cons_succ];rfl)) (hJ1 (v147) _ ⟨(Kd.R_up HO148.out),(hb_)⟩)
        ·skip
         refine box_step ?hg (N:=1) ?hd (cs:=#[.int .i64 0,.int .i64 0,.slice none 0 0,.slice none 0 0]) (t:=24) ?hr ?_;(case hd => rfl);(case hg => rfl);(case hr => first|(go_simp;done)|(go_simp;rfl))
         intro gb149 hg w9 hbox hb
         have n0_:=Aside0.mk (below_step (hb_) hb)
         have n1_:=Aside0.mk (hbox)
         have n2_:=Aside0.mk ((by rw [hg];exact (below_size (hb_)) : w.heap.size ≤ gb149))
         have n3_:=Aside0.mk ((by rw [hg];exact (below_size (hb_)) : w.heap.size ≤ gb149))
         clear HB
         have HB:=n0_
         have BK149:=n1_
         have GW149:=n2_
         have GE149:=n3_
         clear n0_ n1_ n2_ n3_
         clear hb hbox hg
         refine hK.out _ _ trivial (fun hHeld => ?_)
         clear hK K
         refine norm_ (a':=?_) ?_ ?_
         rotate_left
         ·show Act.put _ (some 1) _ = _
          simp only [Act.put,List.setIfInBounds_toArray,List.set_cons_zero,List.set_cons_succ,i64_w,i32_w]
          rfl
         exact norm_ (by first|(simp only [putAll,Act.put,List.setIfInBounds_toArray,List.set_cons_zero,List.set_cons_succ];done)|(simp only [putAll,Act.put,List.setIfInBounds_toArray,List.set_cons_zero,List.set_cons_succ];rfl)) (hJ3 (gb149) _ ⟨(blk_up BK149.out),GW149.out,GE149.out,(hb_)⟩)
       ·skip
        rintro gb149 w10 ⟨h0_,h1_,h2_,h3_⟩
        have n0_ : Aside0 (w10.heap[gb149]? = some (.cells #[.int .i64 0,.int .i64 0,.slice none 0 0,.slice none 0 0] 24 (0,0))):=⟨h0_⟩
        have n1_ : Aside0 (w.heap.size ≤ gb149):=⟨h1_⟩
        have n2_ : Aside0 (w.heap.size ≤ gb149):=⟨h2_⟩
        have n3_ : Aside0 (Below w.heap.size w w10):=⟨h3_⟩
        clear HB
        clear h0_ h1_ h2_ h3_
        have BK149:=n0_
        have GW149:=n1_
        have GE149:=n2_
        have HB:=n3_
        clear n0_ n1_ n2_ n3_
        have hHeld:=trivial
        refine norm_ (a':=?_) ?_ ?_
        rotate_left
        ·simp only [putAll,Act.put,List.setIfInBounds_toArray,List.set_cons_zero,List.set_cons_succ]
         rfl
        refine two_ (i:=0) (j:=1) (Ni:=some 5) (Nj:=some 6) #[true,false,false,true,false] #[false,true,false,true,false] rfl rfl rfl rfl (by kernel_rfl) (by decide) (by decide) (fun K hK => ?_) (fun K hK => ?_)
        ·skip
         refine Kd.R_make_step (Kd.int .i64) _ 3 (by rfl) (N:=5) rfl 22 _ _ rfl 16 rfl rfl Try.underlying22 (.int .i64 0) 8 info3 rfl (by decide) (by omega) 0 (ok:=fun _ => True) (okp:=fun _ => True) rfl (fun _ hk => hk) trivial (by omega) (by omega) (Below.refl _ _) (Nat.le_refl _) ?_
         intro v144 w11 ho12 hb hg_ hnew_
         clear hg_ hnew_
         (first|rw [← Ny143.out] at ho12|(simp only [Int.reduceToNat] at ho12;rw [← Ny143.out] at ho12))
         have n0_:=rlo ho12
         have n1_:=bkb BK149 hb
         have n2_:=Aside0.mk (below_step (hb_) hb)
         clear BK149
         clear HB
         have HO145:=n0_
         have BK149:=n1_
         have HB:=n2_
         clear n0_ n1_ n2_
         clear hb ho12
         refine hK.out _ _ trivial (fun hHeld => ?_)
         clear hK K
         refine norm_ (a':=?_) ?_ ?_
         rotate_left
         ·show Act.put _ (some 5) _ = _
          simp only [Act.put,List.setIfInBounds_toArray,List.set_cons_zero,List.set_cons_succ,i64_w,i32_w]
          rfl
         exact norm_ (by first|(simp only [putAll,Act.put,List.setIfInBounds_toArray,List.set_cons_zero,List.set_cons_succ];done)|(simp only [putAll,Act.put,List.setIfInBounds_toArray,List.set_cons_zero,List.set_cons_succ];rfl)) (hJ0_3 (v144,gb149) _ ⟨(Kd.R_up HO145.out),(blk_up BK149.out),GW149.out,GE149.out,(hb_)⟩)
        ·skip
         refine Kd.R_make_step (Kd.int .i64) _ 3 (by rfl) (N:=6) rfl 22 _ _ rfl 16 rfl rfl Try.underlying22 (.int .i64 0) 8 info3 rfl (by decide) (by omega) 0 (ok:=fun _ => True) (okp:=fun _ => True) rfl (fun _ hk => hk) trivial (by omega) (by omega) (Below.refl _ _) (Nat.le_refl _) ?_
         intro v147 w11 ho12 hb hg_ hnew_
         clear hg_ hnew_
         (first|rw [← Ny146.out] at ho12|(simp only [Int.reduceToNat] at ho12;rw [← Ny146.out] at ho12))
         have n0_:=rlo ho12
         have n1_:=bkb BK149 hb
         have n2_:=Aside0.mk (below_step (hb_) hb)
         clear BK149
         clear HB
         have HO148:=n0_
         have BK149:=n1_
         have HB:=n2_
         clear n0_ n1_ n2_
         clear hb ho12
         refine hK.out _ _ trivial (fun hHeld => ?_)
         clear hK K
         refine norm_ (a':=?_) ?_ ?_
         rotate_left
         ·show Act.put _ (some 6) _ = _
          simp only [Act.put,List.setIfInBounds_toArray,List.set_cons_zero,List.set_cons_succ,i64_w,i32_w]
          rfl
         exact norm_ (by first|(simp only [putAll,Act.put,List.setIfInBounds_toArray,List.set_cons_zero,List.set_cons_succ];done)|(simp only [putAll,Act.put,List.setIfInBounds_toArray,List.set_cons_zero,List.set_cons_succ];rfl)) (hJ1_3 (v147,gb149) _ ⟨(Kd.R_up HO148.out),(blk_up BK149.out),GW149.out,GE149.out,(hb_)⟩)
      ·skip
       rintro v147 w11 ⟨h0_,h1_⟩
       have n0_ : Aside0 (Kd.R (Kd.int .i64) 3 w11 w.heap.size (fun _ => True) v147 y146):=⟨h0_⟩
       have n1_ : Aside0 (Below w.heap.size w w11):=⟨h1_⟩
       clear HB
       clear h0_ h1_
       have HO148:=n0_
       have HB:=n1_
       clear n0_ n1_
       have hHeld:=trivial
       refine norm_ (a':=?_) ?_ ?_
       rotate_left
       ·simp only [putAll,Act.put,List.setIfInBounds_toArray,List.set_cons_zero,List.set_cons_succ]
        rfl
       refine two_ (i:=0) (j:=3) (Ni:=some 5) (Nj:=some 1) #[true,true,false,false,false] #[false,true,false,true,false] rfl rfl rfl rfl (by kernel_rfl) (by decide) (by decide) (fun K hK => ?_) (fun K hK => ?_)
       ·skip
        refine Kd.R_make_step (Kd.int .i64) _ 3 (by rfl) (N:=5) rfl 22 _ _ rfl 16 rfl rfl Try.underlying22 (.int .i64 0) 8 info3 rfl (by decide) (by omega) 0 (ok:=fun _ => True) (okp:=fun _ => True) rfl (fun _ hk => hk) trivial (by omega) (by omega) (Below.refl _ _) (Nat.le_refl _) ?_
        intro v144 w12 ho13 hb hg_ hnew_
        clear hg_ hnew_
        (first|rw [← Ny143.out] at ho13|(simp only [Int.reduceToNat] at ho13;rw [← Ny143.out] at ho13))
        have n0_:=Aside0.mk (Kd.R_elder' (Kd.R_up HO148.out) (Kd.R_base ho13) hb)
        have n1_:=Aside0.mk (Kd.R_lower (Kd.R_new' ho13 (Kd.R_lt (Kd.R_up HO148.out))) (below_size (hb_)))
        have n2_:=Aside0.mk (below_step (hb_) hb)
        clear HO148
        clear HB
        have HO148:=n0_
        have HO145:=n1_
        have HB:=n2_
        clear n0_ n1_ n2_
        clear hb ho13
        obtain ⟨Ao14,co14,eo14⟩:=Kd.R_slice HO148.out
        (first|subst eo14|(injection eo14 with f1_ f2_ f3_;have f4_:=f1_.symm;have f5_:=f3_.symm;clear f1_ f2_ f3_;subst f4_;subst f5_))
        obtain ⟨Ao15,co15,eo15⟩:=Kd.R_slice HO145.out
        (first|subst eo15|(injection eo15 with f1_ f2_ f3_;have f4_:=f1_.symm;have f5_:=f3_.symm;clear f1_ f2_ f3_;subst f4_;subst f5_))
        refine hK.out _ _ trivial (fun hHeld => ?_)
        clear hK K
        refine norm_ (a':=?_) ?_ ?_
        rotate_left
        ·show Act.put _ (some 5) _ = _
         simp only [Act.put,List.setIfInBounds_toArray,List.set_cons_zero,List.set_cons_succ,i64_w,i32_w]
         rfl
        refine pI 2 (some 7) ?_
        exact norm_ (by first|(simp only [putAll,Act.put,List.setIfInBounds_toArray,List.set_cons_zero,List.set_cons_succ];done)|(simp only [putAll,Act.put,List.setIfInBounds_toArray,List.set_cons_zero,List.set_cons_succ];rfl)) (hJ0_1 (.slice Ao15 y143.length co15,.slice Ao14 y146.length co14) _ ⟨(by (with_reducible repeat (first|apply Kd.R_alloc|apply Kd.R_drewN|apply Kd.R_drew));exact Kd.R_mono HO145.out (fun _ hk => hk.2)),(by (with_reducible repeat (first|apply Kd.R_alloc|apply Kd.R_drewN|apply Kd.R_drew));exact Kd.R_mono HO148.out (fun _ hk => hk.2)),(hb_)⟩)
       ·skip
        refine box_step ?hg (N:=1) ?hd (cs:=#[.int .i64 0,.int .i64 0,.slice none 0 0,.slice none 0 0]) (t:=24) ?hr ?_;(case hd => rfl);(case hg => rfl);(case hr => first|(go_simp;done)|(go_simp;rfl))
        intro gb149 hg w12 hbox hb
        have n0_:=rbw HO148 hb
        have n1_:=Aside0.mk (below_step (hb_) hb)
        have n2_:=Aside0.mk (hbox)
        have n3_:=Aside0.mk ((by rw [hg];exact (below_size (hb_)) : w.heap.size ≤ gb149))
        have n4_:=Aside0.mk ((by rw [hg];exact (below_size (hb_)) : w.heap.size ≤ gb149))
        clear HO148
        clear HB
        have HO148:=n0_
        have HB:=n1_
        have BK149:=n2_
        have GW149:=n3_
        have GE149:=n4_
        clear n0_ n1_ n2_ n3_ n4_
        clear hb hbox hg
        refine hK.out _ _ trivial (fun hHeld => ?_)
        clear hK K
        refine norm_ (a':=?_) ?_ ?_
        rotate_left
        ·show Act.put _ (some 1) _ = _
         simp only [Act.put,List.setIfInBounds_toArray,List.set_cons_zero,List.set_cons_succ,i64_w,i32_w]
         rfl
        exact norm_ (by first|(simp only [putAll,Act.put,List.setIfInBounds_toArray,List.set_cons_zero,List.set_cons_succ];done)|(simp only [putAll,Act.put,List.setIfInBounds_toArray,List.set_cons_zero,List.set_cons_succ];rfl)) (hJ1_3 (v147,gb149) _ ⟨(Kd.R_up HO148.out),(blk_up BK149.out),GW149.out,GE149.out,(hb_)⟩)
     ·skip
      rintro v144 w11 ⟨h0_,h1_⟩
      have n0_ : Aside0 (Kd.R (Kd.int .i64) 3 w11 w.heap.size (fun _ => True) v144 y143):=⟨h0_⟩
      have n1_ : Aside0 (Below w.heap.size w w11):=⟨h1_⟩
      clear HB
      clear h0_ h1_
      have HO145:=n0_
      have HB:=n1_
      clear n0_ n1_
      have hHeld:=trivial
      refine norm_ (a':=?_) ?_ ?_
      rotate_left
      ·simp only [putAll,Act.put,List.setIfInBounds_toArray,List.set_cons_zero,List.set_cons_succ]
       rfl
      refine two_ (i:=1) (j:=3) (Ni:=some 6) (Nj:=some 1) #[true,true,false,false,false] #[true,false,false,true,false] rfl rfl rfl rfl (by kernel_rfl) (by decide) (by decide) (fun K hK => ?_) (fun K hK => ?_)
      ·skip
       refine Kd.R_make_step (Kd.int .i64) _ 3 (by rfl) (N:=6) rfl 22 _ _ rfl 16 rfl rfl Try.underlying22 (.int .i64 0) 8 info3 rfl (by decide) (by omega) 0 (ok:=fun _ => True) (okp:=fun _ => True) rfl (fun _ hk => hk) trivial (by omega) (by omega) (Below.refl _ _) (Nat.le_refl _) ?_
       intro v147 w12 ho13 hb hg_ hnew_
       clear hg_ hnew_
       (first|rw [← Ny146.out] at ho13|(simp only [Int.reduceToNat] at ho13;rw [← Ny146.out] at ho13))
       have n0_:=Aside0.mk (Kd.R_elder' (Kd.R_up HO145.out) (Kd.R_base ho13) hb)
       have n1_:=Aside0.mk (Kd.R_lower (Kd.R_new' ho13 (Kd.R_lt (Kd.R_up HO145.out))) (below_size (hb_)))
       have n2_:=Aside0.mk (below_step (hb_) hb)
       clear HO145
       clear HB
       have HO145:=n0_
       have HO148:=n1_
       have HB:=n2_
       clear n0_ n1_ n2_
       clear hb ho13
       obtain ⟨Ao14,co14,eo14⟩:=Kd.R_slice HO148.out
       (first|subst eo14|(injection eo14 with f1_ f2_ f3_;have f4_:=f1_.symm;have f5_:=f3_.symm;clear f1_ f2_ f3_;subst f4_;subst f5_))
       obtain ⟨Ao15,co15,eo15⟩:=Kd.R_slice HO145.out
       (first|subst eo15|(injection eo15 with f1_ f2_ f3_;have f4_:=f1_.symm;have f5_:=f3_.symm;clear f1_ f2_ f3_;subst f4_;subst f5_))
       refine hK.out _ _ trivial (fun hHeld => ?_)
       clear hK K
       refine norm_ (a':=?_) ?_ ?_
       rotate_left
       ·show Act.put _ (some 6) _ = _
        simp only [Act.put,List.setIfInBounds_toArray,List.set_cons_zero,List.set_cons_succ,i64_w,i32_w]
        rfl
       refine pI 2 (some 7) ?_
       exact norm_ (by first|(simp only [putAll,Act.put,List.setIfInBounds_toArray,List.set_cons_zero,List.set_cons_succ];done)|(simp only [putAll,Act.put,List.setIfInBounds_toArray,List.set_cons_zero,List.set_cons_succ];rfl)) (hJ0_1 (.slice Ao15 y143.length co15,.slice Ao14 y146.length co14) _ ⟨(by (with_reducible repeat (first|apply Kd.R_alloc|apply Kd.R_drewN|apply Kd.R_drew));exact Kd.R_mono HO145.out (fun _ hk => hk.2)),(by (with_reducible repeat (first|apply Kd.R_alloc|apply Kd.R_drewN|apply Kd.R_drew));exact Kd.R_mono HO148.out (fun _ hk => hk.2)),(hb_)⟩)
      ·skip
       refine box_step ?hg (N:=1) ?hd (cs:=#[.int .i64 0,.int .i64 0,.slice none 0 0,.slice none 0 0]) (t:=24) ?hr ?_;(case hd => rfl);(case hg => rfl);(case hr => first|(go_simp;done)|(go_simp;rfl))
       intro gb149 hg w12 hbox hb
       have n0_:=rbw HO145 hb
       have n1_:=Aside0.mk (below_step (hb_) hb)
       have n2_:=Aside0.mk (hbox)
       have n3_:=Aside0.mk ((by rw [hg];exact (below_size (hb_)) : w.heap.size ≤ gb149))
       have n4_:=Aside0.mk ((by rw [hg];exact (below_size (hb_)) : w.heap.size ≤ gb149))
       clear HO145
       clear HB
       have HO145:=n0_
       have HB:=n1_
       have BK149:=n2_
       have GW149:=n3_
       have GE149:=n4_
       clear n0_ n1_ n2_ n3_ n4_
       clear hb hbox hg
       refine hK.out _ _ trivial (fun hHeld => ?_)
       clear hK K
       refine norm_ (a':=?_) ?_ ?_
       rotate_left
       ·show Act.put _ (some 1) _ = _
        simp only [Act.put,List.setIfInBounds_toArray,List.set_cons_zero,List.set_cons_succ,i64_w,i32_w]
        rfl
       exact norm_ (by first|(simp only [putAll,Act.put,List.setIfInBounds_toArray,List.set_cons_zero,List.set_cons_succ];done)|(simp only [putAll,Act.put,List.setIfInBounds_toArray,List.set_cons_zero,List.set_cons_succ];rfl)) (hJ0_3 (v144,gb149) _ ⟨(Kd.R_up HO145.out),(blk_up BK149.out),GW149.out,GE149.out,(hb_)⟩)
    ·skip
     rintro ⟨v147,gb149⟩ w12 ⟨h0_,h1_,h2_,h3_,h4_⟩
     have n0_ : Aside0 (Kd.R (Kd.int .i64) 3 w12 w.heap.size (fun _ => True) v147 y146):=⟨h0_⟩
     have n1_ : Aside0 (w12.heap[gb149]? = some (.cells #[.int .i64 0,.int .i64 0,.slice none 0 0,.slice none 0 0] 24 (0,0))):=⟨h1_⟩
     have n2_ : Aside0 (w.heap.size ≤ gb149):=⟨h2_⟩
     have n3_ : Aside0 (w.heap.size ≤ gb149):=⟨h3_⟩
     have n4_ : Aside0 (Below w.heap.size w w12):=⟨h4_⟩
     clear HB
     clear h0_ h1_ h2_ h3_ h4_
     have HO148:=n0_
     have BK149:=n1_
     have GW149:=n2_
     have GE149:=n3_
     have HB:=n4_
     clear n0_ n1_ n2_ n3_ n4_
     have hHeld:=trivial
     refine norm_ (a':=?_) ?_ ?_
     rotate_left
     ·simp only [putAll,Act.put,List.setIfInBounds_toArray,List.set_cons_zero,List.set_cons_succ]
      rfl
     refine oI 0 (some 5) (fun K hK => ?_)
     refine Kd.R_make_step (Kd.int .i64) _ 3 (by rfl) (N:=5) rfl 22 _ _ rfl 16 rfl rfl Try.underlying22 (.int .i64 0) 8 info3 rfl (by decide) (by omega) 0 (ok:=fun _ => True) (okp:=fun _ => True) rfl (fun _ hk => hk) trivial (by omega) (by omega) (Below.refl _ _) (Nat.le_refl _) ?_
     intro v144 w13 ho14 hb hg_ hnew_
     clear hg_ hnew_
     (first|rw [← Ny143.out] at ho14|(simp only [Int.reduceToNat] at ho14;rw [← Ny143.out] at ho14))
     have n0_:=Aside0.mk (Kd.R_elder' (Kd.R_up HO148.out) (Kd.R_base ho14) hb)
     have n1_:=Aside0.mk (Kd.R_lower (Kd.R_new' ho14 (Kd.R_lt (Kd.R_up HO148.out))) (below_size (hb_)))
     have n2_:=bkb BK149 hb
     have n3_:=Aside0.mk (below_step (hb_) hb)
     clear HO148
     clear BK149
     clear HB
     have HO148:=n0_
     have HO145:=n1_
     have BK149:=n2_
     have HB:=n3_
     clear n0_ n1_ n2_ n3_
     clear hb ho14
     obtain ⟨Ao15,co15,eo15⟩:=Kd.R_slice HO148.out
     (first|subst eo15|(injection eo15 with f1_ f2_ f3_;have f4_:=f1_.symm;have f5_:=f3_.symm;clear f1_ f2_ f3_;subst f4_;subst f5_))
     obtain ⟨Ao16,co16,eo16⟩:=Kd.R_slice HO145.out
     (first|subst eo16|(injection eo16 with f1_ f2_ f3_;have f4_:=f1_.symm;have f5_:=f3_.symm;clear f1_ f2_ f3_;subst f4_;subst f5_))
     refine hK.out _ _ trivial (fun hHeld => ?_)
     clear hK K
     refine norm_ (a':=?_) ?_ ?_
     rotate_left
     ·show Act.put _ (some 5) _ = _
      simp only [Act.put,List.setIfInBounds_toArray,List.set_cons_zero,List.set_cons_succ,i64_w,i32_w]
      rfl
     refine pI 2 (some 7) ?_
     exact norm_ (by first|(simp only [putAll,Act.put,List.setIfInBounds_toArray,List.set_cons_zero,List.set_cons_succ];done)|(simp only [putAll,Act.put,List.setIfInBounds_toArray,List.set_cons_zero,List.set_cons_succ];rfl)) (hJ0_1_3 (.slice Ao16 y143.length co16,.slice Ao15 y146.length co15,gb149) _ ⟨(by (with_reducible repeat (first|apply Kd.R_alloc|apply Kd.R_drewN|apply Kd.R_drew));exact Kd.R_mono HO145.out (fun _ hk => hk.2)),(by (with_reducible repeat (first|apply Kd.R_alloc|apply Kd.R_drewN|apply Kd.R_drew));exact Kd.R_mono HO148.out (fun _ hk => hk.2)),(blk_up BK149.out),GW149.out,GE149.out,(hb_)⟩)
   ·skip
    rintro ⟨v144,gb149⟩ w12 ⟨h0_,h1_,h2_,h3_,h4_⟩
    have n0_ : Aside0 (Kd.R (Kd.int .i64) 3 w12 w.heap.size (fun _ => True) v144 y143):=⟨h0_⟩
    have n1_ : Aside0 (w12.heap[gb149]? = some (.cells #[.int .i64 0,.int .i64 0,.slice none 0 0,.slice none 0 0] 24 (0,0))):=⟨h1_⟩
    have n2_ : Aside0 (w.heap.size ≤ gb149):=⟨h2_⟩
    have n3_ : Aside0 (w.heap.size ≤ gb149):=⟨h3_⟩
    have n4_ : Aside0 (Below w.heap.size w w12):=⟨h4_⟩
    clear HB
    clear h0_ h1_ h2_ h3_ h4_
    have HO145:=n0_
    have BK149:=n1_
    have GW149:=n2_
    have GE149:=n3_
    have HB:=n4_
    clear n0_ n1_ n2_ n3_ n4_
    have hHeld:=trivial
    refine norm_ (a':=?_) ?_ ?_
    rotate_left
    ·simp only [putAll,Act.put,List.setIfInBounds_toArray,List.set_cons_zero,List.set_cons_succ]
     rfl
    refine oI 1 (some 6) (fun K hK => ?_)
    refine Kd.R_make_step (Kd.int .i64) _ 3 (by rfl) (N:=6) rfl 22 _ _ rfl 16 rfl rfl Try.underlying22 (.int .i64 0) 8 info3 rfl (by decide) (by omega) 0 (ok:=fun _ => True) (okp:=fun _ => True) rfl (fun _ hk => hk) trivial (by omega) (by omega) (Below.refl _ _) (Nat.le_refl _) ?_
    intro v147 w13 ho14 hb hg_ hnew_
    clear hg_ hnew_
    (first|rw [← Ny146.out] at ho14|(simp only [Int.reduceToNat] at ho14;rw [← Ny146.out] at ho14))
    have n0_:=Aside0.mk (Kd.R_elder' (Kd.R_up HO145.out) (Kd.R_base ho14) hb)
    have n1_:=Aside0.mk (Kd.R_lower (Kd.R_new' ho14 (Kd.R_lt (Kd.R_up HO145.out))) (below_size (hb_)))
    have n2_:=bkb BK149 hb
    have n3_:=Aside0.mk (below_step (hb_) hb)
    clear HO145
    clear BK149
    clear HB
    have HO145:=n0_
    have HO148:=n1_
    have BK149:=n2_
    have HB:=n3_
    clear n0_ n1_ n2_ n3_
    clear hb ho14
    obtain ⟨Ao15,co15,eo15⟩:=Kd.R_slice HO148.out
    (first|subst eo15|(injection eo15 with f1_ f2_ f3_;have f4_:=f1_.symm;have f5_:=f3_.symm;clear f1_ f2_ f3_;subst f4_;subst f5_))
    obtain ⟨Ao16,co16,eo16⟩:=Kd.R_slice HO145.out
    (first|subst eo16|(injection eo16 with f1_ f2_ f3_;have f4_:=f1_.symm;have f5_:=f3_.symm;clear f1_ f2_ f3_;subst f4_;subst f5_))
    refine hK.out _ _ trivial (fun hHeld => ?_)
    clear hK K
    refine norm_ (a':=?_) ?_ ?_
    rotate_left
    ·show Act.put _ (some 6) _ = _
     simp only [Act.put,List.setIfInBounds_toArray,List.set_cons_zero,List.set_cons_succ,i64_w,i32_w]
     rfl
    refine pI 2 (some 7) ?_
    exact norm_ (by first|(simp only [putAll,Act.put,List.setIfInBounds_toArray,List.set_cons_zero,List.set_cons_succ];done)|(simp only [putAll,Act.put,List.setIfInBounds_toArray,List.set_cons_zero,List.set_cons_succ];rfl)) (hJ0_1_3 (.slice Ao16 y143.length co16,.slice Ao15 y146.length co15,gb149) _ ⟨(by (with_reducible repeat (first|apply Kd.R_alloc|apply Kd.R_drewN|apply Kd.R_drew));exact Kd.R_mono HO145.out (fun _ hk => hk.2)),(by (with_reducible repeat (first|apply Kd.R_alloc|apply Kd.R_drewN|apply Kd.R_drew));exact Kd.R_mono HO148.out (fun _ hk => hk.2)),(blk_up BK149.out),GW149.out,GE149.out,(hb_)⟩)
  ·skip
   rintro ⟨v144,v147⟩ w15 ⟨h0_,h1_,h2_⟩
   have n0_ : Aside0 (Kd.R (Kd.int .i64) 3 w15 w.heap.size (fun k_ => some k_ ≠ (v147 : Value).ownBlock) v144 y143):=⟨h0_⟩
   have n1_ : Aside0 (Kd.R (Kd.int .i64) 3 w15 w.heap.size (fun k_ => some k_ ≠ (v144 : Value).ownBlock) v147 y146):=⟨h1_⟩
   have n2_ : Aside0 (Below w.heap.size w w15):=⟨h2_⟩
   clear HB
   clear h0_ h1_ h2_
   have HO145:=n0_
   have HO148:=n1_
   have HB:=n2_
   clear n0_ n1_ n2_
   have hHeld:=trivial
   obtain ⟨Ao16,co16,eo16⟩:=Kd.R_slice HO148.out
   (first|subst eo16|(injection eo16 with f1_ f2_ f3_;have f4_:=f1_.symm;have f5_:=f3_.symm;clear f1_ f2_ f3_;subst f4_;subst f5_))
   obtain ⟨Ao17,co17,eo17⟩:=Kd.R_slice HO145.out
   (first|subst eo17|(injection eo17 with f1_ f2_ f3_;have f4_:=f1_.symm;have f5_:=f3_.symm;clear f1_ f2_ f3_;subst f4_;subst f5_))
   refine norm_ (a':=?_) ?_ ?_
   rotate_left
   ·simp only [putAll,Act.put,List.setIfInBounds_toArray,List.set_cons_zero,List.set_cons_succ]
    rfl
   refine oI 3 (some 1) (fun K hK => ?_)
   refine box_step ?hg (N:=1) ?hd (cs:=#[.int .i64 0,.int .i64 0,.slice none 0 0,.slice none 0 0]) (t:=24) ?hr ?_;(case hd => rfl);(case hg => rfl);(case hr => first|(go_simp;done)|(go_simp;rfl))
   intro gb149 hg w18 hbox hb
   have n0_:=rbw HO145 hb
   have n1_:=rbw HO148 hb
   have n2_:=Aside0.mk (below_step (hb_) hb)
   have n3_:=Aside0.mk (hbox)
   have n4_:=Aside0.mk ((by rw [hg];exact (below_size (hb_)) : w.heap.size ≤ gb149))
   have n5_:=Aside0.mk ((by rw [hg];exact (below_size (hb_)) : w.heap.size ≤ gb149))
   clear HO145
   clear HO148
   clear HB
   have HO145:=n0_
   have HO148:=n1_
   have HB:=n2_
   have BK149:=n3_
   have GW149:=n4_
   have GE149:=n5_
   clear n0_ n1_ n2_ n3_ n4_ n5_
   clear hb hbox hg
   refine hK.out _ _ trivial (fun hHeld => ?_)
   clear hK K
   refine norm_ (a':=?_) ?_ ?_
   rotate_left
   ·show Act.put _ (some 1) _ = _
    simp only [Act.put,List.setIfInBounds_toArray,List.set_cons_zero,List.set_cons_succ,i64_w,i32_w]
    rfl
   exact norm_ (by first|(simp only [putAll,Act.put,List.setIfInBounds_toArray,List.set_cons_zero,List.set_cons_succ];done)|(simp only [putAll,Act.put,List.setIfInBounds_toArray,List.set_cons_zero,List.set_cons_succ];rfl)) (hJ0_1_3 (.slice Ao17 y143.length co17,.slice Ao16 y146.length co16,gb149) _ ⟨(Kd.R_up HO145.out),(Kd.R_up HO148.out),(blk_up BK149.out),GW149.out,GE149.out,(hb_)⟩)
 rintro ⟨v144,v147,gb149⟩ w16 ⟨h0_,h1_,h2_,h3_,h4_,h5_⟩
 have n0_ : Aside0 (Kd.R (Kd.int .i64) 3 w16 w.heap.size (fun k_ => some k_ ≠ (v147 : Value).ownBlock) v144 y143):=⟨h0_⟩
 have n1_ : Aside0 (Kd.R (Kd.int .i64) 3 w16 w.heap.size (fun k_ => some k_ ≠ (v144 : Value).ownBlock) v147 y146):=⟨h1_⟩
 have n2_ : Aside0 (w16.heap[gb149]? = some (.cells #[.int .i64 0,.int .i64 0,.slice none 0 0,.slice none 0 0] 24 (0,0))):=⟨h2_⟩
 have n3_ : Aside0 (w.heap.size ≤ gb149):=⟨h3_⟩
 have n4_ : Aside0 (w.heap.size ≤ gb149):=⟨h4_⟩
 have n5_ : Aside0 (Below w.heap.size w w16):=⟨h5_⟩
 clear HB
 clear h0_ h1_ h2_ h3_ h4_ h5_
 have HO145:=n0_
 have HO148:=n1_
 have BK149:=n2_
 have GW149:=n3_
 have GE149:=n4_
 have HB:=n5_
 clear n0_ n1_ n2_ n3_ n4_ n5_
 have hHeld:=trivial
 obtain ⟨Ao17,co17,eo17⟩:=Kd.R_slice HO148.out
 (first|subst eo17|(injection eo17 with f1_ f2_ f3_;have f4_:=f1_.symm;have f5_:=f3_.symm;clear f1_ f2_ f3_;subst f4_;subst f5_))
 obtain ⟨Ao18,co18,eo18⟩:=Kd.R_slice HO145.out
 (first|subst eo18|(injection eo18 with f1_ f2_ f3_;have f4_:=f1_.symm;have f5_:=f3_.symm;clear f1_ f2_ f3_;subst f4_;subst f5_))
 refine norm_ (a':=?_) ?_ ?_
 rotate_left
 ·simp only [putAll,Act.put,List.setIfInBounds_toArray,List.set_cons_zero,List.set_cons_succ]
  rfl
 refine oI 4 (none) (fun K hK => ?_)
 have hs19 : w16.cell? ⟨gb149,0,none⟩ = some (.int .i64 0):=(blk_cell BK149.out 0).trans rfl
 have hfs19:=blk_frozen BK149.out 0
 have hs20 : w16.cell? ⟨gb149,1,none⟩ = some (.int .i64 0):=(blk_cell BK149.out 1).trans rfl
 have hfs20:=blk_frozen BK149.out 1
 have hs21 : w16.cell? ⟨gb149,2,none⟩ = some (.slice none 0 0):=(blk_cell BK149.out 2).trans rfl
 have hfs21:=blk_frozen BK149.out 2
 have hs22 : w16.cell? ⟨gb149,3,none⟩ = some (.slice none 0 0):=(blk_cell BK149.out 3).trans rfl
 have hfs22:=blk_frozen BK149.out 3
 refine skip_ (w1:=?_) (by rfl) rfl ?_ ?_
 rotate_left
 ·go_simp
  rfl
 refine hK.out _ _ trivial (fun hHeld => ?_)
 clear hK K
 refine done_ (by kernel_rfl) ?_
 have n0_ : Aside0 (Kd.R (Kd.int .i64) 3 ((((w16.setCell ⟨gb149,0,none⟩ (.int .i64 4)).setCell ⟨gb149,1,none⟩ (.int .i64 4)).setCell ⟨gb149,2,none⟩ (.slice Ao18 y143.length co18)).setCell ⟨gb149,3,none⟩ (.slice Ao17 y146.length co17)) w.heap.size (fun k_ => some k_ ≠ (.slice Ao17 y146.length co17 : Value).ownBlock) (.slice Ao18 y143.length co18) y143):=⟨by (with_reducible repeat (first|apply Kd.R_alloc|apply Kd.R_drewN|apply Kd.R_drew));exact Kd.R_mono (Kd.R_fars gb149 (Kd.R_types HO145.out BK149.out (by decide)) (fun _ hk => hk.2)) (fun _ hk => hk.1)⟩
 have n1_ : Aside0 (Kd.R (Kd.int .i64) 3 ((((w16.setCell ⟨gb149,0,none⟩ (.int .i64 4)).setCell ⟨gb149,1,none⟩ (.int .i64 4)).setCell ⟨gb149,2,none⟩ (.slice Ao18 y143.length co18)).setCell ⟨gb149,3,none⟩ (.slice Ao17 y146.length co17)) w.heap.size (fun k_ => some k_ ≠ (.slice Ao18 y143.length co18 : Value).ownBlock) (.slice Ao17 y146.length co17) y146):=⟨by (with_reducible repeat (first|apply Kd.R_alloc|apply Kd.R_drewN|apply Kd.R_drew));exact Kd.R_mono (Kd.R_fars gb149 (Kd.R_types HO148.out BK149.out (by decide)) (fun _ hk => hk.2)) (fun _ hk => hk.1)⟩
 have n2_ : Aside0 (((((w16.setCell ⟨gb149,0,none⟩ (.int .i64 4)).setCell ⟨gb149,1,none⟩ (.int .i64 4)).setCell ⟨gb149,2,none⟩ (.slice Ao18 y143.length co18)).setCell ⟨gb149,3,none⟩ (.slice Ao17 y146.length co17)).heap[gb149]? = some (.cells #[.int .i64 4,.int .i64 4,.slice Ao18 y143.length co18,.slice Ao17 y146.length co17] 24 (0,0))):=⟨by (with_reducible repeat (first|refine blk_drewN ?_ _|refine blk_drew ?_|refine blk_alloc ?_ _));exact blk_puts4 (blk_up BK149.out)⟩
 have n3_ : Aside0 (Below w.heap.size w ((((w16.setCell ⟨gb149,0,none⟩ (.int .i64 4)).setCell ⟨gb149,1,none⟩ (.int .i64 4)).setCell ⟨gb149,2,none⟩ (.slice Ao18 y143.length co18)).setCell ⟨gb149,3,none⟩ (.slice Ao17 y146.length co17))):=⟨hb_⟩
 (try clear HO145)
 (try clear HO148)
 (try clear BK149)
 (try clear HB)
 generalize ((((w16.setCell ⟨gb149,0,none⟩ (.int .i64 4)).setCell ⟨gb149,1,none⟩ (.int .i64 4)).setCell ⟨gb149,2,none⟩ (.slice Ao18 y143.length co18)).setCell ⟨gb149,3,none⟩ (.slice Ao17 y146.length co17)) = w23 at n0_ n1_ n2_ n3_ ⊢
 have HO145:=n0_
 have HO148:=n1_
 have BK149:=n2_
 have HB:=n3_
 clear n0_ n1_ n2_ n3_
 obtain ⟨_,_,_,_,_,_,_,_⟩:=cells4 BK149.out
 have p3 : 0 ≤ (0 : Int):=(by omega)
 have q3 : (0 : Int) < ((y143.length : Int) : Int):=of_decide_eq_true (by first|(with_reducible assumption)|assumption)
 have qi3 : (0 < y143.length) = True:=eq_true (by omega)
 obtain ⟨go3,co3,eo3,gb3,gl3,cl3,HG3⟩:=Kd.R_form HO145.out (by omega)
 (first|cases eo3|(injection eo3 with ea_ en_ ec_;(first|subst ea_|(injection ea_ with ea_;subst ea_));subst ec_;clear en_))
 have GB3:=Aside0.mk gb3
 have GG3:=Aside0.mk HG3
 clear gb3 gl3 HG3
 obtain ⟨hx3_0,hf3_0⟩:=Kd.R_celln 0 HO145.out (0 : Int) p3 q3
 (try rw [show ((0 : Int)).toNat = 0 from rfl] at hx3_0)
 (try simp only [Nat.reduceMul,Nat.zero_mul,Nat.zero_add,Nat.reduceAdd] at hx3_0)
 (try rw [show ((0 : Int)).toNat = 0 from rfl] at hf3_0)
 (try simp only [Nat.reduceMul,Nat.zero_mul,Nat.zero_add,Nat.reduceAdd] at hf3_0)
 replace p3:=eq_true p3
 replace q3:=eq_true q3
 obtain ⟨hy25_,hz25_⟩:=Kd.R_celln 0 HO145.out (0 : Int) (by omega) (of_decide_eq_true (by first|(with_reducible assumption)|assumption))
 (try simp only [Int.reduceToNat,Int.toNat_zero,Int.toNat_ofNat,Nat.reduceMul,Nat.zero_mul,Nat.zero_add] at hy25_ hz25_)
 (try rw [show ((0 : Int)).toNat = 0 from rfl] at hy25_)
 (try rw [show ((0 : Int)).toNat = 0 from rfl] at hz25_)
 have HP25:=Kd.R_putg HO145.out (0 : Int) 1
 go_upto_region 5 with (first|((with_reducible refine gate_store (t:=3) (p:=10) rfl ?_);refine store_event (t:=3) (p:=10) (v:=?vo_w26) (w1:=(w23.setCell ⟨go3,(0 : Int).toNat,none⟩ (.int .i64 1))) ?hg ?ho ?hn ?hr ?_;(case ho => rfl);(case hg => rfl);(case hn => rfl);(case hr => first|(go_simp;done)|(go_simp;rfl));intro w26 hw;have hg : w23.grownBy w26 (some go3):=(by rw [hw];exact HP25.2);have hp_ : Kd.R (Kd.int .i64) 3 w26 w.heap.size (fun k_ => some k_ ≠ (.slice Ao17 y146.length co17 : Value).ownBlock) (.slice (some ⟨go3,0,none⟩) y143.length co18) y150:=(by rw [hw,Ny150.out];exact HP25.1);clear HP25;replace HO148:=Aside0.mk (Kd.R_after (v:=(.slice (some ⟨go3,0,none⟩) y143.length co18)) (v1:=(.slice (some ⟨go3,0,none⟩) y143.length co18)) (ok:=(fun _ => True)) (by (with_reducible repeat (first|apply Kd.R_alloc|apply Kd.R_drewN|apply Kd.R_drew));exact Kd.R_mono HO148.out (fun _ hk => ⟨trivial,hk⟩)) hg (.inl rfl));replace BK149:=Aside0.mk (blk_grown (blk_up BK149.out) hg (Kd.R_ne HO145.out BK149.out (by decide)));replace HO145:=Aside0.mk (hp_);replace HB:=Aside0.mk ((by rw [hw];exact below_set (HB.out) GB3.out : Below w.heap.size w w26));clear hg hw hp_;obtain ⟨_,_,_,_,_,_,_,_⟩:=cells4 BK149.out;have p5 : 0 ≤ (1 : Int):=(by omega);have q5 : (1 : Int) < ((y143.length : Int) : Int):=of_decide_eq_true (by first|(with_reducible assumption)|assumption);have qi5 : (1 < y143.length) = True:=eq_true (by omega);obtain ⟨hx5_0,hf5_0⟩:=Kd.R_celln 0 HO145.out (1 : Int) p5 q5;(try rw [show ((1 : Int)).toNat = 1 from rfl] at hx5_0);(try simp only [Nat.reduceMul,Nat.zero_mul,Nat.zero_add,Nat.reduceAdd] at hx5_0);(try rw [show ((1 : Int)).toNat = 1 from rfl] at hf5_0);(try simp only [Nat.reduceMul,Nat.zero_mul,Nat.zero_add,Nat.reduceAdd] at hf5_0);replace p5:=eq_true p5;replace q5:=eq_true q5;obtain ⟨hy28_,hz28_⟩:=Kd.R_celln 0 HO145.out (1 : Int) (by omega) (of_decide_eq_true (by first|(with_reducible assumption)|assumption));(try simp only [Int.reduceToNat,Int.toNat_zero,Int.toNat_ofNat,Nat.reduceMul,Nat.zero_mul,Nat.zero_add] at hy28_ hz28_);(try rw [show ((1 : Int)).toNat = 1 from rfl] at hy28_);(try rw [show ((1 : Int)).toNat = 1 from rfl] at hz28_);have HP28:=Kd.R_putg HO145.out (1 : Int) 4)|((with_reducible refine gate_store (t:=3) (p:=13) rfl ?_);refine store_event (t:=3) (p:=13) (v:=?vo_w29) (w1:=(w26.setCell ⟨go3,(1 : Int).toNat,none⟩ (.int .i64 4))) ?hg ?ho ?hn ?hr ?_;(case ho => rfl);(case hg => rfl);(case hn => rfl);(case hr => first|(go_simp;done)|(go_simp;rfl));intro w29 hw;have hg : w26.grownBy w29 (some go3):=(by rw [hw];exact HP28.2);have hp_ : Kd.R (Kd.int .i64) 3 w29 w.heap.size (fun k_ => some k_ ≠ (.slice Ao17 y146.length co17 : Value).ownBlock) (.slice (some ⟨go3,0,none⟩) y143.length co18) y151:=(by rw [hw,Ny151.out];exact HP28.1);clear HP28;replace HO148:=Aside0.mk (Kd.R_after (v:=(.slice (some ⟨go3,0,none⟩) y143.length co18)) (v1:=(.slice (some ⟨go3,0,none⟩) y143.length co18)) (ok:=(fun _ => True)) (Kd.R_up HO148.out) hg (.inl rfl));replace BK149:=Aside0.mk (blk_grown (blk_up BK149.out) hg (Kd.R_ne HO145.out BK149.out (by decide)));replace HO145:=Aside0.mk (hp_);replace HB:=Aside0.mk ((by rw [hw];exact below_set (HB.out) GB3.out : Below w.heap.size w w29));clear hg hw hp_;obtain ⟨_,_,_,_,_,_,_,_⟩:=cells4 BK149.out)|((with_reducible refine gate_callee (f:=15) rfl ?_);refine goesL_ (some 16) rfl rfl Try.func15 (by kernel_rfl) rfl #[.agg #[.int .i64 4,.int .i64 4,.slice (some ⟨go3,0,none⟩) y151.length co18,.slice Ao17 y146.length co17],.int .i64 1,.int .i64 (-1),.int .i64 0] rfl (by (try simp only [List.map_toArray,List.map_cons,List.map_nil]);first|done|(rw [show y151.length = y143.length from (Kd.R_reads' HO145.out).1.symm] <;> rfl)|rfl|(simp only [List.length_drop,List.length_take];rfl)) ?_;(with_reducible refine (lane_Choose.calls k 4 4 _ _ y151 _ _ y146 1 (-1) 0 t152 t153 t154 _ ?_ ?_ ?_ ?_ A6.out).mono ?_);exact Kd.C_up (Kd.R_reads' HO145.out).2.2;(focus (rw [show y151.length = y143.length from (Kd.R_reads' HO145.out).1.symm];exact (Kd.R_reads' HO145.out).2.1));exact Kd.C_up (Kd.R_reads' HO148.out).2.2;exact (Kd.R_reads' HO148.out).2.1;rintro e w31 ⟨rfl,hb⟩;refine ⟨_,rfl,?_⟩;replace HO145:=rbw HO145 hb;replace HO148:=rbw HO148 hb;replace BK149:=bkb BK149 hb;replace HB:=hbs hb))
 (try simp only [Act.put,List.setIfInBounds_toArray,List.set_cons_zero,List.set_cons_succ])
 go_cut [0] (fun v0 wc => ∃ (kq : Nat) (x0_6 : Bool),v0 = .bool x0_6 ∧ Aside0 (hinterlandlaw17_known.j0 kq x0_6 = some r) ∧ Aside0 (kq ≤ k) ∧ Aside0 (Kd.R (Kd.int .i64) 3 wc w.heap.size (fun k_ => some k_ ≠ ((.slice Ao17 y146.length co17) : Value).ownBlock) (.slice (some ⟨go3,0,none⟩) y143.length co18) y151) ∧ Aside0 (Kd.R (Kd.int .i64) 3 wc w.heap.size (fun k_ => some k_ ≠ ((.slice (some ⟨go3,0,none⟩) y143.length co18) : Value).ownBlock) (.slice Ao17 y146.length co17) y146) ∧ Aside0 (wc.heap[gb149]? = some (.cells #[.int .i64 4,.int .i64 4,(.slice (some ⟨go3,0,none⟩) y143.length co18),(.slice Ao17 y146.length co17)] 24 (0,0))) ∧ Aside0 (Below w.heap.size w wc))
 case first =>
  have H:=HC7.out
  clear HC7
  by_cases c32 : t152 = 2
  ·rw [if_pos c32] at H
   have c32b0:=bqt c32
   have c32b1:=bnf c32
   clear c32
   (first|rw [c32b0]|(simp only [i64_w,i32_w];rw [c32b0])|skip)
   by_cases c33 : t153 = true
   ·subst c33
    have H1 : (hinterlandlaw17_known.j0 k (t154 == 0)) = some r:=by rw [if_pos rfl] at H;exact H
    clear H
    have H:=H1
    clear H1
    have H':=Aside0.mk H
    clear H
    go_wp2
    go_meet
    case rel => exact ⟨_,((t154 == 0)),(by first|rfl|(simp;done)|(simp [*];done)),H',⟨by first|omega|exact Nat.le_refl _⟩,⟨Kd.R_up HO145.out⟩,⟨by (with_reducible repeat (first|apply Kd.R_alloc|apply Kd.R_drewN|apply Kd.R_drew));exact Kd.R_mono HO148.out (fun _ hk => hk.2)⟩,⟨blk_up BK149.out⟩,⟨hb_⟩⟩
   ·replace c33:=Bool.eq_false_iff.mpr c33
    subst c33
    have H1 : (hinterlandlaw17_known.j0 k false) = some r:=by rw [if_neg (show ¬ (false = true) by decide)] at H;exact H
    clear H
    have H:=H1
    clear H1
    have H':=Aside0.mk H
    clear H
    go_wp2
    go_meet
    case rel => exact ⟨_,(false),(by first|rfl|(simp;done)|(simp [*];done)),H',⟨by first|omega|exact Nat.le_refl _⟩,⟨Kd.R_up HO145.out⟩,⟨by (with_reducible repeat (first|apply Kd.R_alloc|apply Kd.R_drewN|apply Kd.R_drew));exact Kd.R_mono HO148.out (fun _ hk => hk.2)⟩,⟨blk_up BK149.out⟩,⟨hb_⟩⟩
  ·rw [if_neg c32] at H
   have c32b0:=bqf c32
   have c32b1:=bnt c32
   (first|rw [c32b0]|(simp only [i64_w,i32_w];rw [c32b0])|skip)
   have H':=Aside0.mk H
   clear H
   go_wp2
   go_meet
   case rel => exact ⟨_,(false),(by first|rfl|(simp;done)|(simp [*];done)),H',⟨by first|omega|exact Nat.le_refl _⟩,⟨Kd.R_up HO145.out⟩,⟨by (with_reducible repeat (first|apply Kd.R_alloc|apply Kd.R_drewN|apply Kd.R_drew));exact Kd.R_mono HO148.out (fun _ hk => hk.2)⟩,⟨blk_up BK149.out⟩,⟨hb_⟩⟩
 case rest =>
  clear HC7
  obtain ⟨kq,x0_6,rfl,HA,HJ6,HO_150002,HO_150003,BK149,HB⟩:=hcut
  have hl150002_6:=(Kd.R_reads' HO_150002.out).1
  rw [hl150002_6] at HO_150002
  (try simp only [hl150002_6])
  (try simp only [hl150002_6] at BK149)
  (try simp only [hl150002_6] at HO_150003)
  cases kq with
  | zero => exact absurd HA.out (by simp [hinterlandlaw17_known.j0])
  | succ kj6 =>
   have H:=HA.out
   clear HA
   simp only [hinterlandlaw17_known.j0] at H
   obtain rfl:=Option.some.inj H
   go_wp2
   go_ret
   exact ⟨er_,hb_⟩

/-! ### hinterlandref04_side: function 61 -/
def hinterlandref04_side.f (a0 : Int) : Option (Bool) := if a0 ≥ 4 then (some (decide (a0 ≤ 32))) else (some false)
set_option maxHeartbeats 8000000 in
set_option maxRecDepth 100000 in
theorem hinterlandref04_side.calls (a0 : Int) (r : Bool) (w : World) (h : hinterlandref04_side.f a0 = some r) :
  Calls Try.prog 61 #[.int .i64 a0] w fun e w' => e = .returned (.bool r) ∧ Drawn0 w w':=by
 have H : (if a0 ≥ 4 then (some (decide (a0 ≤ 32))) else (some false)) = some r:=h
 clear h
 by_cases c2 : a0 ≥ 4
 ·rw [if_pos c2] at H
  have c2b0 : decide (4 ≤ a0) = true:=decide_eq_true c2
  clear c2
  obtain rfl:=Option.some.inj H
  go_enter Try.func61,Try.ntmps61
  go_wp2
  go_ret
  exact ⟨by first|rfl|(simp;done)|(simp [*];done),by repeat (first|exact Drawn0.refl _|apply Drawn0.step)⟩
 ·rw [if_neg c2] at H
  have c2b0 : decide (4 ≤ a0) = false:=decide_eq_false c2
  clear c2
  obtain rfl:=Option.some.inj H
  go_enter Try.func61,Try.ntmps61
  go_wp2
  go_ret
  exact ⟨by first|rfl|(simp;done)|(simp [*];done),by repeat (first|exact Drawn0.refl _|apply Drawn0.step)⟩

/-! ### hinterlandref04_straight: function 62 -/
def hinterlandref04_straight.f (a0 : Int) : Option (Bool) := if a0 = 5 then (some true) else (some (a0 == 10))
set_option maxHeartbeats 8000000 in
set_option maxRecDepth 100000 in
theorem hinterlandref04_straight.calls (a0 : Int) (r : Bool) (w : World) (h : hinterlandref04_straight.f a0 = some r) :
  Calls Try.prog 62 #[.int .i64 a0] w fun e w' => e = .returned (.bool r) ∧ Drawn0 w w':=by
 have H : (if a0 = 5 then (some true) else (some (a0 == 10))) = some r:=h
 clear h
 by_cases c2 : a0 = 5
 ·rw [if_pos c2] at H
  have c2b0:=bqt c2
  have c2b1:=bnf c2
  clear c2
  obtain rfl:=Option.some.inj H
  go_enter Try.func62,Try.ntmps62
  go_wp2
  go_ret
  exact ⟨by first|rfl|(simp;done)|(simp [*];done),by repeat (first|exact Drawn0.refl _|apply Drawn0.step)⟩
 ·rw [if_neg c2] at H
  have c2b0:=bqf c2
  have c2b1:=bnt c2
  obtain rfl:=Option.some.inj H
  go_enter Try.func62,Try.ntmps62
  go_wp2
  go_ret
  exact ⟨by first|rfl|(simp;done)|(simp [*];done),by repeat (first|exact Drawn0.refl _|apply Drawn0.step)⟩

end Go.Proofs.Ythjmdpekcleihaa.P
