/- Functions of this seat as plain Lean functions, with proofs that the Go code comes to just their answers, or what stands between them and a law's statement; no conditions. (Laid by a program of this session, out of the kit's print.) -/
import Derived.Test.YthjmdpekcleihaaPx0
import Derived.Test.YthjmdpekcleihaaPx8
import Derived.Test.YthjmdpekcleihaaPx10
namespace Go.Proofs.Ythjmdpekcleihaa.P
open Go.RowKit Go.Proofs.YthjmdpekcleihaaW.PrintWords Go.Proofs.YthjmdpekcleihaaW.PrintLast Go.Proofs.YthjmdpekcleihaaW.PrintMore
attribute [local go_sem] max2_int min2_int max_two min_two max_three min_three max_four min_four   -- for this text's walks alone
set_option linter.unusedVariables false
set_option linter.unusedSimpArgs false

/-! ### hinterlandref17_far: function 64 -/
mutual
def hinterlandref17_far.l0 : Nat → Int → List Bool → List Int → Int → Int → Int → List Int → List Int → Option (Int)
 | 0,_,_,_,_,_,_,_,_ => none
 | k + 1,x3,x9,x10,x11,x185000,x185001,x185002,x185003 => if (x10.length : Int) > 0 then (hinterlandref17_far.l1 k x3 x9 x10 x11 ([] : List Int) 0 x185000 x185001 x185002 x185003) else (some (-1))
def hinterlandref17_far.l1 : Nat → Int → List Bool → List Int → Int → List Int → Int → Int → Int → List Int → List Int → Option (Int)
 | 0,_,_,_,_,_,_,_,_,_,_ => none
 | k + 1,x3,x9,x10,x11,x12,x13,x185000,x185001,x185002,x185003 => if x13 < (x10.length : Int) then (if 0 ≤ x13 then (if (wrap64 (Int.tdiv (rd x10 x13) 4)) = x3 then (some x11) else ((hinterlandref17_leave.f k x185000 x185001 x185002 x185003 (wrap64 (Int.tdiv (rd x10 x13) 4)) (Int.tmod (rd x10 x13) 4)).bind fun t197 => (hinterlandref17_far.l2 k x3 x9 x10 x11 x12 x13 t197 0 x185000 x185001 x185002 x185003))) else (none)) else (hinterlandref17_far.l0 k x3 x9 x12 (wrap64 (x11 + 1)) x185000 x185001 x185002 x185003)
def hinterlandref17_far.l2 : Nat → Int → List Bool → List Int → Int → List Int → Int → List Int → Int → Int → Int → List Int → List Int → Option (Int)
 | 0,_,_,_,_,_,_,_,_,_,_,_,_ => none
 | k + 1,x3,x9,x10,x11,x12,x13,x14,x15,x185000,x185001,x185002,x185003 => if x15 < (x14.length : Int) then (if 0 ≤ x13 then (if x13 < (x10.length : Int) then (if 0 ≤ x15 then ((hinterlandref17_beyond.f x185000 x185001 x185002 x185003 (wrap64 (Int.tdiv (rd x10 x13) 4)) (rd x14 x15)).bind fun t202 => (if 0 ≤ (wrap64 ((wrap64 (4 * t202)) + (Int.tmod (wrap64 ((rd x14 x15) + 2)) 4))) then (if (wrap64 ((wrap64 (4 * t202)) + (Int.tmod (wrap64 ((rd x14 x15) + 2)) 4))) < (x9.length : Int) then (if (rdOf false x9 (wrap64 ((wrap64 (4 * t202)) + (Int.tmod (wrap64 ((rd x14 x15) + 2)) 4))) = true) then (hinterlandref17_far.l2 k x3 x9 x10 x11 x12 x13 x14 (wrap64 (x15 + 1)) x185000 x185001 x185002 x185003) else (if x12.length < 17592186044416 then (hinterlandref17_far.l2 k x3 (x9.set ((wrap64 ((wrap64 (4 * t202)) + (Int.tmod (wrap64 ((rd x14 x15) + 2)) 4))) : Int).toNat true) x10 x11 (x12 ++ [wrap64 ((wrap64 (4 * t202)) + (Int.tmod (wrap64 ((rd x14 x15) + 2)) 4))]) x13 x14 (wrap64 (x15 + 1)) x185000 x185001 x185002 x185003) else (none))) else (none)) else (none))) else (none)) else (none)) else (none)) else (hinterlandref17_far.l1 k x3 x9 x10 x11 x12 (wrap64 (x13 + 1)) x185000 x185001 x185002 x185003)
end
def hinterlandref17_far.f (k : Nat) (a0_0 : Int) (a0_1 : Int) (l0_2 : List Int) (l0_3 : List Int) (a1 : Int) (a2 : Int) (a3 : Int) : Option (Int) := if 0 ≤ (wrap64 (4 * (l0_2.length : Int))) then (if (wrap64 (4 * (l0_2.length : Int)) : Int).toNat ≤ 281474976710656 then ((some (List.replicate (wrap64 (4 * (l0_2.length : Int)) : Int).toNat false : List Bool)).bind fun y185 => ((hinterlandref17_beyond.f a0_0 a0_1 l0_2 l0_3 a1 a2).bind fun t188 => ((some (([wrap64 ((wrap64 (4 * t188)) + (Int.tmod (wrap64 (a2 + 2)) 4))] : List Int) : List Int)).bind fun y189 => (if 0 < (y189.length : Int) then (if 0 ≤ (rd y189 0) then (if (rd y189 0) < (y185.length : Int) then (hinterlandref17_far.l0 k a3 (y185.set ((rd y189 0) : Int).toNat true) y189 1 a0_0 a0_1 l0_2 l0_3) else (none)) else (none)) else (none))))) else (none)) else (none)
theorem hinterlandref17_far.mono_l : ∀ k, (∀ y0 y1 y2 y3 y4 y5 y6 y7, LeO (hinterlandref17_far.l0 k y0 y1 y2 y3 y4 y5 y6 y7) (hinterlandref17_far.l0 (k + 1) y0 y1 y2 y3 y4 y5 y6 y7)) ∧ (∀ y0 y1 y2 y3 y4 y5 y6 y7 y8 y9, LeO (hinterlandref17_far.l1 k y0 y1 y2 y3 y4 y5 y6 y7 y8 y9) (hinterlandref17_far.l1 (k + 1) y0 y1 y2 y3 y4 y5 y6 y7 y8 y9)) ∧ (∀ y0 y1 y2 y3 y4 y5 y6 y7 y8 y9 y10 y11, LeO (hinterlandref17_far.l2 k y0 y1 y2 y3 y4 y5 y6 y7 y8 y9 y10 y11) (hinterlandref17_far.l2 (k + 1) y0 y1 y2 y3 y4 y5 y6 y7 y8 y9 y10 y11))
 | 0 => ⟨fun _ _ _ _ _ _ _ _ r h => by simp [hinterlandref17_far.l0] at h,fun _ _ _ _ _ _ _ _ _ _ r h => by simp [hinterlandref17_far.l1] at h,fun _ _ _ _ _ _ _ _ _ _ _ _ r h => by simp [hinterlandref17_far.l2] at h⟩
 | k + 1 => by
  obtain ⟨ih0,ih1,ih2⟩:=hinterlandref17_far.mono_l k
  refine ⟨?_,?_,?_⟩
  ·intro y0 y1 y2 y3 y4 y5 y6 y7
   unfold hinterlandref17_far.l0
   repeat' first
   | (with_reducible exact ih0 _ _ _ _ _ _ _ _)
   | (with_reducible exact ih1 _ _ _ _ _ _ _ _ _ _)
   | (with_reducible exact ih2 _ _ _ _ _ _ _ _ _ _ _ _)
   | (with_reducible exact hinterlandref17_leave.mono _ _ _ _ _ _ _)
   | (with_reducible exact LeO.refl _)
   | (with_reducible exact LeO.none _)
   | (with_reducible refine LeO.ite ?_ ?_)
   | (with_reducible refine LeO.bind ?_ (fun _ => ?_))
   | exact ih0 _ _ _ _ _ _ _ _
   | exact ih1 _ _ _ _ _ _ _ _ _ _
   | exact ih2 _ _ _ _ _ _ _ _ _ _ _ _
   | exact hinterlandref17_leave.mono _ _ _ _ _ _ _
   | exact LeO.none _
   | refine LeO.ite ?_ ?_
   | refine LeO.bind ?_ (fun _ => ?_)
  ·intro y0 y1 y2 y3 y4 y5 y6 y7 y8 y9
   unfold hinterlandref17_far.l1
   repeat' first
   | (with_reducible exact ih0 _ _ _ _ _ _ _ _)
   | (with_reducible exact ih1 _ _ _ _ _ _ _ _ _ _)
   | (with_reducible exact ih2 _ _ _ _ _ _ _ _ _ _ _ _)
   | (with_reducible exact hinterlandref17_leave.mono _ _ _ _ _ _ _)
   | (with_reducible exact LeO.refl _)
   | (with_reducible exact LeO.none _)
   | (with_reducible refine LeO.ite ?_ ?_)
   | (with_reducible refine LeO.bind ?_ (fun _ => ?_))
   | exact ih0 _ _ _ _ _ _ _ _
   | exact ih1 _ _ _ _ _ _ _ _ _ _
   | exact ih2 _ _ _ _ _ _ _ _ _ _ _ _
   | exact hinterlandref17_leave.mono _ _ _ _ _ _ _
   | exact LeO.none _
   | refine LeO.ite ?_ ?_
   | refine LeO.bind ?_ (fun _ => ?_)
  ·intro y0 y1 y2 y3 y4 y5 y6 y7 y8 y9 y10 y11
   unfold hinterlandref17_far.l2
   repeat' first
   | (with_reducible exact ih0 _ _ _ _ _ _ _ _)
   | (with_reducible exact ih1 _ _ _ _ _ _ _ _ _ _)
   | (with_reducible exact ih2 _ _ _ _ _ _ _ _ _ _ _ _)
   | (with_reducible exact hinterlandref17_leave.mono _ _ _ _ _ _ _)
   | (with_reducible exact LeO.refl _)
   | (with_reducible exact LeO.none _)
   | (with_reducible refine LeO.ite ?_ ?_)
   | (with_reducible refine LeO.bind ?_ (fun _ => ?_))
   | exact ih0 _ _ _ _ _ _ _ _
   | exact ih1 _ _ _ _ _ _ _ _ _ _
   | exact ih2 _ _ _ _ _ _ _ _ _ _ _ _
   | exact hinterlandref17_leave.mono _ _ _ _ _ _ _
   | exact LeO.none _
   | refine LeO.ite ?_ ?_
   | refine LeO.bind ?_ (fun _ => ?_)
theorem hinterlandref17_far.mono : ∀ a0 a1 a2 a3 a4 a5 a6 k, LeO (hinterlandref17_far.f k a0 a1 a2 a3 a4 a5 a6) (hinterlandref17_far.f (k + 1) a0 a1 a2 a3 a4 a5 a6) := by
 intro a0 a1 a2 a3 a4 a5 a6 k
 obtain ⟨ih0,ih1,ih2⟩:=hinterlandref17_far.mono_l k
 unfold hinterlandref17_far.f
 repeat' first
   | (with_reducible exact ih0 _ _ _ _ _ _ _ _)
   | (with_reducible exact ih1 _ _ _ _ _ _ _ _ _ _)
   | (with_reducible exact ih2 _ _ _ _ _ _ _ _ _ _ _ _)
   | (with_reducible exact hinterlandref17_leave.mono _ _ _ _ _ _ _)
   | (with_reducible exact LeO.refl _)
   | (with_reducible exact LeO.none _)
   | (with_reducible refine LeO.ite ?_ ?_)
   | (with_reducible refine LeO.bind ?_ (fun _ => ?_))
   | exact ih0 _ _ _ _ _ _ _ _
   | exact ih1 _ _ _ _ _ _ _ _ _ _
   | exact ih2 _ _ _ _ _ _ _ _ _ _ _ _
   | exact hinterlandref17_leave.mono _ _ _ _ _ _ _
   | exact LeO.none _
   | refine LeO.ite ?_ ?_
   | refine LeO.bind ?_ (fun _ => ?_)
def hinterlandref17_far.T13 : Bool × List (List Nat × List Nat) := (true, [([], []), ([], []), ([], []), ([1, 2], [1, 2]), ([3], [3]), ([4], [4]), ([], []), ([], []), ([6, 7], [6, 7]), ([8], [8]), ([9], [9]), ([0, 5, 10], [0, 5, 10]), ([11, 11, 0, 1, 2, 3, 4, 5, 6, 7, 8, 9, 10, 11], [11])])
def hinterlandref17_far.B13 : List Nat := [0, 0, 0, 6, 14, 30, 0, 0, 192, 448, 960, 2047, 4095]
theorem hinterlandref17_far.tab13 : rtab .any (opsOf Try.f64 13) = hinterlandref17_far.T13 := by kernel_rfl
theorem hinterlandref17_far.bits13 : waitsOk hinterlandref17_far.T13.2 hinterlandref17_far.B13 = true := by kernel_rfl
def hinterlandref17_far.T17 : Bool × List (List Nat × List Nat) := (true, [([], []), ([], []), ([], []), ([1, 2], [1, 2]), ([3], [3]), ([4], [4]), ([], []), ([], []), ([6, 7], [6, 7]), ([8], [8]), ([0, 5, 9], [0, 5, 9]), ([10], [10]), ([], []), ([], []), ([12, 13], [12, 13]), ([14], [14]), ([15], [15]), ([16], [16]), ([11, 17], [11, 17]), ([18, 10, 0, 1, 2, 3, 4, 5, 6, 7, 8, 9, 10, 11, 12, 13, 14, 15, 16, 17, 18], [18])])
def hinterlandref17_far.B17 : List Nat := [0, 0, 0, 6, 14, 30, 0, 0, 192, 448, 1023, 2047, 0, 0, 12288, 28672, 61440, 126976, 262143, 524287]
theorem hinterlandref17_far.tab17 : rtab .any (opsOf Try.f64 17) = hinterlandref17_far.T17 := by kernel_rfl
theorem hinterlandref17_far.bits17 : waitsOk hinterlandref17_far.T17.2 hinterlandref17_far.B17 = true := by kernel_rfl
set_option maxHeartbeats 8000000 in
set_option maxRecDepth 100000 in
theorem hinterlandref17_far.calls (k : Nat) (a0_0 : Int) (a0_1 : Int) (A0_2 : Option Addr) (c0_2 : Nat) (l0_2 : List Int) (A0_3 : Option Addr) (c0_3 : Nat) (l0_3 : List Int) (a1 : Int) (a2 : Int) (a3 : Int) (r : Int) (w : World) (hr0_2 : Kd.C (Kd.int .i64) w A0_2 l0_2.length l0_2) (hc0_2 : l0_2.length ≤ c0_2) (hr0_3 : Kd.C (Kd.int .i64) w A0_3 l0_3.length l0_3) (hc0_3 : l0_3.length ≤ c0_3) (h : hinterlandref17_far.f k a0_0 a0_1 l0_2 l0_3 a1 a2 a3 = some r) :
  Calls Try.prog 64 #[.agg #[.int .i64 a0_0,.int .i64 a0_1,.slice A0_2 l0_2.length c0_2,.slice A0_3 l0_3.length c0_3],.int .i64 a1,.int .i64 a2,.int .i64 a3] w fun e w' => e = .returned (.int .i64 r) ∧ Below w.heap.size w w':=by
 have hu24:=Try.underlying24
 have HR0_2:=Aside0.mk hr0_2
 have HC0_2:=Aside0.mk hc0_2
 clear hr0_2 hc0_2
 have HR0_3:=Aside0.mk hr0_3
 have HC0_3:=Aside0.mk hc0_3
 clear hr0_3 hc0_3
 have HB:=Aside0.mk (Below.refl w.heap.size w)
 have H : (if 0 ≤ (wrap64 (4 * (l0_2.length : Int))) then (if (wrap64 (4 * (l0_2.length : Int)) : Int).toNat ≤ 281474976710656 then ((some (List.replicate (wrap64 (4 * (l0_2.length : Int)) : Int).toNat false : List Bool)).bind fun y185 => ((hinterlandref17_beyond.f a0_0 a0_1 l0_2 l0_3 a1 a2).bind fun t188 => ((some (([wrap64 ((wrap64 (4 * t188)) + (Int.tmod (wrap64 (a2 + 2)) 4))] : List Int) : List Int)).bind fun y189 => (if 0 < (y189.length : Int) then (if 0 ≤ (rd y189 0) then (if (rd y189 0) < (y185.length : Int) then (hinterlandref17_far.l0 k a3 (y185.set ((rd y189 0) : Int).toNat true) y189 1 a0_0 a0_1 l0_2 l0_3) else (none)) else (none)) else (none))))) else (none)) else (none)) = some r:=h
 clear h
 obtain ⟨ji5,hji5⟩ : ∃ j_ : Int,(wrap64 (4 * (l0_2.length : Int))) = j_:=⟨_,rfl⟩
 replace H : (if 0 ≤ (ji5) then (if (ji5 : Int).toNat ≤ 281474976710656 then ((some (List.replicate (ji5 : Int).toNat false : List Bool)).bind fun y185 => ((hinterlandref17_beyond.f a0_0 a0_1 l0_2 l0_3 a1 a2).bind fun t188 => ((some (([wrap64 ((wrap64 (4 * t188)) + (Int.tmod (wrap64 (a2 + 2)) 4))] : List Int) : List Int)).bind fun y189 => (if 0 < (y189.length : Int) then (if 0 ≤ (rd y189 0) then (if (rd y189 0) < (y185.length : Int) then (hinterlandref17_far.l0 k a3 (y185.set ((rd y189 0) : Int).toNat true) y189 1 a0_0 a0_1 l0_2 l0_3) else (none)) else (none)) else (none))))) else (none)) else (none)) = some r:=by first|(rw [hji5] at H;exact H)|(simp only [hji5] at H ⊢;exact H)
 have hji5w : (IntKind.i64.wrap (4 * (l0_2.length : Int))) = ji5:=(i64_w _).trans hji5
 replace H:=ifp_ H;obtain ⟨c6,H⟩:=H
 have c6b0:=eq_true c6
 have c6b1 : decide (0 ≤ (ji5)) = true:=decide_eq_true c6
 clear c6
 replace H:=ifp_ H;obtain ⟨c7,H⟩:=H
 have c7b0:=eq_true c7
 have c7b1 : decide ((ji5 : Int).toNat ≤ 281474976710656) = true:=decide_eq_true c7
 clear c7
 obtain ⟨y185,hy185⟩ : ∃ y_ : List Bool,y_ = (List.replicate (ji5 : Int).toNat false):=⟨_,rfl⟩
 replace H : ((hinterlandref17_beyond.f a0_0 a0_1 l0_2 l0_3 a1 a2).bind fun t188 => ((some (([wrap64 ((wrap64 (4 * t188)) + (Int.tmod (wrap64 (a2 + 2)) 4))] : List Int) : List Int)).bind fun y189 => (if 0 < (y189.length : Int) then (if 0 ≤ (rd y189 0) then (if (rd y189 0) < (y185.length : Int) then (hinterlandref17_far.l0 k a3 (y185.set ((rd y189 0) : Int).toNat true) y189 1 a0_0 a0_1 l0_2 l0_3) else (none)) else (none)) else (none)))) = some r:=by first|(rw [hy185];with_reducible exact H)|(have H2_:=(Option.bind_some _ _).symm.trans H;rw [hy185];with_reducible exact H2_)|(have H2_:=(Option.bind_some _ _).symm.trans H;with_reducible exact H2_)|with_reducible exact H|(rw [hy185];exact H)|exact H
 have Ny185:=Aside0.mk hy185
 clear hy185
 replace H:=Option.bind_eq_some_iff.mp H
 obtain ⟨t188,A80,H⟩:=H
 replace H : ((some (([wrap64 ((wrap64 (4 * t188)) + (Int.tmod (wrap64 (a2 + 2)) 4))] : List Int) : List Int)).bind fun y189 => (if 0 < (y189.length : Int) then (if 0 ≤ (rd y189 0) then (if (rd y189 0) < (y185.length : Int) then (hinterlandref17_far.l0 k a3 (y185.set ((rd y189 0) : Int).toNat true) y189 1 a0_0 a0_1 l0_2 l0_3) else (none)) else (none)) else (none))) = some r:=H
 have A8:=Aside0.mk A80
 clear A80
 obtain ⟨y189,hy189⟩ : ∃ y_ : List Int,y_ = (([wrap64 ((wrap64 (4 * t188)) + (Int.tmod (wrap64 (a2 + 2)) 4))] : List Int)):=⟨_,rfl⟩
 replace H : (if 0 < (y189.length : Int) then (if 0 ≤ (rd y189 0) then (if (rd y189 0) < (y185.length : Int) then (hinterlandref17_far.l0 k a3 (y185.set ((rd y189 0) : Int).toNat true) y189 1 a0_0 a0_1 l0_2 l0_3) else (none)) else (none)) else (none)) = some r:=by first|(rw [hy189];with_reducible exact H)|(have H2_:=(Option.bind_some _ _).symm.trans H;rw [hy189];with_reducible exact H2_)|(have H2_:=(Option.bind_some _ _).symm.trans H;with_reducible exact H2_)|with_reducible exact H|(rw [hy189];exact H)|exact H
 have Ny189:=Aside0.mk hy189
 clear hy189
 replace H:=ifp_ H;obtain ⟨c9,H⟩:=H
 have c9b0 : decide (0 < (y189.length : Int)) = true:=decide_eq_true c9
 have c9b1 : decide (0 < y189.length) = true:=decide_eq_true (by omega)
 clear c9
 replace H:=ifp_ H;obtain ⟨c10,H⟩:=H
 have c10b0 : decide (0 ≤ (rd y189 0)) = true:=decide_eq_true c10
 clear c10
 replace H:=ifp_ H;obtain ⟨c11,H⟩:=H
 have c11b0 : decide ((rd y189 0) < (y185.length : Int)) = true:=decide_eq_true c11
 clear c11
 obtain ⟨y193,hy193⟩ : ∃ y_ : List Bool,y_ = (y185.set ((rd y189 0) : Int).toNat true):=⟨_,rfl⟩
 replace H : (hinterlandref17_far.l0 k a3 y193 y189 1 a0_0 a0_1 l0_2 l0_3) = some r:=by first|(rw [hy193];with_reducible exact H)|(have H2_:=(Option.bind_some _ _).symm.trans H;rw [hy193];with_reducible exact H2_)|(have H2_:=(Option.bind_some _ _).symm.trans H;with_reducible exact H2_)|with_reducible exact H|(rw [hy193];exact H)|exact H
 have Ny193:=Aside0.mk hy193
 clear hy193
 have H':=Aside0.mk H
 clear H
 go_enter Try.func64,Try.ntmps64
 go_wp2_with (first|((with_reducible refine gate_dst (N:=4) rfl ?_);refine box_ev (N:=4) (cs:=#[.int .i64 a0_0,.int .i64 a0_1,.slice A0_2 l0_2.length c0_2,.slice A0_3 l0_3.length c0_3]) (t:=24) ?_;intro gb184 hg w13 hbox hb;have BK184:=Aside0.mk (hbox);have GW184 : Aside0 (w.heap.size ≤ gb184):=gsz hg;have GE184:=GW184;replace HB:=hbs hb;clear hb hbox hg;obtain ⟨_,_,_,_,_,_,_,_⟩:=cells4 BK184.out)|((with_reducible refine gate_dst (N:=21) rfl ?_);refine Kd.R_make Kd.bool _ 4 rfl (N:=21) rfl 102 _ _ rfl ji5 rfl rfl Try.underlying102 (.bool false) 1 info4 rfl (by decide) (by omega) false (ok:=fun _ => True) (okp:=fun _ => True) rfl (fun _ hk => hk) trivial (of_decide_eq_true (by first|(with_reducible assumption)|assumption)) (Nat.le_trans (Nat.mul_le_mul_right _ (of_decide_eq_true (by first|(with_reducible assumption)|assumption) : ji5.toNat ≤ 281474976710656)) (by omega)) (Below.refl _ _) (Nat.le_refl _) ?_;intro v186 w15 ho16 hb hg_ hnew_;clear hg_ hnew_;(first|rw [← Ny185.out] at ho16|(simp only [Int.reduceToNat] at ho16;rw [← Ny185.out] at ho16));have HO187:=rlo ho16;replace BK184:=bkb BK184 hb;replace HB:=hbs hb;clear hb ho16;obtain ⟨_,_,_,_,_,_,_,_⟩:=cells4 BK184.out)|((with_reducible refine gate_callee (f:=67) rfl ?_);refine goesL_ (some 25) rfl rfl Try.func67 (by kernel_rfl) rfl #[.agg #[.int .i64 a0_0,.int .i64 a0_1,.slice A0_2 l0_2.length c0_2,.slice A0_3 l0_3.length c0_3],.int .i64 a1,.int .i64 a2] rfl ga_ ?_;(with_reducible refine (hinterlandref17_beyond.calls a0_0 a0_1 _ _ l0_2 _ _ l0_3 a1 a2 t188 _ ?_ ?_ ?_ ?_ A8.out).mono ?_);exact cq HR0_2;exact HC0_2.out;exact cq HR0_3;exact HC0_3.out;rintro e w18 ⟨rfl,hb⟩;refine ⟨_,rfl,?_⟩;replace HO187:=rbw HO187 hb;replace BK184:=bkb BK184 hb;replace HB:=hbs hb)|((with_reducible refine gate_dst (N:=31) rfl ?_);refine Kd.R_lit (Kd.int .i64) _ 3 ?hg (N:=31) ?hd (xs:=([wrap64 ((wrap64 (4 * t188)) + (Int.tmod (wrap64 (a2 + 2)) 4))] : List Int)) (inner:=[.int .i64 (wrap64 ((wrap64 (4 * t188)) + (Int.tmod (wrap64 (a2 + 2)) 4)))]) (ok:=fun _ => True) (okp:=fun _ => True) ?hr ?hp (fun _ hk => hk) trivial (Below.refl _ _) (Nat.le_refl _) (by simp) ?_;(case hd => rfl);(case hg => rfl);(case hr => first|(go_simp;done)|(go_simp;rfl));(case hp => exact (Reps.one (show Kd.M (Kd.int .i64) _ _ _ (wrap64 ((wrap64 (4 * t188)) + (Int.tmod (wrap64 (a2 + 2)) 4))) [.int .i64 (wrap64 ((wrap64 (4 * t188)) + (Int.tmod (wrap64 (a2 + 2)) 4)))] from rfl) (Reps.none _ _)));intro v190 w19 ho20 hb hg_ hnew_;clear hg_ hnew_;(first|rw [← Ny189.out] at ho20|(simp only [Int.reduceToNat] at ho20;rw [← Ny189.out] at ho20));have HO191:=rlo ho20;replace HO187:=rbw HO187 hb;replace BK184:=bkb BK184 hb;replace HB:=hbs hb;clear hb ho20;obtain ⟨Ao21,co21,eo21⟩:=Kd.R_slice HO191.out;subst eo21;have p192 : 0 ≤ (0 : Int):=(by omega);have q192 : 0 < (y189.length : Int):=of_decide_eq_true (by first|(with_reducible assumption)|assumption);obtain ⟨ad192,e192,hx192_0⟩:=Kd.at_int (Kd.R_reads' HO191.out).2.2 0 p192 q192;cases e192;have qi192 : (0 < y189.length) = True:=eq_true (by omega);(try rw [show ((0 : Int)).toNat = 0 from rfl] at hx192_0);(try rw [Addr.add_zero'] at hx192_0);replace p192:=eq_true p192;replace q192:=eq_true q192;have p12 : 0 ≤ ((rd y189 0) : Int):=of_decide_eq_true (by first|(with_reducible assumption)|assumption);have q12 : ((rd y189 0) : Int) < ((y185.length : Int) : Int):=of_decide_eq_true (by first|(with_reducible assumption)|assumption);obtain ⟨go12,co12,eo12,gb12,gl12,cl12,HG12⟩:=Kd.R_form HO187.out (by omega);(first|cases eo12|(injection eo12 with ea_ en_ ec_;(first|subst ea_|(injection ea_ with ea_;subst ea_));subst ec_;clear en_));have GB12:=Aside0.mk gb12;have GG12:=Aside0.mk HG12;clear gb12 gl12 HG12;obtain ⟨hx12_0,hf12_0⟩:=Kd.R_celln false HO187.out ((rd y189 0) : Int) p12 q12;replace p12:=eq_true p12;replace q12:=eq_true q12;obtain ⟨hy22_,hz22_⟩:=Kd.R_celln false HO187.out ((rd y189 0) : Int) (of_decide_eq_true (by first|(with_reducible assumption)|assumption)) (of_decide_eq_true (by first|(with_reducible assumption)|assumption));have HP22:=Kd.R_putg HO187.out ((rd y189 0) : Int) true)|((with_reducible refine gate_store (t:=4) (p:=36) rfl ?_);refine store_event (t:=4) (p:=36) (v:=?vo_w23) (w1:=(w19.setCell ⟨go12,((rd y189 0) : Int).toNat,none⟩ (.bool true))) ?hg ?ho ?hn ?hr ?_;(case ho => rfl);(case hg => rfl);(case hn => rfl);(case hr => first|(go_simp;done)|(go_simp;rfl));intro w23 hw;have hg : w19.grownBy w23 (some go12):=(by rw [hw];exact HP22.2);have hp_ : Kd.R Kd.bool 4 w23 w.heap.size (fun _ => True) (.slice (some ⟨go12,0,none⟩) y185.length co12) y193:=(by rw [hw,Ny193.out];exact HP22.1);clear HP22;replace BK184:=Aside0.mk (blk_grown (blk_up BK184.out) hg (Kd.R_ne HO187.out BK184.out (by decide)));replace HO191:=Aside0.mk (Kd.R_over' (v:=(.slice (some ⟨go12,0,none⟩) y185.length co12)) (Kd.R_up HO191.out) (Kd.R_typed HO187.out) (by decide) hg);replace HO187:=Aside0.mk (hp_);replace HB:=Aside0.mk ((by rw [hw];exact below_set (HB.out) GB12.out : Below w.heap.size w w23));clear hg hw hp_))
 go_loopg [10,11] k (fun kq v10 v11 w' => ∃ (x9_1 : List Bool) (x10_1 : List Int) (x11_1 : Int),v11 = .int .i64 x11_1 ∧ Aside0 (hinterlandref17_far.l0 kq a3 x9_1 x10_1 x11_1 a0_0 a0_1 l0_2 l0_3 = some r) ∧ Aside0 (kq ≤ k) ∧ Aside0 (Kd.R Kd.bool 4 w' w.heap.size (fun _ => True) (.slice (some ⟨go12,0,none⟩) y185.length co12) x9_1) ∧ Aside0 (Kd.R (Kd.int .i64) 3 w' w.heap.size (fun _ => True) v10 x10_1) ∧ Aside0 (w'.heap[gb184]? = some (.cells #[.int .i64 a0_0,.int .i64 a0_1,(.slice A0_2 l0_2.length c0_2),(.slice A0_3 l0_3.length c0_3)] 24 (0,0))) ∧ Aside0 (Below w.heap.size w w'))
 case atStart => exact ⟨(y193),(y189),(1),(by first|rfl|(simp;done)|(simp [*];done)),H',⟨Nat.le_refl _⟩,⟨Kd.R_up HO187.out⟩,⟨Kd.R_up HO191.out⟩,⟨blk_up BK184.out⟩,⟨hb_⟩⟩
 case round =>
  clear H'
  obtain ⟨x9_1,x10_1,x11_1,rfl,HA,HK1,HO_9,HO_10,BK184,HB⟩:=hrel
  have hl9_1:=(Kd.R_reads' HO_9.out).1
  rw [hl9_1] at HO_9
  (try simp only [hl9_1])
  (try simp only [hl9_1] at BK184)
  (try simp only [hl9_1] at HO_10)
  cases gk with
  | zero => exact absurd HA.out (by simp [hinterlandref17_far.l0])
  | succ k1 =>
   have H:=HA.out
   clear HA
   simp only [hinterlandref17_far.l0] at H
   by_cases c24 : (x10_1.length : Int) > 0
   rotate_left
   ·rw [if_neg c24] at H
    have c24b0 : decide (0 < (x10_1.length : Int)) = false:=decide_eq_false c24
    have c24b1 : decide (0 < x10_1.length) = false:=decide_eq_false (by omega)
    clear c24
    obtain rfl:=Option.some.inj H
    obtain ⟨Ao54,co54,eo54⟩:=Kd.R_slice HO_10.out
    subst eo54
    go_wp2
    go_ret
    exact ⟨by first|rfl|(simp [errW_none,errW_some] <;> rfl)|(simp only [← hji5];first|rfl|(simp [errW_none,errW_some] <;> rfl))|(simp [*,errW_none,errW_some] <;> rfl),hb_⟩
   rw [if_pos c24] at H
   have c24b0 : decide (0 < (x10_1.length : Int)) = true:=decide_eq_true c24
   have c24b1 : decide (0 < x10_1.length) = true:=decide_eq_true (by omega)
   clear c24
   have H':=Aside0.mk H
   clear H
   obtain ⟨Ao25,co25,eo25⟩:=Kd.R_slice HO_10.out
   subst eo25
   go_wp2
   go_loopg [12,13] k1 (fun kq v12 v13 w' => ∃ (x9_2 : List Bool) (x12_2 : List Int) (x13_2 : Int),v13 = .int .i64 x13_2 ∧ Aside0 (hinterlandref17_far.l1 kq a3 x9_2 x10_1 x11_1 x12_2 x13_2 a0_0 a0_1 l0_2 l0_3 = some r) ∧ Aside0 (kq ≤ k1) ∧ Aside0 (Kd.R Kd.bool 4 w' w.heap.size (fun _ => True) (.slice (some ⟨go12,0,none⟩) x9_1.length co12) x9_2) ∧ Aside0 (Kd.R (Kd.int .i64) 3 w' w.heap.size (fun k_ => some k_ ≠ (v12 : Value).ownBlock) (.slice Ao25 x10_1.length co25) x10_1) ∧ Aside0 (Kd.R (Kd.int .i64) 3 w' w.heap.size (fun k_ => some k_ ≠ ((.slice Ao25 x10_1.length co25) : Value).ownBlock) v12 x12_2) ∧ Aside0 (w'.heap[gb184]? = some (.cells #[.int .i64 a0_0,.int .i64 a0_1,(.slice A0_2 l0_2.length c0_2),(.slice A0_3 l0_3.length c0_3)] 24 (0,0))) ∧ Aside0 (Below w.heap.size w w'))
   case atStart => exact ⟨(x9_1),(([] : List Int)),(0),(by first|rfl|(simp;done)|(simp [*];done)),H',⟨Nat.le_refl _⟩,⟨by (try simp only [hl9_1]);(with_reducible repeat (first|apply Kd.R_alloc|apply Kd.R_drewN|apply Kd.R_drew));exact HO_9.out⟩,⟨by (try simp only [hl9_1]);(with_reducible repeat (first|apply Kd.R_alloc|apply Kd.R_drewN|apply Kd.R_drew));exact Kd.R_mono HO_10.out (fun _ hk => (by simp [Value.ownBlock]))⟩,⟨by (try simp only [hl9_1]);first|exact Kd.R_nil _ _ _ _ _|exact Kd.N_nil _ _ _ _ _|exact Kd.V_nil _ _ _ _ _|exact Kd.Q_nil _ _ _ _ _|exact Kd.S_nil _ _ _ _ _⟩,⟨by (try simp only [hl9_1]);(with_reducible repeat (first|refine blk_drewN ?_ _|refine blk_drew ?_|refine blk_alloc ?_ _));exact BK184.out⟩,⟨hb_⟩⟩
   case round =>
    clear H'
    obtain ⟨x9_2,x12_2,x13_2,rfl,HA,HK2,HO_9,HO_10,HO_12,BK184,HB⟩:=hrel
    have hl9_2:=(Kd.R_reads' HO_9.out).1
    rw [hl9_2] at HO_9
    (try simp only [hl9_2])
    (try simp only [hl9_2] at BK184)
    (try simp only [hl9_2] at HO_10)
    (try simp only [hl9_2] at HO_12)
    cases gk with
    | zero => exact absurd HA.out (by simp [hinterlandref17_far.l1])
    | succ k2 =>
     have H:=HA.out
     clear HA
     simp only [hinterlandref17_far.l1] at H
     by_cases c26 : x13_2 < (x10_1.length : Int)
     rotate_left
     ·rw [if_neg c26] at H
      have c26b0 : decide (x13_2 < (x10_1.length : Int)) = false:=decide_eq_false c26
      clear c26
      have H':=Aside0.mk H
      clear H
      go_wp2
      (try simp only [← hl9_1,← hl9_2])
      go_roundg k2
      case measure => have:=HK1.out;have:=HK2.out;omega
      case rel => exact ⟨(x9_2),(x12_2),(wrap64 (x11_1 + 1)),(by first|rfl|(simp;done)|(simp [*];done)),H',⟨by have:=HK1.out;have:=HK2.out;omega⟩,⟨by (try simp only [hl9_1]);(try simp only [hl9_2]);(with_reducible repeat (first|apply Kd.R_alloc|apply Kd.R_drewN|apply Kd.R_drew));exact HO_9.out⟩,⟨by (try simp only [hl9_1]);(try simp only [hl9_2]);(with_reducible repeat (first|apply Kd.R_alloc|apply Kd.R_drewN|apply Kd.R_drew));exact Kd.R_mono HO_12.out (fun _ hk => trivial)⟩,⟨by (try simp only [hl9_1]);(try simp only [hl9_2]);(with_reducible repeat (first|refine blk_drewN ?_ _|refine blk_drew ?_|refine blk_alloc ?_ _));exact BK184.out⟩,⟨hb_⟩⟩
     rw [if_pos c26] at H
     have c26b0 : decide (x13_2 < (x10_1.length : Int)) = true:=decide_eq_true c26
     clear c26
     replace H:=ifp_ H;obtain ⟨c27,H⟩:=H
     have c27b0 : decide (0 ≤ x13_2) = true:=decide_eq_true c27
     clear c27
     by_cases c28 : (wrap64 (Int.tdiv (rd x10_1 x13_2) 4)) = a3
     ·rw [if_pos c28] at H
      have c28b0:=bqt c28
      have c28b1:=bnf c28
      clear c28
      obtain rfl:=Option.some.inj H
      have p194 : 0 ≤ (x13_2 : Int):=of_decide_eq_true (by first|(with_reducible assumption)|assumption)
      have q194 : x13_2 < (x10_1.length : Int):=of_decide_eq_true (by first|(with_reducible assumption)|assumption)
      obtain ⟨ad194,e194,hx194_0⟩:=Kd.at_int (Kd.R_reads' HO_10.out).2.2 x13_2 p194 q194
      cases e194
      replace p194:=eq_true p194
      replace q194:=eq_true q194
      go_wp2
      go_ret
      exact ⟨by first|rfl|(simp [errW_none,errW_some] <;> rfl)|(simp only [← hji5];first|rfl|(simp [errW_none,errW_some] <;> rfl))|(simp [*,errW_none,errW_some] <;> rfl),hb_⟩
     rw [if_neg c28] at H
     have c28b0:=bqf c28
     have c28b1:=bnt c28
     replace H:=Option.bind_eq_some_iff.mp H
     obtain ⟨t197,A290,H⟩:=H
     replace H : (hinterlandref17_far.l2 k2 a3 x9_2 x10_1 x11_1 x12_2 x13_2 t197 0 a0_0 a0_1 l0_2 l0_3) = some r:=H
     have A29:=Aside0.mk A290
     clear A290
     have H':=Aside0.mk H
     clear H
     have p194 : 0 ≤ (x13_2 : Int):=of_decide_eq_true (by first|(with_reducible assumption)|assumption)
     have q194 : x13_2 < (x10_1.length : Int):=of_decide_eq_true (by first|(with_reducible assumption)|assumption)
     obtain ⟨ad194,e194,hx194_0⟩:=Kd.at_int (Kd.R_reads' HO_10.out).2.2 x13_2 p194 q194
     cases e194
     replace p194:=eq_true p194
     replace q194:=eq_true q194
     try go_wp2
     replace HO_9:=Aside0.mk (Kd.R_drew HO_9.out)
     replace HO_10:=Aside0.mk (Kd.R_drew HO_10.out)
     replace HO_12:=Aside0.mk (Kd.R_drew HO_12.out)
     replace BK184:=Aside0.mk (blk_drew BK184.out)
     replace HB:=Aside0.mk (below_drew1 HB.out)
     have p195 : 0 ≤ (x13_2 : Int):=of_decide_eq_true (by first|(with_reducible assumption)|assumption)
     have q195 : x13_2 < (x10_1.length : Int):=of_decide_eq_true (by first|(with_reducible assumption)|assumption)
     obtain ⟨ad195,e195,hx195_0⟩:=Kd.at_int (Kd.R_reads' HO_10.out).2.2 x13_2 p195 q195
     obtain rfl : ad194 = ad195:=(by injection e195)
     replace p195:=eq_true p195
     replace q195:=eq_true q195
     have p196 : 0 ≤ (x13_2 : Int):=of_decide_eq_true (by first|(with_reducible assumption)|assumption)
     have q196 : x13_2 < (x10_1.length : Int):=of_decide_eq_true (by first|(with_reducible assumption)|assumption)
     obtain ⟨ad196,e196,hx196_0⟩:=Kd.at_int (Kd.R_reads' HO_10.out).2.2 x13_2 p196 q196
     obtain rfl : ad194 = ad196:=(by injection e196)
     replace p196:=eq_true p196
     replace q196:=eq_true q196
     refine start_ (n:=13) (S:=fun w' => w'.cell? ⟨gb184,0,none⟩ = some (.int .i64 a0_0) ∧ w'.cell? ⟨gb184,1,none⟩ = some (.int .i64 a0_1) ∧ w'.cell? ⟨gb184,2,none⟩ = some (.slice A0_2 l0_2.length c0_2) ∧ w'.cell? ⟨gb184,3,none⟩ = some (.slice A0_3 l0_3.length c0_3) ∧ w'.cell? (ad194.add (x13_2).toNat) = some (.int .i64 (rd x10_1 x13_2)) ∧ w'.cell? (ad194.add (x13_2).toNat) = some (.int .i64 (rd x10_1 x13_2))) (ds:=[]) #[false,false,false,false,false,false,false,false,false,false,false,false,false] (by kernel_rfl) rfl rfl ⟨(blk_cell BK184.out 0).trans rfl,(blk_cell BK184.out 1).trans rfl,(blk_cell BK184.out 2).trans rfl,(blk_cell BK184.out 3).trans rfl,hx195_0,hx196_0⟩ (fun hHeld => ?_);refine with_tabW hinterlandref17_far.tab13 hinterlandref17_far.bits13 (fun HT_ HW_ => ?_)
     generalize wr.drew = w30 at HO_9 HO_10 HO_12 BK184 HB hx195_0 hx196_0 hHeld ⊢
     refine pI 1 (some 57) ?_
     refine pI 2 (some 58) ?_
     refine pI 3 (some 59) ?_
     refine pI 6 (some 62) ?_
     refine pI 7 (some 63) ?_
     refine pI 8 (some 64) ?_
     refine tI6 0 (some 56) hHeld ?_
     refine tI6 4 (some 60) hHeld ?_
     refine pI 5 (some 61) ?_
     refine tI6 9 (some 65) hHeld ?_
     refine pI 10 (some 66) ?_
     refine oI 11 (some 67) (fun K hK => ?_)
     refine goes_ Try.func63 (by kernel_rfl) rfl #[.agg #[.int .i64 a0_0,.int .i64 a0_1,.slice A0_2 l0_2.length c0_2,.slice A0_3 l0_3.length c0_3],.int .i64 (wrap64 (Int.tdiv (rd x10_1 x13_2) 4)),.int .i64 (Int.tmod (rd x10_1 x13_2) 4)] (by rfl) rfl rfl ga_ ?_
     with_reducible refine (hinterlandref17_leave.calls k2 a0_0 a0_1 _ _ l0_2 _ _ l0_3 (wrap64 (Int.tdiv (rd x10_1 x13_2) 4)) (Int.tmod (rd x10_1 x13_2) 4) t197 _ ?side1 ?side2 ?side3 ?side4 A29.out).mono ?_
     (case side1 => exact cq HR0_2)
     (case side2 => exact HC0_2.out)
     (case side3 => exact cq HR0_3)
     (case side4 => exact HC0_3.out)
     rintro e w31 ⟨v198,rfl,ho0,hb⟩
     have HS4_:=(hb.cell (World.block_lt_of_cell? _ _ (hHeld.2.2.2.2.1))).trans (hHeld.2.2.2.2.1)
     have HS5_:=(hb.cell (World.block_lt_of_cell? _ _ (hHeld.2.2.2.2.2))).trans (hHeld.2.2.2.2.2)
     refine ⟨_,rfl,?_⟩
     have n0_:=rbw HO_9 hb
     have n1_:=Aside0.mk (Kd.R_elder' (Kd.R_up HO_10.out) (Kd.R_base ho0) hb)
     have n2_:=Aside0.mk (Kd.R_elder' (Kd.R_up HO_12.out) (Kd.R_base ho0) hb)
     have n3_:=Aside0.mk (Kd.R_lower (Kd.R_new' (Kd.R_new' ho0 (Kd.R_lt (Kd.R_up HO_10.out))) (Kd.R_lt (Kd.R_up HO_12.out))) (below_size (hb_)))
     have n4_:=bkb BK184 hb
     have n5_:=Aside0.mk (below_step (hb_) hb)
     clear HO_9
     clear HO_10
     clear HO_12
     clear BK184
     clear HB
     have HO_9:=n0_
     have HO_10:=n1_
     have HO_12:=n2_
     have HO199:=n3_
     have BK184:=n4_
     have HB:=n5_
     clear n0_ n1_ n2_ n3_ n4_ n5_
     (try clear hb)
     (try clear hb2)
     (try clear hk)
     (try clear hi)
     (try clear ho0)
     refine hK.out _ _ ⟨(blk_cell BK184.out 0).trans rfl,(blk_cell BK184.out 1).trans rfl,(blk_cell BK184.out 2).trans rfl,(blk_cell BK184.out 3).trans rfl,HS4_,HS5_⟩ (fun hHeld => ?_)
     clear hK K
     refine norm_ (a':=?_) ?_ ?_
     rotate_left
     ·show Act.put _ (some 67) _ = _
      simp only [Act.put,List.setIfInBounds_toArray,List.set_cons_zero,List.set_cons_succ,i64_w,i32_w]
      rfl
     refine pI 12 (some 14) ?_
     refine done_ (done_of HT_.out (by kernel_rfl)) ?_
     try go_wp2
     go_loopg [12,15] k2 (fun kq v12 v15 w' => ∃ (x9_3 : List Bool) (x12_3 : List Int) (x15_3 : Int),v15 = .int .i64 x15_3 ∧ Aside0 (hinterlandref17_far.l2 kq a3 x9_3 x10_1 x11_1 x12_3 x13_2 t197 x15_3 a0_0 a0_1 l0_2 l0_3 = some r) ∧ Aside0 (kq ≤ k2) ∧ Aside0 (Kd.R Kd.bool 4 w' w.heap.size (fun _ => True) (.slice (some ⟨go12,0,none⟩) x9_2.length co12) x9_3) ∧ Aside0 (Kd.R (Kd.int .i64) 3 w' w.heap.size (fun k_ => some k_ ≠ (v12 : Value).ownBlock ∧ some k_ ≠ (v198 : Value).ownBlock) (.slice (some ad194) x10_1.length co25) x10_1) ∧ Aside0 (Kd.R (Kd.int .i64) 3 w' w.heap.size (fun k_ => some k_ ≠ ((.slice (some ad194) x10_1.length co25) : Value).ownBlock ∧ some k_ ≠ (v198 : Value).ownBlock) v12 x12_3) ∧ Aside0 (Kd.R (Kd.int .i64) 3 w' w.heap.size (fun k_ => some k_ ≠ ((.slice (some ad194) x10_1.length co25) : Value).ownBlock ∧ some k_ ≠ (v12 : Value).ownBlock) v198 t197) ∧ Aside0 (w'.heap[gb184]? = some (.cells #[.int .i64 a0_0,.int .i64 a0_1,(.slice A0_2 l0_2.length c0_2),(.slice A0_3 l0_3.length c0_3)] 24 (0,0))) ∧ Aside0 (Below w.heap.size w w'))
     case atStart => exact ⟨(x9_2),(x12_2),(0),(by first|rfl|(simp;done)|(simp [*];done)),H',⟨Nat.le_refl _⟩,⟨by (try simp only [hl9_1]);(try simp only [hl9_2]);(with_reducible repeat (first|apply Kd.R_alloc|apply Kd.R_drewN|apply Kd.R_drew));exact HO_9.out⟩,⟨by (try simp only [hl9_1]);(try simp only [hl9_2]);(with_reducible repeat (first|apply Kd.R_alloc|apply Kd.R_drewN|apply Kd.R_drew));exact HO_10.out⟩,⟨by (try simp only [hl9_1]);(try simp only [hl9_2]);(with_reducible repeat (first|apply Kd.R_alloc|apply Kd.R_drewN|apply Kd.R_drew));exact HO_12.out⟩,⟨by (try simp only [hl9_1]);(try simp only [hl9_2]);(with_reducible repeat (first|apply Kd.R_alloc|apply Kd.R_drewN|apply Kd.R_drew));exact Kd.R_mono HO199.out (fun _ hk => ⟨hk.1.2,hk.2⟩)⟩,⟨by (try simp only [hl9_1]);(try simp only [hl9_2]);(with_reducible repeat (first|refine blk_drewN ?_ _|refine blk_drew ?_|refine blk_alloc ?_ _));exact BK184.out⟩,⟨hb_⟩⟩
     case round =>
      clear H'
      obtain ⟨x9_3,x12_3,x15_3,rfl,HA,HK3,HO_9,HO_10,HO_12,HO_14,BK184,HB⟩:=hrel
      have hl9_3:=(Kd.R_reads' HO_9.out).1
      rw [hl9_3] at HO_9
      (try simp only [hl9_3])
      (try simp only [hl9_3] at BK184)
      (try simp only [hl9_3] at HO_10)
      (try simp only [hl9_3] at HO_12)
      (try simp only [hl9_3] at HO_14)
      cases gk with
      | zero => exact absurd HA.out (by simp [hinterlandref17_far.l2])
      | succ k3 =>
       have H:=HA.out
       clear HA
       simp only [hinterlandref17_far.l2] at H
       by_cases c32 : x15_3 < (t197.length : Int)
       rotate_left
       ·rw [if_neg c32] at H
        have c32b0 : decide (x15_3 < (t197.length : Int)) = false:=decide_eq_false c32
        clear c32
        have H':=Aside0.mk H
        clear H
        obtain ⟨Ao53,co53,eo53⟩:=Kd.R_slice HO_14.out
        subst eo53
        go_wp2
        (try simp only [← hl9_2,← hl9_3])
        go_roundg k3
        case measure => have:=HK1.out;have:=HK2.out;have:=HK3.out;omega
        case rel => exact ⟨(x9_3),(x12_3),(wrap64 (x13_2 + 1)),(by first|rfl|(simp;done)|(simp [*];done)),H',⟨by have:=HK1.out;have:=HK2.out;have:=HK3.out;omega⟩,⟨by (try simp only [hl9_1]);(try simp only [hl9_2]);(try simp only [hl9_3]);(with_reducible repeat (first|apply Kd.R_alloc|apply Kd.R_drewN|apply Kd.R_drew));exact HO_9.out⟩,⟨by (try simp only [hl9_1]);(try simp only [hl9_2]);(try simp only [hl9_3]);(with_reducible repeat (first|apply Kd.R_alloc|apply Kd.R_drewN|apply Kd.R_drew));exact Kd.R_mono HO_10.out (fun _ hk => hk.1)⟩,⟨by (try simp only [hl9_1]);(try simp only [hl9_2]);(try simp only [hl9_3]);(with_reducible repeat (first|apply Kd.R_alloc|apply Kd.R_drewN|apply Kd.R_drew));exact Kd.R_mono HO_12.out (fun _ hk => hk.1)⟩,⟨by (try simp only [hl9_1]);(try simp only [hl9_2]);(try simp only [hl9_3]);(with_reducible repeat (first|refine blk_drewN ?_ _|refine blk_drew ?_|refine blk_alloc ?_ _));exact BK184.out⟩,⟨hb_⟩⟩
       rw [if_pos c32] at H
       have c32b0 : decide (x15_3 < (t197.length : Int)) = true:=decide_eq_true c32
       clear c32
       replace H:=ifp_ H;obtain ⟨c33,H⟩:=H
       have c33b0 : decide (0 ≤ x13_2) = true:=decide_eq_true c33
       clear c33
       replace H:=ifp_ H;obtain ⟨c34,H⟩:=H
       have c34b0 : decide (x13_2 < (x10_1.length : Int)) = true:=decide_eq_true c34
       clear c34
       replace H:=ifp_ H;obtain ⟨c35,H⟩:=H
       have c35b0 : decide (0 ≤ x15_3) = true:=decide_eq_true c35
       clear c35
       replace H:=Option.bind_eq_some_iff.mp H
       obtain ⟨t202,A360,H⟩:=H
       replace H : (if 0 ≤ (wrap64 ((wrap64 (4 * t202)) + (Int.tmod (wrap64 ((rd t197 x15_3) + 2)) 4))) then (if (wrap64 ((wrap64 (4 * t202)) + (Int.tmod (wrap64 ((rd t197 x15_3) + 2)) 4))) < (x9_3.length : Int) then (if (rdOf false x9_3 (wrap64 ((wrap64 (4 * t202)) + (Int.tmod (wrap64 ((rd t197 x15_3) + 2)) 4))) = true) then (hinterlandref17_far.l2 k3 a3 x9_3 x10_1 x11_1 x12_3 x13_2 t197 (wrap64 (x15_3 + 1)) a0_0 a0_1 l0_2 l0_3) else (if x12_3.length < 17592186044416 then (hinterlandref17_far.l2 k3 a3 (x9_3.set ((wrap64 ((wrap64 (4 * t202)) + (Int.tmod (wrap64 ((rd t197 x15_3) + 2)) 4))) : Int).toNat true) x10_1 x11_1 (x12_3 ++ [wrap64 ((wrap64 (4 * t202)) + (Int.tmod (wrap64 ((rd t197 x15_3) + 2)) 4))]) x13_2 t197 (wrap64 (x15_3 + 1)) a0_0 a0_1 l0_2 l0_3) else (none))) else (none)) else (none)) = some r:=H
       have A36:=Aside0.mk A360
       clear A360
       obtain ⟨ji37,hji37⟩ : ∃ j_ : Int,(wrap64 ((wrap64 (4 * t202)) + (Int.tmod (wrap64 ((rd t197 x15_3) + 2)) 4))) = j_:=⟨_,rfl⟩
       replace H : (if 0 ≤ (ji37) then (if (ji37) < (x9_3.length : Int) then (if (rdOf false x9_3 (ji37) = true) then (hinterlandref17_far.l2 k3 a3 x9_3 x10_1 x11_1 x12_3 x13_2 t197 (wrap64 (x15_3 + 1)) a0_0 a0_1 l0_2 l0_3) else (if x12_3.length < 17592186044416 then (hinterlandref17_far.l2 k3 a3 (x9_3.set ((ji37) : Int).toNat true) x10_1 x11_1 (x12_3 ++ [ji37]) x13_2 t197 (wrap64 (x15_3 + 1)) a0_0 a0_1 l0_2 l0_3) else (none))) else (none)) else (none)) = some r:=by first|(rw [hji37] at H;exact H)|(simp only [hji37] at H ⊢;exact H)
       (try rw [hji37] at A36)
       have hji37w : (IntKind.i64.wrap ((wrap64 (4 * t202)) + (Int.tmod (wrap64 ((rd t197 x15_3) + 2)) 4))) = ji37:=(i64_w _).trans hji37
       replace H:=ifp_ H;obtain ⟨c38,H⟩:=H
       have c38b0 : decide (0 ≤ (ji37)) = true:=decide_eq_true c38
       clear c38
       replace H:=ifp_ H;obtain ⟨c39,H⟩:=H
       have c39b0 : decide ((ji37) < (x9_3.length : Int)) = true:=decide_eq_true c39
       clear c39
       obtain ⟨bq40,hbq40⟩ : ∃ b_ : Bool,b_ = (rdOf false x9_3 (ji37)):=⟨_,rfl⟩
       replace H : (if (bq40 = true) then (hinterlandref17_far.l2 k3 a3 x9_3 x10_1 x11_1 x12_3 x13_2 t197 (wrap64 (x15_3 + 1)) a0_0 a0_1 l0_2 l0_3) else (if x12_3.length < 17592186044416 then (hinterlandref17_far.l2 k3 a3 (x9_3.set ((ji37) : Int).toNat true) x10_1 x11_1 (x12_3 ++ [ji37]) x13_2 t197 (wrap64 (x15_3 + 1)) a0_0 a0_1 l0_2 l0_3) else (none))) = some r:=by rw [← hbq40] at H;exact H
       have Nbq40:=Aside0.mk hbq40
       clear hbq40
       by_cases c41 : (bq40 = true)
       ·subst c41
        have H1 : (hinterlandref17_far.l2 k3 a3 x9_3 x10_1 x11_1 x12_3 x13_2 t197 (wrap64 (x15_3 + 1)) a0_0 a0_1 l0_2 l0_3) = some r:=by rw [if_pos rfl] at H;exact H
        clear H
        have H:=H1
        clear H1
        have H':=Aside0.mk H
        clear H
        obtain ⟨Ao42,co42,eo42⟩:=Kd.R_slice HO_14.out
        subst eo42
        try go_wp2
        replace HO_9:=Aside0.mk (Kd.R_drew HO_9.out)
        replace HO_10:=Aside0.mk (Kd.R_drew HO_10.out)
        replace HO_12:=Aside0.mk (Kd.R_drew HO_12.out)
        replace HO_14:=Aside0.mk (Kd.R_drew HO_14.out)
        replace BK184:=Aside0.mk (blk_drew BK184.out)
        replace HB:=Aside0.mk (below_drew1 HB.out)
        have p200 : 0 ≤ (x13_2 : Int):=of_decide_eq_true (by first|(with_reducible assumption)|assumption)
        have q200 : x13_2 < (x10_1.length : Int):=of_decide_eq_true (by first|(with_reducible assumption)|assumption)
        obtain ⟨ad200,e200,hx200_0⟩:=Kd.at_int (Kd.R_reads' HO_10.out).2.2 x13_2 p200 q200
        obtain rfl : ad194 = ad200:=(by injection e200)
        replace p200:=eq_true p200
        replace q200:=eq_true q200
        have p201 : 0 ≤ (x15_3 : Int):=of_decide_eq_true (by first|(with_reducible assumption)|assumption)
        have q201 : x15_3 < (t197.length : Int):=of_decide_eq_true (by first|(with_reducible assumption)|assumption)
        obtain ⟨ad201,e201,hx201_0⟩:=Kd.at_int (Kd.R_reads' HO_14.out).2.2 x15_3 p201 q201
        cases e201
        replace p201:=eq_true p201
        replace q201:=eq_true q201
        have p203 : 0 ≤ (x15_3 : Int):=of_decide_eq_true (by first|(with_reducible assumption)|assumption)
        have q203 : x15_3 < (t197.length : Int):=of_decide_eq_true (by first|(with_reducible assumption)|assumption)
        obtain ⟨ad203,e203,hx203_0⟩:=Kd.at_int (Kd.R_reads' HO_14.out).2.2 x15_3 p203 q203
        obtain rfl : ad201 = ad203:=(by injection e203)
        replace p203:=eq_true p203
        replace q203:=eq_true q203
        refine start_ (n:=20) (S:=fun w' => w'.cell? ⟨gb184,0,none⟩ = some (.int .i64 a0_0) ∧ w'.cell? ⟨gb184,1,none⟩ = some (.int .i64 a0_1) ∧ w'.cell? ⟨gb184,2,none⟩ = some (.slice A0_2 l0_2.length c0_2) ∧ w'.cell? ⟨gb184,3,none⟩ = some (.slice A0_3 l0_3.length c0_3) ∧ w'.cell? (ad194.add (x13_2).toNat) = some (.int .i64 (rd x10_1 x13_2)) ∧ w'.cell? (ad201.add (x15_3).toNat) = some (.int .i64 (rd t197 x15_3)) ∧ w'.cell? (ad201.add (x15_3).toNat) = some (.int .i64 (rd t197 x15_3))) (ds:=[]) #[false,false,false,false,false,false,false,false,false,false,false,false,false,false,false,false,false,false,false,false] (by kernel_rfl) rfl rfl ⟨(blk_cell BK184.out 0).trans rfl,(blk_cell BK184.out 1).trans rfl,(blk_cell BK184.out 2).trans rfl,(blk_cell BK184.out 3).trans rfl,hx200_0,hx201_0,hx203_0⟩ (fun hHeld => ?_);refine with_tabW hinterlandref17_far.tab17 hinterlandref17_far.bits17 (fun HT_ HW_ => ?_)
        generalize wr.drew = w43 at HO_9 HO_10 HO_12 HO_14 BK184 HB hx200_0 hx201_0 hx203_0 hHeld ⊢
        refine pI 1 (some 75) ?_
        refine pI 2 (some 76) ?_
        refine pI 3 (some 77) ?_
        refine pI 6 (some 80) ?_
        refine pI 7 (some 81) ?_
        refine pI 8 (some 82) ?_
        refine pI 12 (some 86) ?_
        refine pI 13 (some 87) ?_
        refine pI 14 (some 88) ?_
        refine tI7 0 (some 74) hHeld ?_
        refine tI7 4 (some 78) hHeld ?_
        refine pI 5 (some 79) ?_
        refine tI7 9 (some 83) hHeld ?_
        refine tI7 15 (some 89) hHeld ?_
        refine pI 16 (some 90) ?_
        refine pI 17 (some 91) ?_
        refine oI 10 (some 84) (fun K hK => ?_)
        refine goes_ Try.func67 (by kernel_rfl) rfl #[.agg #[.int .i64 a0_0,.int .i64 a0_1,.slice A0_2 l0_2.length c0_2,.slice A0_3 l0_3.length c0_3],.int .i64 (wrap64 (Int.tdiv (rd x10_1 x13_2) 4)),.int .i64 (rd t197 x15_3)] (by rfl) rfl rfl ga_ ?_
        with_reducible refine (hinterlandref17_beyond.calls a0_0 a0_1 _ _ l0_2 _ _ l0_3 (wrap64 (Int.tdiv (rd x10_1 x13_2) 4)) (rd t197 x15_3) t202 _ ?side1 ?side2 ?side3 ?side4 A36.out).mono ?_
        (case side1 => exact cq HR0_2)
        (case side2 => exact HC0_2.out)
        (case side3 => exact cq HR0_3)
        (case side4 => exact HC0_3.out)
        rintro e w44 ⟨rfl,hb⟩
        have HS4_:=(hb.cell (World.block_lt_of_cell? _ _ (hHeld.2.2.2.2.1))).trans (hHeld.2.2.2.2.1)
        have HS5_:=(hb.cell (World.block_lt_of_cell? _ _ (hHeld.2.2.2.2.2.1))).trans (hHeld.2.2.2.2.2.1)
        have HS6_:=(hb.cell (World.block_lt_of_cell? _ _ (hHeld.2.2.2.2.2.2))).trans (hHeld.2.2.2.2.2.2)
        refine ⟨_,rfl,?_⟩
        have n0_:=rbw HO_9 hb
        have n1_:=rbw HO_10 hb
        have n2_:=rbw HO_12 hb
        have n3_:=rbw HO_14 hb
        have n4_:=bkb BK184 hb
        have n5_:=Aside0.mk (below_step (hb_) hb)
        clear HO_9
        clear HO_10
        clear HO_12
        clear HO_14
        clear BK184
        clear HB
        have HO_9:=n0_
        have HO_10:=n1_
        have HO_12:=n2_
        have HO_14:=n3_
        have BK184:=n4_
        have HB:=n5_
        clear n0_ n1_ n2_ n3_ n4_ n5_
        (try clear hb)
        (try clear hb2)
        (try clear hk)
        (try clear hi)
        refine hK.out _ _ ⟨(blk_cell BK184.out 0).trans rfl,(blk_cell BK184.out 1).trans rfl,(blk_cell BK184.out 2).trans rfl,(blk_cell BK184.out 3).trans rfl,HS4_,HS5_,HS6_⟩ (fun hHeld => ?_)
        clear hK K
        refine norm_ (a':=?_) ?_ ?_
        rotate_left
        ·show Act.put _ (some 84) _ = _
         simp only [Act.put,List.setIfInBounds_toArray,List.set_cons_zero,List.set_cons_succ,i64_w,i32_w]
         rfl
        refine pI 11 (some 85) ?_
        refine pI 18 (some 92) ?_
        refine pI 19 (some 16) ?_
        refine done_ (done_of HT_.out (by kernel_rfl)) ?_
        have p204 : 0 ≤ ((ji37) : Int):=of_decide_eq_true (by first|(with_reducible assumption)|assumption)
        have q204 : (ji37) < (x9_3.length : Int):=of_decide_eq_true (by first|(with_reducible assumption)|assumption)
        obtain ⟨ad204,e204,hx204_0⟩:=Kd.at_bool (Kd.R_reads' HO_9.out).2.2 (ji37) p204 q204
        (try rw [← Nbq40.out] at hx204_0)
        obtain rfl : (⟨go12,0,none⟩ : Addr) = ad204:=(by injection e204)
        (first|simp only [add_plain] at hx204_0|simp only [add_at] at hx204_0|simp only [Addr.add,Nat.zero_add] at hx204_0|skip)
        replace p204:=eq_true p204
        replace q204:=eq_true q204
        try go_wp2
        (try simp only [← hl9_3])
        go_roundg k3
        case measure => have:=HK1.out;have:=HK2.out;have:=HK3.out;omega
        case rel => exact ⟨(x9_3),(x12_3),(wrap64 (x15_3 + 1)),(by first|rfl|(simp;done)|(simp [*];done)),H',⟨by have:=HK1.out;have:=HK2.out;have:=HK3.out;omega⟩,⟨by (try simp only [hl9_1]);(try simp only [hl9_2]);(try simp only [hl9_3]);(with_reducible repeat (first|apply Kd.R_alloc|apply Kd.R_drewN|apply Kd.R_drew));exact HO_9.out⟩,⟨by (try simp only [hl9_1]);(try simp only [hl9_2]);(try simp only [hl9_3]);(with_reducible repeat (first|apply Kd.R_alloc|apply Kd.R_drewN|apply Kd.R_drew));exact HO_10.out⟩,⟨by (try simp only [hl9_1]);(try simp only [hl9_2]);(try simp only [hl9_3]);(with_reducible repeat (first|apply Kd.R_alloc|apply Kd.R_drewN|apply Kd.R_drew));exact HO_12.out⟩,⟨by (try simp only [hl9_1]);(try simp only [hl9_2]);(try simp only [hl9_3]);(with_reducible repeat (first|apply Kd.R_alloc|apply Kd.R_drewN|apply Kd.R_drew));exact HO_14.out⟩,⟨by (try simp only [hl9_1]);(try simp only [hl9_2]);(try simp only [hl9_3]);(with_reducible repeat (first|refine blk_drewN ?_ _|refine blk_drew ?_|refine blk_alloc ?_ _));exact BK184.out⟩,⟨hb_⟩⟩
       ·replace c41:=Bool.eq_false_iff.mpr c41
        subst c41
        have H1 : (if x12_3.length < 17592186044416 then (hinterlandref17_far.l2 k3 a3 (x9_3.set ((ji37) : Int).toNat true) x10_1 x11_1 (x12_3 ++ [ji37]) x13_2 t197 (wrap64 (x15_3 + 1)) a0_0 a0_1 l0_2 l0_3) else (none)) = some r:=by rw [if_neg (show ¬ (false = true) by decide)] at H;exact H
        clear H
        have H:=H1
        clear H1
        obtain ⟨y205,hy205⟩ : ∃ y_ : List Bool,y_ = (x9_3.set ((ji37) : Int).toNat true):=⟨_,rfl⟩
        replace H : (if x12_3.length < 17592186044416 then (hinterlandref17_far.l2 k3 a3 y205 x10_1 x11_1 (x12_3 ++ [ji37]) x13_2 t197 (wrap64 (x15_3 + 1)) a0_0 a0_1 l0_2 l0_3) else (none)) = some r:=by first|(rw [hy205];with_reducible exact H)|(have H2_:=(Option.bind_some _ _).symm.trans H;rw [hy205];with_reducible exact H2_)|(have H2_:=(Option.bind_some _ _).symm.trans H;with_reducible exact H2_)|with_reducible exact H|(rw [hy205];exact H)|exact H
        have Ny205:=Aside0.mk hy205
        clear hy205
        replace H:=ifp_ H;obtain ⟨c46,H⟩:=H
        have LMc46:=Aside0.mk c46
        clear c46
        obtain ⟨y206,hy206⟩ : ∃ y_ : List Int,y_ = (x12_3 ++ [ji37]):=⟨_,rfl⟩
        replace H : (hinterlandref17_far.l2 k3 a3 y205 x10_1 x11_1 y206 x13_2 t197 (wrap64 (x15_3 + 1)) a0_0 a0_1 l0_2 l0_3) = some r:=by first|(rw [hy206];with_reducible exact H)|(have H2_:=(Option.bind_some _ _).symm.trans H;rw [hy206];with_reducible exact H2_)|(have H2_:=(Option.bind_some _ _).symm.trans H;with_reducible exact H2_)|with_reducible exact H|(rw [hy206];exact H)|exact H
        have Ny206:=Aside0.mk hy206
        clear hy206
        have H':=Aside0.mk H
        clear H
        obtain ⟨Ao47,co47,eo47⟩:=Kd.R_slice HO_14.out
        subst eo47
        try go_wp2
        replace HO_9:=Aside0.mk (Kd.R_drew HO_9.out)
        replace HO_10:=Aside0.mk (Kd.R_drew HO_10.out)
        replace HO_12:=Aside0.mk (Kd.R_drew HO_12.out)
        replace HO_14:=Aside0.mk (Kd.R_drew HO_14.out)
        replace BK184:=Aside0.mk (blk_drew BK184.out)
        replace HB:=Aside0.mk (below_drew1 HB.out)
        have p200 : 0 ≤ (x13_2 : Int):=of_decide_eq_true (by first|(with_reducible assumption)|assumption)
        have q200 : x13_2 < (x10_1.length : Int):=of_decide_eq_true (by first|(with_reducible assumption)|assumption)
        obtain ⟨ad200,e200,hx200_0⟩:=Kd.at_int (Kd.R_reads' HO_10.out).2.2 x13_2 p200 q200
        obtain rfl : ad194 = ad200:=(by injection e200)
        replace p200:=eq_true p200
        replace q200:=eq_true q200
        have p201 : 0 ≤ (x15_3 : Int):=of_decide_eq_true (by first|(with_reducible assumption)|assumption)
        have q201 : x15_3 < (t197.length : Int):=of_decide_eq_true (by first|(with_reducible assumption)|assumption)
        obtain ⟨ad201,e201,hx201_0⟩:=Kd.at_int (Kd.R_reads' HO_14.out).2.2 x15_3 p201 q201
        cases e201
        replace p201:=eq_true p201
        replace q201:=eq_true q201
        have p203 : 0 ≤ (x15_3 : Int):=of_decide_eq_true (by first|(with_reducible assumption)|assumption)
        have q203 : x15_3 < (t197.length : Int):=of_decide_eq_true (by first|(with_reducible assumption)|assumption)
        obtain ⟨ad203,e203,hx203_0⟩:=Kd.at_int (Kd.R_reads' HO_14.out).2.2 x15_3 p203 q203
        obtain rfl : ad201 = ad203:=(by injection e203)
        replace p203:=eq_true p203
        replace q203:=eq_true q203
        refine start_ (n:=20) (S:=fun w' => w'.cell? ⟨gb184,0,none⟩ = some (.int .i64 a0_0) ∧ w'.cell? ⟨gb184,1,none⟩ = some (.int .i64 a0_1) ∧ w'.cell? ⟨gb184,2,none⟩ = some (.slice A0_2 l0_2.length c0_2) ∧ w'.cell? ⟨gb184,3,none⟩ = some (.slice A0_3 l0_3.length c0_3) ∧ w'.cell? (ad194.add (x13_2).toNat) = some (.int .i64 (rd x10_1 x13_2)) ∧ w'.cell? (ad201.add (x15_3).toNat) = some (.int .i64 (rd t197 x15_3)) ∧ w'.cell? (ad201.add (x15_3).toNat) = some (.int .i64 (rd t197 x15_3))) (ds:=[]) #[false,false,false,false,false,false,false,false,false,false,false,false,false,false,false,false,false,false,false,false] (by kernel_rfl) rfl rfl ⟨(blk_cell BK184.out 0).trans rfl,(blk_cell BK184.out 1).trans rfl,(blk_cell BK184.out 2).trans rfl,(blk_cell BK184.out 3).trans rfl,hx200_0,hx201_0,hx203_0⟩ (fun hHeld => ?_);refine with_tabW hinterlandref17_far.tab17 hinterlandref17_far.bits17 (fun HT_ HW_ => ?_)
        generalize wr.drew = w48 at HO_9 HO_10 HO_12 HO_14 BK184 HB hx200_0 hx201_0 hx203_0 hHeld ⊢
        refine pI 1 (some 75) ?_
        refine pI 2 (some 76) ?_
        refine pI 3 (some 77) ?_
        refine pI 6 (some 80) ?_
        refine pI 7 (some 81) ?_
        refine pI 8 (some 82) ?_
        refine pI 12 (some 86) ?_
        refine pI 13 (some 87) ?_
        refine pI 14 (some 88) ?_
        refine tI7 0 (some 74) hHeld ?_
        refine tI7 4 (some 78) hHeld ?_
        refine pI 5 (some 79) ?_
        refine tI7 9 (some 83) hHeld ?_
        refine tI7 15 (some 89) hHeld ?_
        refine pI 16 (some 90) ?_
        refine pI 17 (some 91) ?_
        refine oI 10 (some 84) (fun K hK => ?_)
        refine goes_ Try.func67 (by kernel_rfl) rfl #[.agg #[.int .i64 a0_0,.int .i64 a0_1,.slice A0_2 l0_2.length c0_2,.slice A0_3 l0_3.length c0_3],.int .i64 (wrap64 (Int.tdiv (rd x10_1 x13_2) 4)),.int .i64 (rd t197 x15_3)] (by rfl) rfl rfl ga_ ?_
        with_reducible refine (hinterlandref17_beyond.calls a0_0 a0_1 _ _ l0_2 _ _ l0_3 (wrap64 (Int.tdiv (rd x10_1 x13_2) 4)) (rd t197 x15_3) t202 _ ?side1 ?side2 ?side3 ?side4 A36.out).mono ?_
        (case side1 => exact cq HR0_2)
        (case side2 => exact HC0_2.out)
        (case side3 => exact cq HR0_3)
        (case side4 => exact HC0_3.out)
        rintro e w49 ⟨rfl,hb⟩
        have HS4_:=(hb.cell (World.block_lt_of_cell? _ _ (hHeld.2.2.2.2.1))).trans (hHeld.2.2.2.2.1)
        have HS5_:=(hb.cell (World.block_lt_of_cell? _ _ (hHeld.2.2.2.2.2.1))).trans (hHeld.2.2.2.2.2.1)
        have HS6_:=(hb.cell (World.block_lt_of_cell? _ _ (hHeld.2.2.2.2.2.2))).trans (hHeld.2.2.2.2.2.2)
        refine ⟨_,rfl,?_⟩
        have n0_:=rbw HO_9 hb
        have n1_:=rbw HO_10 hb
        have n2_:=rbw HO_12 hb
        have n3_:=rbw HO_14 hb
        have n4_:=bkb BK184 hb
        have n5_:=Aside0.mk (below_step (hb_) hb)
        clear HO_9
        clear HO_10
        clear HO_12
        clear HO_14
        clear BK184
        clear HB
        have HO_9:=n0_
        have HO_10:=n1_
        have HO_12:=n2_
        have HO_14:=n3_
        have BK184:=n4_
        have HB:=n5_
        clear n0_ n1_ n2_ n3_ n4_ n5_
        (try clear hb)
        (try clear hb2)
        (try clear hk)
        (try clear hi)
        refine hK.out _ _ ⟨(blk_cell BK184.out 0).trans rfl,(blk_cell BK184.out 1).trans rfl,(blk_cell BK184.out 2).trans rfl,(blk_cell BK184.out 3).trans rfl,HS4_,HS5_,HS6_⟩ (fun hHeld => ?_)
        clear hK K
        refine norm_ (a':=?_) ?_ ?_
        rotate_left
        ·show Act.put _ (some 84) _ = _
         simp only [Act.put,List.setIfInBounds_toArray,List.set_cons_zero,List.set_cons_succ,i64_w,i32_w]
         rfl
        refine pI 11 (some 85) ?_
        refine pI 18 (some 92) ?_
        refine pI 19 (some 16) ?_
        refine done_ (done_of HT_.out (by kernel_rfl)) ?_
        have p204 : 0 ≤ ((ji37) : Int):=of_decide_eq_true (by first|(with_reducible assumption)|assumption)
        have q204 : (ji37) < (x9_3.length : Int):=of_decide_eq_true (by first|(with_reducible assumption)|assumption)
        obtain ⟨ad204,e204,hx204_0⟩:=Kd.at_bool (Kd.R_reads' HO_9.out).2.2 (ji37) p204 q204
        (try rw [← Nbq40.out] at hx204_0)
        obtain rfl : (⟨go12,0,none⟩ : Addr) = ad204:=(by injection e204)
        (first|simp only [add_plain] at hx204_0|simp only [add_at] at hx204_0|simp only [Addr.add,Nat.zero_add] at hx204_0|skip)
        replace p204:=eq_true p204
        replace q204:=eq_true q204
        have p45 : 0 ≤ ((ji37) : Int):=of_decide_eq_true (by first|(with_reducible assumption)|assumption)
        have q45 : ((ji37) : Int) < ((x9_3.length : Int) : Int):=of_decide_eq_true (by first|(with_reducible assumption)|assumption)
        obtain ⟨hx45_0,hf45_0⟩:=Kd.R_celln false HO_9.out ((ji37) : Int) p45 q45
        replace p45:=eq_true p45
        replace q45:=eq_true q45
        obtain ⟨hy50_,hz50_⟩:=Kd.R_celln false HO_9.out ((ji37) : Int) (of_decide_eq_true (by first|(with_reducible assumption)|assumption)) (of_decide_eq_true (by first|(with_reducible assumption)|assumption))
        have HP50:=Kd.R_putg HO_9.out ((ji37) : Int) true
        try go_wp2_with (first|((with_reducible refine gate_store (t:=4) (p:=100) rfl ?_);refine store_event (t:=4) (p:=100) (v:=?vo_w51) (w1:=(w49.setCell ⟨go12,((ji37) : Int).toNat,none⟩ (.bool true))) ?hg ?ho ?hn ?hr ?_;(case ho => rfl);(case hg => rfl);(case hn => rfl);(case hr => first|(go_simp;done)|(go_simp;rfl));intro w51 hw;have hg : w49.grownBy w51 (some go12):=(by rw [hw];exact HP50.2);have hp_ : Kd.R Kd.bool 4 w51 w.heap.size (fun _ => True) (.slice (some ⟨go12,0,none⟩) x9_3.length co12) y205:=(by rw [hw,Ny205.out];exact HP50.1);clear HP50;replace HO_10:=Aside0.mk (Kd.R_over' (v:=(.slice (some ⟨go12,0,none⟩) x9_3.length co12)) (Kd.R_up HO_10.out) (Kd.R_typed HO_9.out) (by decide) hg);replace HO_12:=Aside0.mk (Kd.R_over' (v:=(.slice (some ⟨go12,0,none⟩) x9_3.length co12)) (Kd.R_up HO_12.out) (Kd.R_typed HO_9.out) (by decide) hg);replace HO_14:=Aside0.mk (Kd.R_over' (v:=(.slice (some ⟨go12,0,none⟩) x9_3.length co12)) (Kd.R_up HO_14.out) (Kd.R_typed HO_9.out) (by decide) hg);replace BK184:=Aside0.mk (blk_grown (blk_up BK184.out) hg (Kd.R_ne HO_9.out BK184.out (by decide)));replace HO_9:=Aside0.mk (hp_);replace HB:=Aside0.mk ((by rw [hw];exact below_set (HB.out) GB12.out : Below w.heap.size w w51));clear hg hw hp_)|((with_reducible refine gate_builtin (b:=.append) (xs:=#[.tmp 101,.tmp 103]) rfl ?_);at_builtin;refine Kd.R_append (Kd.int .i64) (w0:=w) w.heap.size rfl (.tmp 101) (.tmp 103) 22 3 (.int .i64 0) 8 rfl Try.underlying22 info3 rfl (by decide) (by omega) u12 x12_3 ji37 [.int .i64 ji37] (fun k_ => some k_ ≠ (.slice (some ad194) x10_1.length co25 : Value).ownBlock ∧ some k_ ≠ (.slice (some ad201) t197.length co47 : Value).ownBlock) (fun _ => False) rfl rfl ?aP (fun _ hk => hk.elim) ?aF ?aO ?aB ?aS ?aL ?_;(case aP => exact rfl);(case aB => exact (hb_));(case aF => exact (fun k_ hk => ⟨Kd.fresh' (Kd.R_lt (Kd.R_up HO_10.out)) k_ hk,Kd.fresh' (Kd.R_lt (Kd.R_up HO_14.out)) k_ hk⟩));(case aO => exact (Kd.R_up HO_12.out));(case aS => exact (below_size (hb_)));(case aL => have:=LMc46.out;omega);intro v207 w52 ho hb hg hat;rw [← Ny206.out] at ho;have HO208:=Aside0.mk (ho);replace HO_9:=Aside0.mk (Kd.R_over' (Kd.R_up HO_9.out) (Kd.R_typed (Kd.R_up HO_12.out)) (by decide) hg);replace HO_10:=Aside0.mk (Kd.R_after (ok:=(fun k_ => some k_ ≠ (.slice (some ad201) t197.length co47 : Value).ownBlock)) (by (with_reducible repeat (first|apply Kd.R_alloc|apply Kd.R_drewN|apply Kd.R_drew));exact Kd.R_mono HO_10.out (fun _ hk => ⟨hk.2,hk.1⟩)) hg hat);replace HO_14:=Aside0.mk (Kd.R_after (ok:=(fun k_ => some k_ ≠ (.slice (some ad194) x10_1.length co25 : Value).ownBlock)) (Kd.R_up HO_14.out) hg hat);replace BK184:=Aside0.mk (blk_grown (blk_up BK184.out) hg (Kd.R_ne HO_12.out BK184.out (by decide)));replace HB:=Aside0.mk (hb);clear HO_12;clear ho hb hg hat))
        (try simp only [← hl9_3])
        go_roundg k3
        case measure => have:=HK1.out;have:=HK2.out;have:=HK3.out;omega
        case rel => exact ⟨(y205),(y206),(wrap64 (x15_3 + 1)),(by first|rfl|(simp;done)|(simp [*];done)),H',⟨by have:=HK1.out;have:=HK2.out;have:=HK3.out;omega⟩,⟨by (try simp only [hl9_1]);(try simp only [hl9_2]);(try simp only [hl9_3]);(with_reducible repeat (first|apply Kd.R_alloc|apply Kd.R_drewN|apply Kd.R_drew));exact HO_9.out⟩,⟨by (try simp only [hl9_1]);(try simp only [hl9_2]);(try simp only [hl9_3]);(with_reducible repeat (first|apply Kd.R_alloc|apply Kd.R_drewN|apply Kd.R_drew));exact Kd.R_mono HO_10.out (fun _ hk => ⟨hk.2,hk.1⟩)⟩,⟨by (try simp only [hl9_1]);(try simp only [hl9_2]);(try simp only [hl9_3]);(with_reducible repeat (first|apply Kd.R_alloc|apply Kd.R_drewN|apply Kd.R_drew));exact HO208.out⟩,⟨by (try simp only [hl9_1]);(try simp only [hl9_2]);(try simp only [hl9_3]);(with_reducible repeat (first|apply Kd.R_alloc|apply Kd.R_drewN|apply Kd.R_drew));exact HO_14.out⟩,⟨by (try simp only [hl9_1]);(try simp only [hl9_2]);(try simp only [hl9_3]);(with_reducible repeat (first|refine blk_drewN ?_ _|refine blk_drew ?_|refine blk_alloc ?_ _));exact BK184.out⟩,⟨hb_⟩⟩

end Go.Proofs.Ythjmdpekcleihaa.P
