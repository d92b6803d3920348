/- Functions of this seat as plain Lean functions, with proofs that the Go code comes to just their answers, or what stands between them and a law's statement; no conditions. (Laid by a program of this session, out of the kit's print.) -/
import Derived.Test.YthjmdpekcleihaaPx0
import Derived.Test.YthjmdpekcleihaaPx6
import Derived.Test.YthjmdpekcleihaaPx7
import Derived.Test.YthjmdpekcleihaaPx12
namespace Go.Proofs.Ythjmdpekcleihaa.P
open Go.RowKit Go.Proofs.YthjmdpekcleihaaW.PrintWords Go.Proofs.YthjmdpekcleihaaW.PrintLast Go.Proofs.YthjmdpekcleihaaW.PrintMore
attribute [local go_sem] max2_int min2_int max_two min_two max_three min_three max_four min_four   -- for this text's walks alone
set_option linter.unusedVariables false
set_option linter.unusedSimpArgs false

/-! ### hinterlandref17_in: function 71 -/
def hinterlandref17_in.l0 : Nat → List Int → Int → Int → Option (Bool)
 | 0,_,_,_ => none
 | k + 1,x0,x1,x5 => if x5 < (x0.length : Int) then (if 0 ≤ x5 then (if (rd x0 x5) = x1 then (some true) else (hinterlandref17_in.l0 k x0 x1 (wrap64 (x5 + 1)))) else (none)) else (some false)
def hinterlandref17_in.f (k : Nat) (l0 : List Int) (a1 : Int) : Option (Bool) := hinterlandref17_in.l0 k l0 a1 0
theorem hinterlandref17_in.mono_l : ∀ k, (∀ y0 y1 y2, LeO (hinterlandref17_in.l0 k y0 y1 y2) (hinterlandref17_in.l0 (k + 1) y0 y1 y2))
 | 0 => fun _ _ _ r h => by simp [hinterlandref17_in.l0] at h
 | k + 1 => by
  have ih0:=hinterlandref17_in.mono_l k
  ·intro y0 y1 y2
   unfold hinterlandref17_in.l0
   repeat' first
   | (with_reducible exact ih0 _ _ _)
   | (with_reducible exact LeO.refl _)
   | (with_reducible exact LeO.none _)
   | (with_reducible refine LeO.ite ?_ ?_)
   | (with_reducible refine LeO.bind ?_ (fun _ => ?_))
   | exact ih0 _ _ _
   | exact LeO.none _
   | refine LeO.ite ?_ ?_
   | refine LeO.bind ?_ (fun _ => ?_)
theorem hinterlandref17_in.mono : ∀ a0 a1 k, LeO (hinterlandref17_in.f k a0 a1) (hinterlandref17_in.f (k + 1) a0 a1) := by
 intro a0 a1 k
 have ih0:=hinterlandref17_in.mono_l k
 unfold hinterlandref17_in.f
 repeat' first
   | (with_reducible exact ih0 _ _ _)
   | (with_reducible exact LeO.refl _)
   | (with_reducible exact LeO.none _)
   | (with_reducible refine LeO.ite ?_ ?_)
   | (with_reducible refine LeO.bind ?_ (fun _ => ?_))
   | exact ih0 _ _ _
   | exact LeO.none _
   | refine LeO.ite ?_ ?_
   | refine LeO.bind ?_ (fun _ => ?_)
set_option maxHeartbeats 8000000 in
set_option maxRecDepth 100000 in
theorem hinterlandref17_in.calls (k : Nat) (A0 : Option Addr) (c0 : Nat) (l0 : List Int) (a1 : Int) (r : Bool) (w : World) (hr0 : Kd.C (Kd.int .i64) w A0 l0.length l0) (hc0 : l0.length ≤ c0) (h : hinterlandref17_in.f k l0 a1 = some r) :
  Calls Try.prog 71 #[.slice A0 l0.length c0,.int .i64 a1] w fun e w' => e = .returned (.bool r) ∧ Drawn0 w w':=by
 have HR0:=Aside0.mk hr0
 have HC0:=Aside0.mk hc0
 clear hr0 hc0
 have H : (hinterlandref17_in.l0 k l0 a1 0) = some r:=h
 clear h
 have H':=Aside0.mk H
 clear H
 go_enter Try.func71,Try.ntmps71
 go_wp2
 go_loopg [5] k (fun kq v5 w' => ∃ (x5_1 : Int),v5 = .int .i64 x5_1 ∧ Aside0 (hinterlandref17_in.l0 kq l0 a1 x5_1 = some r) ∧ Aside0 (kq ≤ k) ∧ Drawn0 w w')
 case atStart => exact ⟨(0),(by first|rfl|(simp;done)|(simp [*];done)),H',⟨Nat.le_refl _⟩,by repeat (first|exact Drawn0.refl _|apply Drawn0.step)⟩
 case round =>
  clear H'
  obtain ⟨x5_1,rfl,HA,HK1,⟨m1,rfl⟩⟩:=hrel
  cases gk with
  | zero => exact absurd HA.out (by simp [hinterlandref17_in.l0])
  | succ k1 =>
   have H:=HA.out
   clear HA
   simp only [hinterlandref17_in.l0] at H
   by_cases c3 : x5_1 < (l0.length : Int)
   rotate_left
   ·rw [if_neg c3] at H
    have c3b0 : decide (x5_1 < (l0.length : Int)) = false:=decide_eq_false c3
    clear c3
    obtain rfl:=Option.some.inj H
    go_wp2
    go_ret
    exact ⟨by first|rfl|(simp;done)|(simp [*];done),by repeat (first|exact Drawn0.refl _|apply Drawn0.step)⟩
   rw [if_pos c3] at H
   have c3b0 : decide (x5_1 < (l0.length : Int)) = true:=decide_eq_true c3
   clear c3
   replace H:=ifp_ H;obtain ⟨c4,H⟩:=H
   have c4b0 : decide (0 ≤ x5_1) = true:=decide_eq_true c4
   clear c4
   by_cases c5 : (rd l0 x5_1) = a1
   ·rw [if_pos c5] at H
    have c5b0:=bqt c5
    have c5b1:=bnf c5
    clear c5
    obtain rfl:=Option.some.inj H
    have p493 : 0 ≤ (x5_1 : Int):=of_decide_eq_true (by first|(with_reducible assumption)|assumption)
    have q493 : x5_1 < (l0.length : Int):=of_decide_eq_true (by first|(with_reducible assumption)|assumption)
    obtain ⟨ad493,e493,hx493_0⟩:=Kd.at_int HR0.out x5_1 p493 q493
    cases e493
    replace p493:=eq_true p493
    replace q493:=eq_true q493
    go_wp2
    go_ret
    exact ⟨by first|rfl|(simp;done)|(simp [*];done),by repeat (first|exact Drawn0.refl _|apply Drawn0.step)⟩
   ·rw [if_neg c5] at H
    have c5b0:=bqf c5
    have c5b1:=bnt c5
    have H':=Aside0.mk H
    clear H
    have p493 : 0 ≤ (x5_1 : Int):=of_decide_eq_true (by first|(with_reducible assumption)|assumption)
    have q493 : x5_1 < (l0.length : Int):=of_decide_eq_true (by first|(with_reducible assumption)|assumption)
    obtain ⟨ad493,e493,hx493_0⟩:=Kd.at_int HR0.out x5_1 p493 q493
    cases e493
    replace p493:=eq_true p493
    replace q493:=eq_true q493
    go_wp2
    go_roundg k1
    case measure => have:=HK1.out;omega
    case rel => exact ⟨(wrap64 (x5_1 + 1)),(by first|rfl|(simp;done)|(simp [*];done)),H',⟨by have:=HK1.out;omega⟩,by repeat (first|exact Drawn0.refl _|apply Drawn0.step)⟩

/-! ### hinterlandref17_step: function 49 -/
def hinterlandref17_step.j0 : Nat → Int → Int → Int → Int → Int → Int → Bool → Int → Int → List Int → List Int → List Int → List (S50) → Int → Int → Int → Int → Int → Option (Int × (List (S50)))
 | 0,_,_,_,_,_,_,_,_,_,_,_,_,_,_,_,_,_,_ => none
 | k + 1,x1,x2,x8,x9,x10,x11,x65,x495000,x495001,x495002,x495003,x495004,x495005,x497000,x497001,x497002,x497003,x497004 => if x65 = true then (if x9 = x2 then (if 0 ≤ x1 then (if x1 < (x495005.length : Int) then (some (3,(x495005.set (x1 : Int).toNat (⟨x9,x10,x11,x497003,0⟩ : S50)))) else (none)) else (none)) else (if 0 ≤ x1 then (if x1 < (x495005.length : Int) then (some (x8,(x495005.set (x1 : Int).toNat (⟨x9,x10,x11,x497003,wrap64 (x497004 - 192)⟩ : S50)))) else (none)) else (none))) else (if 0 ≤ x1 then (if x1 < (x495005.length : Int) then (some (1,(x495005.set (x1 : Int).toNat (⟨x497000,x497001,x497002,0,191⟩ : S50)))) else (none)) else (none))
def hinterlandref17_step.f (k : Nat) (a0_0 : Int) (a0_1 : Int) (l0_2 : List Int) (l0_3 : List Int) (l0_4 : List Int) (l0_5 : List (S50)) (a1 : Int) (a2 : Int) : Option (Int × (List (S50))) := if 0 ≤ a1 then (if a1 < (l0_5.length : Int) then (if ((rd_T50 l0_5 a1).f0) < 0 then (some (0, l0_5)) else (if (wrap64 (((rd_T50 l0_5 a1).f4) + ((rd_T50 l0_5 a1).f3))) ≥ 192 then ((hinterlandref17_beyond.f a0_0 a0_1 l0_2 l0_3 ((rd_T50 l0_5 a1).f0) ((rd_T50 l0_5 a1).f2)).bind fun t497 => ((hinterlandref17_choose.f k a0_0 a0_1 l0_2 l0_3 t497 (Int.tmod (wrap64 (((rd_T50 l0_5 a1).f2) + 2)) 4) a2).bind fun bt498 => (if bt498.2 = true then ((hinterlandref17_in.f k l0_4 t497).bind fun t500 => (if t500 = true then (hinterlandref17_step.j0 k a1 a2 0 t497 (Int.tmod (wrap64 (((rd_T50 l0_5 a1).f2) + 2)) 4) bt498.1 false a0_0 a0_1 l0_2 l0_3 l0_4 l0_5 ((rd_T50 l0_5 a1).f0) ((rd_T50 l0_5 a1).f1) ((rd_T50 l0_5 a1).f2) ((rd_T50 l0_5 a1).f3) (wrap64 (((rd_T50 l0_5 a1).f4) + ((rd_T50 l0_5 a1).f3)))) else ((hinterlandref17_taken.f k a0_0 a0_1 l0_2 l0_3 l0_4 l0_5 a1 t497 bt498.1).bind fun t501 => (hinterlandref17_step.j0 k a1 a2 0 t497 (Int.tmod (wrap64 (((rd_T50 l0_5 a1).f2) + 2)) 4) bt498.1 (!t501) a0_0 a0_1 l0_2 l0_3 l0_4 l0_5 ((rd_T50 l0_5 a1).f0) ((rd_T50 l0_5 a1).f1) ((rd_T50 l0_5 a1).f2) ((rd_T50 l0_5 a1).f3) (wrap64 (((rd_T50 l0_5 a1).f4) + ((rd_T50 l0_5 a1).f3))))))) else (hinterlandref17_step.j0 k a1 a2 0 t497 (Int.tmod (wrap64 (((rd_T50 l0_5 a1).f2) + 2)) 4) bt498.1 false a0_0 a0_1 l0_2 l0_3 l0_4 l0_5 ((rd_T50 l0_5 a1).f0) ((rd_T50 l0_5 a1).f1) ((rd_T50 l0_5 a1).f2) ((rd_T50 l0_5 a1).f3) (wrap64 (((rd_T50 l0_5 a1).f4) + ((rd_T50 l0_5 a1).f3))))))) else (some (0, (l0_5.set (a1 : Int).toNat (⟨(rd_T50 l0_5 a1).f0, (rd_T50 l0_5 a1).f1, (rd_T50 l0_5 a1).f2, (rd_T50 l0_5 a1).f3, wrap64 (((rd_T50 l0_5 a1).f4) + ((rd_T50 l0_5 a1).f3))⟩ : S50)))))) else (none)) else (none)
theorem hinterlandref17_step.mono_l : ∀ k, (∀ y0 y1 y2 y3 y4 y5 y6 y7 y8 y9 y10 y11 y12 y13 y14 y15 y16 y17, LeO (hinterlandref17_step.j0 k y0 y1 y2 y3 y4 y5 y6 y7 y8 y9 y10 y11 y12 y13 y14 y15 y16 y17) (hinterlandref17_step.j0 (k + 1) y0 y1 y2 y3 y4 y5 y6 y7 y8 y9 y10 y11 y12 y13 y14 y15 y16 y17))
 | 0 => fun _ _ _ _ _ _ _ _ _ _ _ _ _ _ _ _ _ _ r h => by simp [hinterlandref17_step.j0] at h
 | k + 1 => by
  have ih0:=hinterlandref17_step.mono_l k
  ·intro y0 y1 y2 y3 y4 y5 y6 y7 y8 y9 y10 y11 y12 y13 y14 y15 y16 y17
   unfold hinterlandref17_step.j0
   repeat' first
   | (with_reducible exact ih0 _ _ _ _ _ _ _ _ _ _ _ _ _ _ _ _ _ _)
   | (with_reducible exact hinterlandref17_choose.mono _ _ _ _ _ _ _ _)
   | (with_reducible exact hinterlandref17_in.mono _ _ _)
   | (with_reducible exact hinterlandref17_taken.mono _ _ _ _ _ _ _ _ _ _)
   | (with_reducible exact LeO.refl _)
   | (with_reducible exact LeO.none _)
   | (with_reducible refine LeO.ite ?_ ?_)
   | (with_reducible refine LeO.bind ?_ (fun _ => ?_))
   | exact ih0 _ _ _ _ _ _ _ _ _ _ _ _ _ _ _ _ _ _
   | exact hinterlandref17_choose.mono _ _ _ _ _ _ _ _
   | exact hinterlandref17_in.mono _ _ _
   | exact hinterlandref17_taken.mono _ _ _ _ _ _ _ _ _ _
   | exact LeO.none _
   | refine LeO.ite ?_ ?_
   | refine LeO.bind ?_ (fun _ => ?_)
theorem hinterlandref17_step.mono : ∀ a0 a1 a2 a3 a4 a5 a6 a7 k, LeO (hinterlandref17_step.f k a0 a1 a2 a3 a4 a5 a6 a7) (hinterlandref17_step.f (k + 1) a0 a1 a2 a3 a4 a5 a6 a7) := by
 intro a0 a1 a2 a3 a4 a5 a6 a7 k
 have ih0:=hinterlandref17_step.mono_l k
 unfold hinterlandref17_step.f
 repeat' first
   | (with_reducible exact ih0 _ _ _ _ _ _ _ _ _ _ _ _ _ _ _ _ _ _)
   | (with_reducible exact hinterlandref17_choose.mono _ _ _ _ _ _ _ _)
   | (with_reducible exact hinterlandref17_in.mono _ _ _)
   | (with_reducible exact hinterlandref17_taken.mono _ _ _ _ _ _ _ _ _ _)
   | (with_reducible exact LeO.refl _)
   | (with_reducible exact LeO.none _)
   | (with_reducible refine LeO.ite ?_ ?_)
   | (with_reducible refine LeO.bind ?_ (fun _ => ?_))
   | exact ih0 _ _ _ _ _ _ _ _ _ _ _ _ _ _ _ _ _ _
   | exact hinterlandref17_choose.mono _ _ _ _ _ _ _ _
   | exact hinterlandref17_in.mono _ _ _
   | exact hinterlandref17_taken.mono _ _ _ _ _ _ _ _ _ _
   | exact LeO.none _
   | refine LeO.ite ?_ ?_
   | refine LeO.bind ?_ (fun _ => ?_)
def hinterlandref17_step.T7 : Bool × List (List Nat × List Nat) := (true, [([], []), ([0], [0]), ([], []), ([2], [2]), ([], []), ([4], [4]), ([1, 3, 5], [1, 3, 5]), ([], []), ([7], [7]), ([8], [8]), ([9], [9]), ([6, 6, 0, 1, 2, 3, 4, 5, 6], [6]), ([10, 11, 0, 1, 2, 3, 4, 5, 6, 7, 8, 9, 10, 11], [10])])
def hinterlandref17_step.B7 : List Nat := [0, 1, 0, 4, 0, 16, 63, 0, 128, 384, 896, 127, 4095]
theorem hinterlandref17_step.tab7 : rtab .any (opsOf Try.f49 7) = hinterlandref17_step.T7 := by kernel_rfl
theorem hinterlandref17_step.bits7 : waitsOk hinterlandref17_step.T7.2 hinterlandref17_step.B7 = true := by kernel_rfl
set_option maxHeartbeats 8000000 in
set_option maxRecDepth 100000 in
theorem hinterlandref17_step.calls (k : Nat) (a0_0 : Int) (a0_1 : Int) (A0_2 : Option Addr) (c0_2 : Nat) (l0_2 : List Int) (A0_3 : Option Addr) (c0_3 : Nat) (l0_3 : List Int) (A0_4 : Option Addr) (c0_4 : Nat) (l0_4 : List Int) (P0_5_ : Nat → Prop) (u9000_ : Value) (l0_5 : List (S50)) (a1 : Int) (a2 : Int) (r1 : Int) (r2 : List (S50)) (w0 w : World) (hB : Below w0.heap.size w0 w) (hr0_2 : ∀ W_, Kept w W_ (fun k_ => P0_5_ k_) → Kd.C (Kd.int .i64) W_ A0_2 l0_2.length l0_2) (hc0_2 : l0_2.length ≤ c0_2) (hr0_3 : ∀ W_, Kept w W_ (fun k_ => P0_5_ k_) → Kd.C (Kd.int .i64) W_ A0_3 l0_3.length l0_3) (hc0_3 : l0_3.length ≤ c0_3) (hr0_4 : ∀ W_, Kept w W_ (fun k_ => P0_5_ k_) → Kd.C (Kd.int .i64) W_ A0_4 l0_4.length l0_4) (hc0_4 : l0_4.length ≤ c0_4) (ho0_5 : Kd.R k50 50 w w0.heap.size P0_5_ u9000_ l0_5) (h : hinterlandref17_step.f k a0_0 a0_1 l0_2 l0_3 l0_4 l0_5 a1 a2 = some (r1, r2)) :
  Calls Try.prog 49 #[.agg #[.int .i64 a0_0,.int .i64 a0_1,.slice A0_2 l0_2.length c0_2,.slice A0_3 l0_3.length c0_3,.slice A0_4 l0_4.length c0_4,u9000_],.int .i64 a1,.int .i64 a2] w fun e w' => e = .returned (.int .i64 r1) ∧ Kd.R k50 50 w' w0.heap.size (fun k_ => (P0_5_ k_ ∨ w.heap.size ≤ k_)) u9000_ r2 ∧ Below w0.heap.size w0 w' ∧ Kept w w' (fun k_ => P0_5_ k_):=by
 have hu33:=Try.underlying33
 have hu50:=Try.underlying50
 have hu24:=Try.underlying24
 have HR0_2:=Aside0.mk hr0_2
 have HC0_2:=Aside0.mk hc0_2
 clear hr0_2 hc0_2
 have HR0_3:=Aside0.mk hr0_3
 have HC0_3:=Aside0.mk hc0_3
 clear hr0_3 hc0_3
 have HR0_4:=Aside0.mk hr0_4
 have HC0_4:=Aside0.mk hc0_4
 clear hr0_4 hc0_4
 have HO0_5:=Aside0.mk (show Kd.R k50 50 w w0.heap.size (fun k_ => (P0_5_ k_ ∨ w.heap.size ≤ k_)) u9000_ l0_5 from Kd.R_mono ho0_5 (fun k_ hk => (.inl hk)))
 have HK:=Aside0.mk (Kept.refl w (fun k_ => P0_5_ k_))
 have HW0:=Aside0.mk hB.size
 have HB:=Aside0.mk hB
 clear hB
 have H : (if 0 ≤ a1 then (if a1 < (l0_5.length : Int) then (if ((rd_T50 l0_5 a1).f0) < 0 then (some (0,l0_5)) else (if (wrap64 (((rd_T50 l0_5 a1).f4) + ((rd_T50 l0_5 a1).f3))) ≥ 192 then ((hinterlandref17_beyond.f a0_0 a0_1 l0_2 l0_3 ((rd_T50 l0_5 a1).f0) ((rd_T50 l0_5 a1).f2)).bind fun t497 => ((hinterlandref17_choose.f k a0_0 a0_1 l0_2 l0_3 t497 (Int.tmod (wrap64 (((rd_T50 l0_5 a1).f2) + 2)) 4) a2).bind fun bt498 => (if bt498.2 = true then ((hinterlandref17_in.f k l0_4 t497).bind fun t500 => (if t500 = true then (hinterlandref17_step.j0 k a1 a2 0 t497 (Int.tmod (wrap64 (((rd_T50 l0_5 a1).f2) + 2)) 4) bt498.1 false a0_0 a0_1 l0_2 l0_3 l0_4 l0_5 ((rd_T50 l0_5 a1).f0) ((rd_T50 l0_5 a1).f1) ((rd_T50 l0_5 a1).f2) ((rd_T50 l0_5 a1).f3) (wrap64 (((rd_T50 l0_5 a1).f4) + ((rd_T50 l0_5 a1).f3)))) else ((hinterlandref17_taken.f k a0_0 a0_1 l0_2 l0_3 l0_4 l0_5 a1 t497 bt498.1).bind fun t501 => (hinterlandref17_step.j0 k a1 a2 0 t497 (Int.tmod (wrap64 (((rd_T50 l0_5 a1).f2) + 2)) 4) bt498.1 (!t501) a0_0 a0_1 l0_2 l0_3 l0_4 l0_5 ((rd_T50 l0_5 a1).f0) ((rd_T50 l0_5 a1).f1) ((rd_T50 l0_5 a1).f2) ((rd_T50 l0_5 a1).f3) (wrap64 (((rd_T50 l0_5 a1).f4) + ((rd_T50 l0_5 a1).f3))))))) else (hinterlandref17_step.j0 k a1 a2 0 t497 (Int.tmod (wrap64 (((rd_T50 l0_5 a1).f2) + 2)) 4) bt498.1 false a0_0 a0_1 l0_2 l0_3 l0_4 l0_5 ((rd_T50 l0_5 a1).f0) ((rd_T50 l0_5 a1).f1) ((rd_T50 l0_5 a1).f2) ((rd_T50 l0_5 a1).f3) (wrap64 (((rd_T50 l0_5 a1).f4) + ((rd_T50 l0_5 a1).f3))))))) else (some (0,(l0_5.set (a1 : Int).toNat (⟨(rd_T50 l0_5 a1).f0,(rd_T50 l0_5 a1).f1,(rd_T50 l0_5 a1).f2,(rd_T50 l0_5 a1).f3,wrap64 (((rd_T50 l0_5 a1).f4) + ((rd_T50 l0_5 a1).f3))⟩ : S50)))))) else (none)) else (none)) = some (r1,r2):=h
 clear h
 replace H:=ifp_ H;obtain ⟨c4,H⟩:=H
 have c4b0 : decide (0 ≤ a1) = true:=decide_eq_true c4
 clear c4
 replace H:=ifp_ H;obtain ⟨c5,H⟩:=H
 have c5b0 : decide (a1 < (l0_5.length : Int)) = true:=decide_eq_true c5
 clear c5
 by_cases c6 : ((rd_T50 l0_5 a1).f0) < 0
 ·rw [if_pos c6] at H
  have c6b0 : decide (((rd_T50 l0_5 a1).f0) < 0) = true:=decide_eq_true c6
  clear c6
  simp only [Option.some.injEq,Prod.mk.injEq] at H
  obtain ⟨rfl,rfl⟩:=H
  obtain ⟨Ao7,co7,eo7⟩:=Kd.R_slice HO0_5.out
  subst eo7
  go_enter Try.func49,Try.ntmps49
  go_wp2_with (first|((with_reducible refine gate_dst (N:=3) rfl ?_);refine box_ev (N:=3) (cs:=#[.int .i64 a0_0,.int .i64 a0_1,.slice A0_2 l0_2.length c0_2,.slice A0_3 l0_3.length c0_3,.slice A0_4 l0_4.length c0_4,.slice Ao7 l0_5.length co7]) (t:=33) ?_;intro gb494 hg w8 hbox hb;have BK494:=Aside0.mk (hbox);have GW494:=Aside0.mk ((by rw [hg];exact (by first|exact HK.out.1|exact (show Kept w _ (fun k_ => P0_5_ k_) from by repeat (first|(with_reducible first|exact HK.out|apply Kept.alloc|apply Kept.drewN|apply Kept.drew)|exact HK.out)).1) : w.heap.size ≤ gb494));have GE494 : Aside0 (w0.heap.size ≤ gb494):=gsz hg;replace HO0_5:=rbw HO0_5 hb;replace HK:=Aside0.mk (Kept.below (S:=(fun k_ => P0_5_ k_)) (by repeat (first|(with_reducible first|exact HK.out|apply Kept.alloc|apply Kept.drewN|apply Kept.drew)|exact HK.out)) hb);replace HB:=hbs hb;clear hb hbox hg;obtain ⟨_,_,_,_,_,_,_,_,_,_,_,_⟩:=cells6 BK494.out;have p495 : 0 ≤ (a1 : Int):=of_decide_eq_true (by first|(with_reducible assumption)|assumption);have q495 : a1 < (l0_5.length : Int):=of_decide_eq_true (by first|(with_reducible assumption)|assumption);obtain ⟨ad495,e495,hx495_0,hx495_1,hx495_2,hx495_3,hx495_4⟩:=at_T50 (Kd.R_reads' HO0_5.out).2.2 a1 p495 q495;cases e495;replace p495:=eq_true p495;replace q495:=eq_true q495)|((with_reducible refine gate_dst (N:=7) rfl ?_);refine box_ev (N:=7) (cs:=#[.int .i64 0,.int .i64 0,.int .i64 0,.int .i64 0,.int .i64 0]) (t:=50) ?_;intro gb496 hg w10 hbox hb;have BK496:=Aside0.mk (hbox);have GW496:=Aside0.mk ((by rw [hg];exact (by first|exact HK.out.1|exact (show Kept w _ (fun k_ => P0_5_ k_) from by repeat (first|(with_reducible first|exact HK.out|apply Kept.alloc|apply Kept.drewN|apply Kept.drew|refine Kept.setCell ?_ (.inr GW494.out) _)|exact HK.out)).1) : w.heap.size ≤ gb496));have GE496 : Aside0 (w0.heap.size ≤ gb496):=gsz hg;have NB494_496:=nbl BK494 hg;have NB496_494:=nbr BK494 hg;replace HO0_5:=Aside0.mk (Kd.R_below (Kd.R_elderB (Kd.R_up HO0_5.out) gb496 (Nat.le_of_eq hg.symm)) hb);replace BK494:=bkb BK494 hb;replace HK:=Aside0.mk (Kept.below (S:=(fun k_ => P0_5_ k_)) (by repeat (first|(with_reducible first|exact HK.out|apply Kept.alloc|apply Kept.drewN|apply Kept.drew|refine Kept.setCell ?_ (.inr GW494.out) _)|exact HK.out)) hb);replace HB:=hbs hb;clear hb hbox hg;have hnb11:=NB496_494.out;have hnc11:=NB494_496.out;obtain ⟨_,_,_,_,_,_,_,_,_,_⟩:=cells5 BK496.out))
  go_ret
  exact ⟨er_,by (with_reducible repeat (first|apply Kd.R_alloc|apply Kd.R_drewN|apply Kd.R_drew));exact Kd.R_mono (Kd.R_fars gb496 (Kd.R_mono HO0_5.out (fun k_ hk => (⟨hk,hk.2⟩ : _ ∧ k_ ≠ gb496))) (fun _ hk => hk.2)) (fun _ hk => hk.1.1),hb_,by repeat (first|(with_reducible first|exact HK.out|apply Kept.alloc|apply Kept.drewN|apply Kept.drew|refine Kept.setCell ?_ (.inr GW494.out) _|refine Kept.setCell ?_ (.inr GW496.out) _)|exact HK.out)⟩
 rw [if_neg c6] at H
 have c6b0 : decide (((rd_T50 l0_5 a1).f0) < 0) = false:=decide_eq_false c6
 clear c6
 by_cases c13 : (wrap64 (((rd_T50 l0_5 a1).f4) + ((rd_T50 l0_5 a1).f3))) ≥ 192
 rotate_left
 ·rw [if_neg c13] at H
  have c13b0 : decide (192 ≤ (wrap64 (((rd_T50 l0_5 a1).f4) + ((rd_T50 l0_5 a1).f3)))) = false:=decide_eq_false c13
  clear c13
  obtain ⟨y505,hy505⟩ : ∃ y_ : List (S50),y_ = (l0_5.set (a1 : Int).toNat (⟨(rd_T50 l0_5 a1).f0,(rd_T50 l0_5 a1).f1,(rd_T50 l0_5 a1).f2,(rd_T50 l0_5 a1).f3,wrap64 (((rd_T50 l0_5 a1).f4) + ((rd_T50 l0_5 a1).f3))⟩ : S50)):=⟨_,rfl⟩
  replace H : (some (0,y505)) = some (r1,r2):=by first|(rw [hy505];with_reducible exact H)|(have H2_:=(Option.bind_some _ _).symm.trans H;rw [hy505];with_reducible exact H2_)|(have H2_:=(Option.bind_some _ _).symm.trans H;with_reducible exact H2_)|with_reducible exact H|(rw [hy505];exact H)|exact H
  have Ny505:=Aside0.mk hy505
  clear hy505
  simp only [Option.some.injEq,Prod.mk.injEq] at H
  obtain ⟨rfl,rfl⟩:=H
  obtain ⟨Ao74,co74,eo74⟩:=Kd.R_slice HO0_5.out
  subst eo74
  go_enter Try.func49,Try.ntmps49
  go_wp2_with (first|((with_reducible refine gate_dst (N:=3) rfl ?_);refine box_ev (N:=3) (cs:=#[.int .i64 a0_0,.int .i64 a0_1,.slice A0_2 l0_2.length c0_2,.slice A0_3 l0_3.length c0_3,.slice A0_4 l0_4.length c0_4,.slice Ao74 l0_5.length co74]) (t:=33) ?_;intro gb494 hg w75 hbox hb;have BK494:=Aside0.mk (hbox);have GW494:=Aside0.mk ((by rw [hg];exact (by first|exact HK.out.1|exact (show Kept w _ (fun k_ => P0_5_ k_) from by repeat (first|(with_reducible first|exact HK.out|apply Kept.alloc|apply Kept.drewN|apply Kept.drew)|exact HK.out)).1) : w.heap.size ≤ gb494));have GE494 : Aside0 (w0.heap.size ≤ gb494):=gsz hg;replace HO0_5:=rbw HO0_5 hb;replace HK:=Aside0.mk (Kept.below (S:=(fun k_ => P0_5_ k_)) (by repeat (first|(with_reducible first|exact HK.out|apply Kept.alloc|apply Kept.drewN|apply Kept.drew)|exact HK.out)) hb);replace HB:=hbs hb;clear hb hbox hg;obtain ⟨_,_,_,_,_,_,_,_,_,_,_,_⟩:=cells6 BK494.out;have p495 : 0 ≤ (a1 : Int):=of_decide_eq_true (by first|(with_reducible assumption)|assumption);have q495 : a1 < (l0_5.length : Int):=of_decide_eq_true (by first|(with_reducible assumption)|assumption);obtain ⟨ad495,e495,hx495_0,hx495_1,hx495_2,hx495_3,hx495_4⟩:=at_T50 (Kd.R_reads' HO0_5.out).2.2 a1 p495 q495;cases e495;replace p495:=eq_true p495;replace q495:=eq_true q495)|((with_reducible refine gate_dst (N:=7) rfl ?_);refine box_ev (N:=7) (cs:=#[.int .i64 0,.int .i64 0,.int .i64 0,.int .i64 0,.int .i64 0]) (t:=50) ?_;intro gb496 hg w77 hbox hb;have BK496:=Aside0.mk (hbox);have GW496:=Aside0.mk ((by rw [hg];exact (by first|exact HK.out.1|exact (show Kept w _ (fun k_ => P0_5_ k_) from by repeat (first|(with_reducible first|exact HK.out|apply Kept.alloc|apply Kept.drewN|apply Kept.drew|refine Kept.setCell ?_ (.inr GW494.out) _)|exact HK.out)).1) : w.heap.size ≤ gb496));have GE496 : Aside0 (w0.heap.size ≤ gb496):=gsz hg;have NB494_496:=nbl BK494 hg;have NB496_494:=nbr BK494 hg;replace HO0_5:=Aside0.mk (Kd.R_below (Kd.R_elderB (Kd.R_up HO0_5.out) gb496 (Nat.le_of_eq hg.symm)) hb);replace BK494:=bkb BK494 hb;replace HK:=Aside0.mk (Kept.below (S:=(fun k_ => P0_5_ k_)) (by repeat (first|(with_reducible first|exact HK.out|apply Kept.alloc|apply Kept.drewN|apply Kept.drew|refine Kept.setCell ?_ (.inr GW494.out) _)|exact HK.out)) hb);replace HB:=hbs hb;clear hb hbox hg;have hnb78:=NB496_494.out;have hnc78:=NB494_496.out;obtain ⟨_,_,_,_,_,_,_,_,_,_⟩:=cells5 BK496.out)|((with_reducible refine gate_store (t:=50) (p:=7) rfl ?_);refine store_event (t:=50) (p:=7) (v:=?vo_w80) (w1:=(((((w77.setCell ⟨gb496,0,none⟩ (.int .i64 ((rd_T50 l0_5 a1).f0))).setCell ⟨gb496,1,none⟩ (.int .i64 ((rd_T50 l0_5 a1).f1))).setCell ⟨gb496,2,none⟩ (.int .i64 ((rd_T50 l0_5 a1).f2))).setCell ⟨gb496,3,none⟩ (.int .i64 ((rd_T50 l0_5 a1).f3))).setCell ⟨gb496,4,none⟩ (.int .i64 ((rd_T50 l0_5 a1).f4)))) ?hg ?ho ?hn ?hr ?_;(case ho => rfl);(case hg => rfl);(case hn => rfl);(case hr => first|(go_simp;done)|(go_simp;rfl));intro w80 hw;have n0_ : Aside0 (Kd.R k50 50 w80 w0.heap.size (fun k_ => (P0_5_ k_ ∨ w.heap.size ≤ k_) ∧ k_ ≠ gb496) (.slice (some ad495) l0_5.length co74) l0_5):=⟨(by rw [hw];exact (by (with_reducible repeat (first|apply Kd.R_alloc|apply Kd.R_drewN|apply Kd.R_drew));exact Kd.R_mono (Kd.R_fars gb496 (Kd.R_mono HO0_5.out (fun k_ hk => (⟨hk,hk.2⟩ : _ ∧ k_ ≠ gb496))) (fun _ hk => hk.2)) (fun _ hk => ⟨hk.1.1,hk.1.2⟩)))⟩;have n1_ : Aside0 (w80.heap[gb494]? = some (.cells #[.int .i64 a0_0,.int .i64 a0_1,.slice A0_2 l0_2.length c0_2,.slice A0_3 l0_3.length c0_3,.slice A0_4 l0_4.length c0_4,.slice (some ad495) l0_5.length co74] 33 (0,0))):=⟨(by rw [hw];exact (by (with_reducible repeat (first|refine blk_drewN ?_ _|refine blk_drew ?_|refine blk_alloc ?_ _));refine blk_far ?_ NB494_496.out _;(with_reducible repeat (first|refine blk_drewN ?_ _|refine blk_drew ?_|refine blk_alloc ?_ _));refine blk_far ?_ NB494_496.out _;(with_reducible repeat (first|refine blk_drewN ?_ _|refine blk_drew ?_|refine blk_alloc ?_ _));refine blk_far ?_ NB494_496.out _;(with_reducible repeat (first|refine blk_drewN ?_ _|refine blk_drew ?_|refine blk_alloc ?_ _));refine blk_far ?_ NB494_496.out _;(with_reducible repeat (first|refine blk_drewN ?_ _|refine blk_drew ?_|refine blk_alloc ?_ _));refine blk_far ?_ NB494_496.out _;(with_reducible repeat (first|refine blk_drewN ?_ _|refine blk_drew ?_|refine blk_alloc ?_ _));exact BK494.out))⟩;have n2_ : Aside0 (w80.heap[gb496]? = some (.cells #[.int .i64 ((rd_T50 l0_5 a1).f0),.int .i64 ((rd_T50 l0_5 a1).f1),.int .i64 ((rd_T50 l0_5 a1).f2),.int .i64 ((rd_T50 l0_5 a1).f3),.int .i64 ((rd_T50 l0_5 a1).f4)] 50 (0,0))):=⟨(by rw [hw];exact (by (with_reducible repeat (first|refine blk_drewN ?_ _|refine blk_drew ?_|refine blk_alloc ?_ _));exact blk_puts5 (blk_up BK496.out)))⟩;have n3_ : Aside0 (Kept w w80 (fun k_ => P0_5_ k_)):=⟨(by rw [hw];exact (by repeat (first|(with_reducible first|exact HK.out|apply Kept.alloc|apply Kept.drewN|apply Kept.drew|refine Kept.setCell ?_ (.inr GW494.out) _|refine Kept.setCell ?_ (.inr GW496.out) _)|exact HK.out)))⟩;have n4_ : Aside0 (Below w0.heap.size w0 w80):=⟨(by rw [hw];exact (hb_))⟩;clear hw;clear HO0_5;clear BK494;clear BK496;clear HK;clear HB;have HO0_5:=n0_;have BK494:=n1_;have BK496:=n2_;have HK:=n3_;have HB:=n4_;clear n0_ n1_ n2_ n3_ n4_;obtain ⟨_,_,_,_,_,_,_,_,_,_⟩:=cells5 BK496.out)|((with_reducible refine gate_store (t:=3) (p:=26) rfl ?_);refine store_event (t:=3) (p:=26) (v:=?vo_w82) (w1:=(w80.setCell ⟨gb496,4,none⟩ (.int .i64 (wrap64 (((rd_T50 l0_5 a1).f4) + ((rd_T50 l0_5 a1).f3)))))) ?hg ?ho ?hn ?hr ?_;(case ho => rfl);(case hg => rfl);(case hn => rfl);(case hr => first|(go_simp;done)|(go_simp;rfl));intro w82 hw;have n0_ : Aside0 (Kd.R k50 50 w82 w0.heap.size (fun k_ => (P0_5_ k_ ∨ w.heap.size ≤ k_) ∧ k_ ≠ gb496) (.slice (some ad495) l0_5.length co74) l0_5):=⟨(by rw [hw];exact (by (with_reducible repeat (first|apply Kd.R_alloc|apply Kd.R_drewN|apply Kd.R_drew));exact Kd.R_mono (Kd.R_far (p:=⟨gb496,4,none⟩) (Kd.R_mono HO0_5.out (fun k_ hk => (⟨hk,hk.2⟩ : _ ∧ k_ ≠ gb496))) (fun _ hk => hk.2) (.int .i64 (wrap64 (((rd_T50 l0_5 a1).f4) + ((rd_T50 l0_5 a1).f3))))) (fun _ hk => ⟨hk.1.1,hk.1.2⟩)))⟩;have n1_ : Aside0 (w82.heap[gb494]? = some (.cells #[.int .i64 a0_0,.int .i64 a0_1,.slice A0_2 l0_2.length c0_2,.slice A0_3 l0_3.length c0_3,.slice A0_4 l0_4.length c0_4,.slice (some ad495) l0_5.length co74] 33 (0,0))):=⟨(by rw [hw];exact (by (with_reducible repeat (first|refine blk_drewN ?_ _|refine blk_drew ?_|refine blk_alloc ?_ _));refine blk_far ?_ NB494_496.out _;(with_reducible repeat (first|refine blk_drewN ?_ _|refine blk_drew ?_|refine blk_alloc ?_ _));exact BK494.out))⟩;have n2_ : Aside0 (w82.heap[gb496]? = some (.cells #[.int .i64 ((rd_T50 l0_5 a1).f0),.int .i64 ((rd_T50 l0_5 a1).f1),.int .i64 ((rd_T50 l0_5 a1).f2),.int .i64 ((rd_T50 l0_5 a1).f3),.int .i64 (wrap64 (((rd_T50 l0_5 a1).f4) + ((rd_T50 l0_5 a1).f3)))] 50 (0,0))):=⟨(by rw [hw];exact (by (with_reducible repeat (first|refine blk_drewN ?_ _|refine blk_drew ?_|refine blk_alloc ?_ _));refine blk_put (cs:=#[.int .i64 ((rd_T50 l0_5 a1).f0),.int .i64 ((rd_T50 l0_5 a1).f1),.int .i64 ((rd_T50 l0_5 a1).f2),.int .i64 ((rd_T50 l0_5 a1).f3),.int .i64 ((rd_T50 l0_5 a1).f4)]) ?_ 4 _ rfl;(with_reducible repeat (first|refine blk_drewN ?_ _|refine blk_drew ?_|refine blk_alloc ?_ _));exact BK496.out))⟩;have n3_ : Aside0 (Kept w w82 (fun k_ => P0_5_ k_)):=⟨(by rw [hw];exact (by repeat (first|(with_reducible first|exact HK.out|apply Kept.alloc|apply Kept.drewN|apply Kept.drew|refine Kept.setCell ?_ (.inr GW494.out) _|refine Kept.setCell ?_ (.inr GW496.out) _)|exact HK.out)))⟩;have n4_ : Aside0 (Below w0.heap.size w0 w82):=⟨(by rw [hw];exact (hb_))⟩;clear hw;clear HO0_5;clear BK494;clear BK496;clear HK;clear HB;have HO0_5:=n0_;have BK494:=n1_;have BK496:=n2_;have HK:=n3_;have HB:=n4_;clear n0_ n1_ n2_ n3_ n4_;obtain ⟨_,_,_,_,_,_,_,_,_,_⟩:=cells5 BK496.out;obtain ⟨_,_,_,_,_,_,_,_,_,_,_,_⟩:=cells6 BK494.out;have p73 : 0 ≤ (a1 : Int):=of_decide_eq_true (by first|(with_reducible assumption)|assumption);have q73 : (a1 : Int) < ((l0_5.length : Int) : Int):=of_decide_eq_true (by first|(with_reducible assumption)|assumption);obtain ⟨go73,co73,eo73,gb73,gl73,cl73,HG73⟩:=Kd.R_form HO0_5.out (by omega);(first|cases eo73|(injection eo73 with ea_ en_ ec_;(first|subst ea_|(injection ea_ with ea_;subst ea_));subst ec_;clear en_));have GB73:=Aside0.mk gb73;have GG73:=Aside0.mk HG73;clear gb73 gl73 HG73;have HMgo73:=Aside0.mk (show (P0_5_ go73 ∨ w.heap.size ≤ go73) from (HO0_5.out.1 _ rfl).1);(first|simp only [add_plain] at hx495_0|skip);(first|simp only [add_plain] at hx495_1|skip);(first|simp only [add_plain] at hx495_2|skip);(first|simp only [add_plain] at hx495_3|skip);(first|simp only [add_plain] at hx495_4|skip);obtain ⟨ce73,hcl73,hM73,hcc73,hfr73⟩:=Kd.R_elem HO0_5.out z50 (a1 : Int) p73 q73;obtain rfl:=k50_openM hM73;have hx73_0 : w82.cell? ⟨go73,(a1 : Int).toNat * 5,none⟩ = some (.int .i64 ((rd_T50 l0_5 a1).f0)):=hcc73 0 _ rfl;have hx73_1 : w82.cell? ⟨go73,(a1 : Int).toNat * 5 + 1,none⟩ = some (.int .i64 ((rd_T50 l0_5 a1).f1)):=hcc73 1 _ rfl;have hx73_2 : w82.cell? ⟨go73,(a1 : Int).toNat * 5 + 2,none⟩ = some (.int .i64 ((rd_T50 l0_5 a1).f2)):=hcc73 2 _ rfl;have hx73_3 : w82.cell? ⟨go73,(a1 : Int).toNat * 5 + 3,none⟩ = some (.int .i64 ((rd_T50 l0_5 a1).f3)):=hcc73 3 _ rfl;have hx73_4 : w82.cell? ⟨go73,(a1 : Int).toNat * 5 + 4,none⟩ = some (.int .i64 ((rd_T50 l0_5 a1).f4)):=hcc73 4 _ rfl;have hf73_0 : w82.frozen? ⟨go73,(a1 : Int).toNat * 5,none⟩ = false:=hfr73 0;have hf73_1 : w82.frozen? ⟨go73,(a1 : Int).toNat * 5 + 1,none⟩ = false:=hfr73 1;have hf73_2 : w82.frozen? ⟨go73,(a1 : Int).toNat * 5 + 2,none⟩ = false:=hfr73 2;have hf73_3 : w82.frozen? ⟨go73,(a1 : Int).toNat * 5 + 3,none⟩ = false:=hfr73 3;have hf73_4 : w82.frozen? ⟨go73,(a1 : Int).toNat * 5 + 4,none⟩ = false:=hfr73 4;clear hcl73 hcc73 hfr73 hM73;replace p73:=eq_true p73;replace q73:=eq_true q73;have HX85:=Aside0.mk (show Kd.R k50 50 w82 w0.heap.size (fun k_ => (P0_5_ k_ ∨ w.heap.size ≤ k_) ∧ k_ ≠ gb496) (.slice (some ⟨go73,0,none⟩) l0_5.length co74) l0_5 from (Kd.R_up HO0_5.out));obtain ⟨ce85,hcl85,hM85,hcc85,hfr85⟩:=Kd.R_elem HX85.out z50 (a1 : Int) (of_decide_eq_true (by first|(with_reducible assumption)|assumption)) (by have h_ : (a1 : Int) < ((l0_5.length : Int) : Int):=of_decide_eq_true (by first|(with_reducible assumption)|assumption);first|exact h_|(have e_:=(Kd.R_reads' HO0_5.out).1;omega)|simpa using h_);obtain rfl:=k50_openM hM85;have HP85:=Kd.R_seg HX85.out (a1 : Int) (of_decide_eq_true (by first|(with_reducible assumption)|assumption)) (by have h_ : (a1 : Int) < ((l0_5.length : Int) : Int):=of_decide_eq_true (by first|(with_reducible assumption)|assumption);first|exact h_|(have e_:=(Kd.R_reads' HO0_5.out).1;omega)|simpa using h_) (seg:=[.int .i64 ((rd_T50 l0_5 a1).f0),.int .i64 ((rd_T50 l0_5 a1).f1),.int .i64 ((rd_T50 l0_5 a1).f2),.int .i64 ((rd_T50 l0_5 a1).f3),.int .i64 (wrap64 (((rd_T50 l0_5 a1).f4) + ((rd_T50 l0_5 a1).f3)))]) (j:=0) hcl85 hcc85 (show 5 ≤ 5 from by decide) (x':=(⟨(rd_T50 l0_5 a1).f0,(rd_T50 l0_5 a1).f1,(rd_T50 l0_5 a1).f2,(rd_T50 l0_5 a1).f3,wrap64 (((rd_T50 l0_5 a1).f4) + ((rd_T50 l0_5 a1).f3))⟩ : S50)) (k50_mkM _ _ _ (⟨(rd_T50 l0_5 a1).f0,(rd_T50 l0_5 a1).f1,(rd_T50 l0_5 a1).f2,(rd_T50 l0_5 a1).f3,wrap64 (((rd_T50 l0_5 a1).f4) + ((rd_T50 l0_5 a1).f3))⟩ : S50) ) (fun _ hk => hk);have hx85_0:=hcc85 0 _ rfl;(try simp only [show (k50).sz = 5 from rfl,Nat.mul_one,Nat.add_zero] at hx85_0);have hf85_0:=hfr85 0;(try simp only [show (k50).sz = 5 from rfl,Nat.mul_one,Nat.add_zero] at hf85_0);have hx85_1:=hcc85 1 _ rfl;(try simp only [show (k50).sz = 5 from rfl,Nat.mul_one,Nat.add_zero] at hx85_1);have hf85_1:=hfr85 1;(try simp only [show (k50).sz = 5 from rfl,Nat.mul_one,Nat.add_zero] at hf85_1);have hx85_2:=hcc85 2 _ rfl;(try simp only [show (k50).sz = 5 from rfl,Nat.mul_one,Nat.add_zero] at hx85_2);have hf85_2:=hfr85 2;(try simp only [show (k50).sz = 5 from rfl,Nat.mul_one,Nat.add_zero] at hf85_2);have hx85_3:=hcc85 3 _ rfl;(try simp only [show (k50).sz = 5 from rfl,Nat.mul_one,Nat.add_zero] at hx85_3);have hf85_3:=hfr85 3;(try simp only [show (k50).sz = 5 from rfl,Nat.mul_one,Nat.add_zero] at hf85_3);have hx85_4:=hcc85 4 _ rfl;(try simp only [show (k50).sz = 5 from rfl,Nat.mul_one,Nat.add_zero] at hx85_4);have hf85_4:=hfr85 4;(try simp only [show (k50).sz = 5 from rfl,Nat.mul_one,Nat.add_zero] at hf85_4);clear hcl85 hcc85 hfr85 hM85)|((with_reducible refine gate_store (t:=50) (p:=85) rfl ?_);refine store_event (t:=50) (p:=85) (v:=?vo_w86) (w1:=(((((w82.setCell ⟨go73,(a1 : Int).toNat * 5,none⟩ (.int .i64 ((rd_T50 l0_5 a1).f0))).setCell ⟨go73,(a1 : Int).toNat * 5 + 1,none⟩ (.int .i64 ((rd_T50 l0_5 a1).f1))).setCell ⟨go73,(a1 : Int).toNat * 5 + 2,none⟩ (.int .i64 ((rd_T50 l0_5 a1).f2))).setCell ⟨go73,(a1 : Int).toNat * 5 + 3,none⟩ (.int .i64 ((rd_T50 l0_5 a1).f3))).setCell ⟨go73,(a1 : Int).toNat * 5 + 4,none⟩ (.int .i64 (wrap64 (((rd_T50 l0_5 a1).f4) + ((rd_T50 l0_5 a1).f3)))))) ?hg ?ho ?hn ?hr ?_;(case ho => rfl);(case hg => rfl);(case hn => rfl);(case hr => first|(go_simp;done)|(go_simp;rfl));intro w86 hw;have hg : w82.grownBy w86 (some go73):=(by rw [hw];exact HP85.2);have hp_ : Kd.R k50 50 w86 w0.heap.size (fun k_ => (P0_5_ k_ ∨ w.heap.size ≤ k_) ∧ k_ ≠ gb496) (.slice (some ⟨go73,0,none⟩) l0_5.length co74) y505:=(by rw [hw,Ny505.out];exact HP85.1);clear HP85;replace BK494:=Aside0.mk (blk_grown (blk_up BK494.out) hg (Kd.R_ne HO0_5.out BK494.out (by decide)));replace BK496:=Aside0.mk (blk_grown (blk_up BK496.out) hg (Kd.R_away HO0_5.out (fun _ hk => hk.2)));replace HB:=Aside0.mk ((by rw [hw];exact below_set (below_set (below_set (below_set (below_set (HB.out) GB73.out) GB73.out) GB73.out) GB73.out) GB73.out : Below w0.heap.size w0 w86));replace HK:=Aside0.mk (Kept.of_grown (S:=(fun k_ => P0_5_ k_)) hg (by repeat (first|(with_reducible first|exact HK.out|apply Kept.alloc|apply Kept.drewN|apply Kept.drew|refine Kept.setCell ?_ (.inr GW494.out) _|refine Kept.setCell ?_ (.inr GW496.out) _)|exact HK.out)) (fun k_ e_ => (HO0_5.out.1 k_ e_).1));replace HO0_5:=Aside0.mk (hp_);clear hg hw hp_))
  go_ret
  exact ⟨er_,by (with_reducible repeat (first|apply Kd.R_alloc|apply Kd.R_drewN|apply Kd.R_drew));exact Kd.R_mono HO0_5.out (fun _ hk => hk.1),hb_,by repeat (first|(with_reducible first|exact HK.out|apply Kept.alloc|apply Kept.drewN|apply Kept.drew|refine Kept.setCell ?_ (.inr GW494.out) _|refine Kept.setCell ?_ (.inr GW496.out) _)|exact HK.out)⟩
 rw [if_pos c13] at H
 have c13b0 : decide (192 ≤ (wrap64 (((rd_T50 l0_5 a1).f4) + ((rd_T50 l0_5 a1).f3)))) = true:=decide_eq_true c13
 clear c13
 replace H:=Option.bind_eq_some_iff.mp H
 obtain ⟨t497,A140,H⟩:=H
 replace H : ((hinterlandref17_choose.f k a0_0 a0_1 l0_2 l0_3 t497 (Int.tmod (wrap64 (((rd_T50 l0_5 a1).f2) + 2)) 4) a2).bind fun bt498 => (if bt498.2 = true then ((hinterlandref17_in.f k l0_4 t497).bind fun t500 => (if t500 = true then (hinterlandref17_step.j0 k a1 a2 0 t497 (Int.tmod (wrap64 (((rd_T50 l0_5 a1).f2) + 2)) 4) bt498.1 false a0_0 a0_1 l0_2 l0_3 l0_4 l0_5 ((rd_T50 l0_5 a1).f0) ((rd_T50 l0_5 a1).f1) ((rd_T50 l0_5 a1).f2) ((rd_T50 l0_5 a1).f3) (wrap64 (((rd_T50 l0_5 a1).f4) + ((rd_T50 l0_5 a1).f3)))) else ((hinterlandref17_taken.f k a0_0 a0_1 l0_2 l0_3 l0_4 l0_5 a1 t497 bt498.1).bind fun t501 => (hinterlandref17_step.j0 k a1 a2 0 t497 (Int.tmod (wrap64 (((rd_T50 l0_5 a1).f2) + 2)) 4) bt498.1 (!t501) a0_0 a0_1 l0_2 l0_3 l0_4 l0_5 ((rd_T50 l0_5 a1).f0) ((rd_T50 l0_5 a1).f1) ((rd_T50 l0_5 a1).f2) ((rd_T50 l0_5 a1).f3) (wrap64 (((rd_T50 l0_5 a1).f4) + ((rd_T50 l0_5 a1).f3))))))) else (hinterlandref17_step.j0 k a1 a2 0 t497 (Int.tmod (wrap64 (((rd_T50 l0_5 a1).f2) + 2)) 4) bt498.1 false a0_0 a0_1 l0_2 l0_3 l0_4 l0_5 ((rd_T50 l0_5 a1).f0) ((rd_T50 l0_5 a1).f1) ((rd_T50 l0_5 a1).f2) ((rd_T50 l0_5 a1).f3) (wrap64 (((rd_T50 l0_5 a1).f4) + ((rd_T50 l0_5 a1).f3)))))) = some (r1,r2):=H
 have A14:=Aside0.mk A140
 clear A140
 replace H:=Option.bind_eq_some_iff.mp H
 obtain ⟨⟨t498,t499⟩,A150,H⟩:=H
 replace H : (if t499 = true then ((hinterlandref17_in.f k l0_4 t497).bind fun t500 => (if t500 = true then (hinterlandref17_step.j0 k a1 a2 0 t497 (Int.tmod (wrap64 (((rd_T50 l0_5 a1).f2) + 2)) 4) t498 false a0_0 a0_1 l0_2 l0_3 l0_4 l0_5 ((rd_T50 l0_5 a1).f0) ((rd_T50 l0_5 a1).f1) ((rd_T50 l0_5 a1).f2) ((rd_T50 l0_5 a1).f3) (wrap64 (((rd_T50 l0_5 a1).f4) + ((rd_T50 l0_5 a1).f3)))) else ((hinterlandref17_taken.f k a0_0 a0_1 l0_2 l0_3 l0_4 l0_5 a1 t497 t498).bind fun t501 => (hinterlandref17_step.j0 k a1 a2 0 t497 (Int.tmod (wrap64 (((rd_T50 l0_5 a1).f2) + 2)) 4) t498 (!t501) a0_0 a0_1 l0_2 l0_3 l0_4 l0_5 ((rd_T50 l0_5 a1).f0) ((rd_T50 l0_5 a1).f1) ((rd_T50 l0_5 a1).f2) ((rd_T50 l0_5 a1).f3) (wrap64 (((rd_T50 l0_5 a1).f4) + ((rd_T50 l0_5 a1).f3))))))) else (hinterlandref17_step.j0 k a1 a2 0 t497 (Int.tmod (wrap64 (((rd_T50 l0_5 a1).f2) + 2)) 4) t498 false a0_0 a0_1 l0_2 l0_3 l0_4 l0_5 ((rd_T50 l0_5 a1).f0) ((rd_T50 l0_5 a1).f1) ((rd_T50 l0_5 a1).f2) ((rd_T50 l0_5 a1).f3) (wrap64 (((rd_T50 l0_5 a1).f4) + ((rd_T50 l0_5 a1).f3))))) = some (r1,r2):=H
 have A15:=Aside0.mk A150
 clear A150
 have HC16:=Aside0.mk H
 clear H
 obtain ⟨Ao17,co17,eo17⟩:=Kd.R_slice HO0_5.out
 subst eo17
 go_enter Try.func49,Try.ntmps49
 go_wp2_with (first|((with_reducible refine gate_dst (N:=3) rfl ?_);refine box_ev (N:=3) (cs:=#[.int .i64 a0_0,.int .i64 a0_1,.slice A0_2 l0_2.length c0_2,.slice A0_3 l0_3.length c0_3,.slice A0_4 l0_4.length c0_4,.slice Ao17 l0_5.length co17]) (t:=33) ?_;intro gb494 hg w18 hbox hb;have BK494:=Aside0.mk (hbox);have GW494:=Aside0.mk ((by rw [hg];exact (by first|exact HK.out.1|exact (show Kept w _ (fun k_ => P0_5_ k_) from by repeat (first|(with_reducible first|exact HK.out|apply Kept.alloc|apply Kept.drewN|apply Kept.drew)|exact HK.out)).1) : w.heap.size ≤ gb494));have GE494 : Aside0 (w0.heap.size ≤ gb494):=gsz hg;replace HO0_5:=rbw HO0_5 hb;replace HK:=Aside0.mk (Kept.below (S:=(fun k_ => P0_5_ k_)) (by repeat (first|(with_reducible first|exact HK.out|apply Kept.alloc|apply Kept.drewN|apply Kept.drew)|exact HK.out)) hb);replace HB:=hbs hb;clear hb hbox hg;obtain ⟨_,_,_,_,_,_,_,_,_,_,_,_⟩:=cells6 BK494.out;have p495 : 0 ≤ (a1 : Int):=of_decide_eq_true (by first|(with_reducible assumption)|assumption);have q495 : a1 < (l0_5.length : Int):=of_decide_eq_true (by first|(with_reducible assumption)|assumption);obtain ⟨ad495,e495,hx495_0,hx495_1,hx495_2,hx495_3,hx495_4⟩:=at_T50 (Kd.R_reads' HO0_5.out).2.2 a1 p495 q495;cases e495;replace p495:=eq_true p495;replace q495:=eq_true q495)|((with_reducible refine gate_dst (N:=7) rfl ?_);refine box_ev (N:=7) (cs:=#[.int .i64 0,.int .i64 0,.int .i64 0,.int .i64 0,.int .i64 0]) (t:=50) ?_;intro gb496 hg w20 hbox hb;have BK496:=Aside0.mk (hbox);have GW496:=Aside0.mk ((by rw [hg];exact (by first|exact HK.out.1|exact (show Kept w _ (fun k_ => P0_5_ k_) from by repeat (first|(with_reducible first|exact HK.out|apply Kept.alloc|apply Kept.drewN|apply Kept.drew|refine Kept.setCell ?_ (.inr GW494.out) _)|exact HK.out)).1) : w.heap.size ≤ gb496));have GE496 : Aside0 (w0.heap.size ≤ gb496):=gsz hg;have NB494_496:=nbl BK494 hg;have NB496_494:=nbr BK494 hg;replace HO0_5:=Aside0.mk (Kd.R_below (Kd.R_elderB (Kd.R_up HO0_5.out) gb496 (Nat.le_of_eq hg.symm)) hb);replace BK494:=bkb BK494 hb;replace HK:=Aside0.mk (Kept.below (S:=(fun k_ => P0_5_ k_)) (by repeat (first|(with_reducible first|exact HK.out|apply Kept.alloc|apply Kept.drewN|apply Kept.drew|refine Kept.setCell ?_ (.inr GW494.out) _)|exact HK.out)) hb);replace HB:=hbs hb;clear hb hbox hg;have hnb21:=NB496_494.out;have hnc21:=NB494_496.out;obtain ⟨_,_,_,_,_,_,_,_,_,_⟩:=cells5 BK496.out)|((with_reducible refine gate_store (t:=50) (p:=7) rfl ?_);refine store_event (t:=50) (p:=7) (v:=?vo_w80) (w1:=(((((w20.setCell ⟨gb496,0,none⟩ (.int .i64 ((rd_T50 l0_5 a1).f0))).setCell ⟨gb496,1,none⟩ (.int .i64 ((rd_T50 l0_5 a1).f1))).setCell ⟨gb496,2,none⟩ (.int .i64 ((rd_T50 l0_5 a1).f2))).setCell ⟨gb496,3,none⟩ (.int .i64 ((rd_T50 l0_5 a1).f3))).setCell ⟨gb496,4,none⟩ (.int .i64 ((rd_T50 l0_5 a1).f4)))) ?hg ?ho ?hn ?hr ?_;(case ho => rfl);(case hg => rfl);(case hn => rfl);(case hr => first|(go_simp;done)|(go_simp;rfl));intro w230 hw;have n0_ : Aside0 (Kd.R k50 50 w230 w0.heap.size (fun k_ => (P0_5_ k_ ∨ w.heap.size ≤ k_) ∧ k_ ≠ gb496) (.slice (some ad495) l0_5.length co17) l0_5):=⟨(by rw [hw];exact (by (with_reducible repeat (first|apply Kd.R_alloc|apply Kd.R_drewN|apply Kd.R_drew));exact Kd.R_mono (Kd.R_fars gb496 (Kd.R_mono HO0_5.out (fun k_ hk => (⟨hk,hk.2⟩ : _ ∧ k_ ≠ gb496))) (fun _ hk => hk.2)) (fun _ hk => ⟨hk.1.1,hk.1.2⟩)))⟩;have n1_ : Aside0 (w230.heap[gb494]? = some (.cells #[.int .i64 a0_0,.int .i64 a0_1,.slice A0_2 l0_2.length c0_2,.slice A0_3 l0_3.length c0_3,.slice A0_4 l0_4.length c0_4,.slice (some ad495) l0_5.length co17] 33 (0,0))):=⟨(by rw [hw];exact (by (with_reducible repeat (first|refine blk_drewN ?_ _|refine blk_drew ?_|refine blk_alloc ?_ _));refine blk_far ?_ NB494_496.out _;(with_reducible repeat (first|refine blk_drewN ?_ _|refine blk_drew ?_|refine blk_alloc ?_ _));refine blk_far ?_ NB494_496.out _;(with_reducible repeat (first|refine blk_drewN ?_ _|refine blk_drew ?_|refine blk_alloc ?_ _));refine blk_far ?_ NB494_496.out _;(with_reducible repeat (first|refine blk_drewN ?_ _|refine blk_drew ?_|refine blk_alloc ?_ _));refine blk_far ?_ NB494_496.out _;(with_reducible repeat (first|refine blk_drewN ?_ _|refine blk_drew ?_|refine blk_alloc ?_ _));refine blk_far ?_ NB494_496.out _;(with_reducible repeat (first|refine blk_drewN ?_ _|refine blk_drew ?_|refine blk_alloc ?_ _));exact BK494.out))⟩;have n2_ : Aside0 (w230.heap[gb496]? = some (.cells #[.int .i64 ((rd_T50 l0_5 a1).f0),.int .i64 ((rd_T50 l0_5 a1).f1),.int .i64 ((rd_T50 l0_5 a1).f2),.int .i64 ((rd_T50 l0_5 a1).f3),.int .i64 ((rd_T50 l0_5 a1).f4)] 50 (0,0))):=⟨(by rw [hw];exact (by (with_reducible repeat (first|refine blk_drewN ?_ _|refine blk_drew ?_|refine blk_alloc ?_ _));exact blk_puts5 (blk_up BK496.out)))⟩;have n3_ : Aside0 (Kept w w230 (fun k_ => P0_5_ k_)):=⟨(by rw [hw];exact (by repeat (first|(with_reducible first|exact HK.out|apply Kept.alloc|apply Kept.drewN|apply Kept.drew|refine Kept.setCell ?_ (.inr GW494.out) _|refine Kept.setCell ?_ (.inr GW496.out) _)|exact HK.out)))⟩;have n4_ : Aside0 (Below w0.heap.size w0 w230):=⟨(by rw [hw];exact (hb_))⟩;clear hw;clear HO0_5;clear BK494;clear BK496;clear HK;clear HB;have HO0_5:=n0_;have BK494:=n1_;have BK496:=n2_;have HK:=n3_;have HB:=n4_;clear n0_ n1_ n2_ n3_ n4_;obtain ⟨_,_,_,_,_,_,_,_,_,_⟩:=cells5 BK496.out)|((with_reducible refine gate_store (t:=3) (p:=26) rfl ?_);refine store_event (t:=3) (p:=26) (v:=?vo_w82) (w1:=(w230.setCell ⟨gb496,4,none⟩ (.int .i64 (wrap64 (((rd_T50 l0_5 a1).f4) + ((rd_T50 l0_5 a1).f3)))))) ?hg ?ho ?hn ?hr ?_;(case ho => rfl);(case hg => rfl);(case hn => rfl);(case hr => first|(go_simp;done)|(go_simp;rfl));intro w23 hw;have n0_ : Aside0 (Kd.R k50 50 w23 w0.heap.size (fun k_ => (P0_5_ k_ ∨ w.heap.size ≤ k_) ∧ k_ ≠ gb496) (.slice (some ad495) l0_5.length co17) l0_5):=⟨(by rw [hw];exact (by (with_reducible repeat (first|apply Kd.R_alloc|apply Kd.R_drewN|apply Kd.R_drew));exact Kd.R_mono (Kd.R_far (p:=⟨gb496,4,none⟩) (Kd.R_mono HO0_5.out (fun k_ hk => (⟨hk,hk.2⟩ : _ ∧ k_ ≠ gb496))) (fun _ hk => hk.2) (.int .i64 (wrap64 (((rd_T50 l0_5 a1).f4) + ((rd_T50 l0_5 a1).f3))))) (fun _ hk => ⟨hk.1.1,hk.1.2⟩)))⟩;have n1_ : Aside0 (w23.heap[gb494]? = some (.cells #[.int .i64 a0_0,.int .i64 a0_1,.slice A0_2 l0_2.length c0_2,.slice A0_3 l0_3.length c0_3,.slice A0_4 l0_4.length c0_4,.slice (some ad495) l0_5.length co17] 33 (0,0))):=⟨(by rw [hw];exact (by (with_reducible repeat (first|refine blk_drewN ?_ _|refine blk_drew ?_|refine blk_alloc ?_ _));refine blk_far ?_ NB494_496.out _;(with_reducible repeat (first|refine blk_drewN ?_ _|refine blk_drew ?_|refine blk_alloc ?_ _));exact BK494.out))⟩;have n2_ : Aside0 (w23.heap[gb496]? = some (.cells #[.int .i64 ((rd_T50 l0_5 a1).f0),.int .i64 ((rd_T50 l0_5 a1).f1),.int .i64 ((rd_T50 l0_5 a1).f2),.int .i64 ((rd_T50 l0_5 a1).f3),.int .i64 (wrap64 (((rd_T50 l0_5 a1).f4) + ((rd_T50 l0_5 a1).f3)))] 50 (0,0))):=⟨(by rw [hw];exact (by (with_reducible repeat (first|refine blk_drewN ?_ _|refine blk_drew ?_|refine blk_alloc ?_ _));refine blk_put (cs:=#[.int .i64 ((rd_T50 l0_5 a1).f0),.int .i64 ((rd_T50 l0_5 a1).f1),.int .i64 ((rd_T50 l0_5 a1).f2),.int .i64 ((rd_T50 l0_5 a1).f3),.int .i64 ((rd_T50 l0_5 a1).f4)]) ?_ 4 _ rfl;(with_reducible repeat (first|refine blk_drewN ?_ _|refine blk_drew ?_|refine blk_alloc ?_ _));exact BK496.out))⟩;have n3_ : Aside0 (Kept w w23 (fun k_ => P0_5_ k_)):=⟨(by rw [hw];exact (by repeat (first|(with_reducible first|exact HK.out|apply Kept.alloc|apply Kept.drewN|apply Kept.drew|refine Kept.setCell ?_ (.inr GW494.out) _|refine Kept.setCell ?_ (.inr GW496.out) _)|exact HK.out)))⟩;have n4_ : Aside0 (Below w0.heap.size w0 w23):=⟨(by rw [hw];exact (hb_))⟩;clear hw;clear HO0_5;clear BK494;clear BK496;clear HK;clear HB;have HO0_5:=n0_;have BK494:=n1_;have BK496:=n2_;have HK:=n3_;have HB:=n4_;clear n0_ n1_ n2_ n3_ n4_;obtain ⟨_,_,_,_,_,_,_,_,_,_⟩:=cells5 BK496.out))
 replace HO0_5:=Aside0.mk (Kd.R_drew HO0_5.out)
 replace BK494:=Aside0.mk (blk_drew BK494.out)
 replace BK496:=Aside0.mk (blk_drew BK496.out)
 replace HK:=Aside0.mk (Kept.drew HK.out)
 replace HB:=Aside0.mk (below_drew1 HB.out)
 refine start_ (n:=13) (S:=fun w' => w'.cell? ⟨gb494,0,none⟩ = some (.int .i64 a0_0) ∧ w'.cell? ⟨gb494,1,none⟩ = some (.int .i64 a0_1) ∧ w'.cell? ⟨gb494,2,none⟩ = some (.slice A0_2 l0_2.length c0_2) ∧ w'.cell? ⟨gb494,3,none⟩ = some (.slice A0_3 l0_3.length c0_3) ∧ w'.cell? ⟨gb494,4,none⟩ = some (.slice A0_4 l0_4.length c0_4) ∧ w'.cell? ⟨gb494,5,none⟩ = some (.slice (some ad495) l0_5.length co17) ∧ w'.cell? ⟨gb496,0,none⟩ = some (.int .i64 ((rd_T50 l0_5 a1).f0)) ∧ w'.cell? ⟨gb496,1,none⟩ = some (.int .i64 ((rd_T50 l0_5 a1).f1)) ∧ w'.cell? ⟨gb496,2,none⟩ = some (.int .i64 ((rd_T50 l0_5 a1).f2)) ∧ w'.cell? ⟨gb496,3,none⟩ = some (.int .i64 ((rd_T50 l0_5 a1).f3)) ∧ w'.cell? ⟨gb496,4,none⟩ = some (.int .i64 (wrap64 (((rd_T50 l0_5 a1).f4) + ((rd_T50 l0_5 a1).f3))))) (ds:=[]) #[false,false,false,false,false,false,false,false,false,false,false,false,false] (by kernel_rfl) rfl rfl ⟨(blk_cell BK494.out 0).trans rfl,(blk_cell BK494.out 1).trans rfl,(blk_cell BK494.out 2).trans rfl,(blk_cell BK494.out 3).trans rfl,(blk_cell BK494.out 4).trans rfl,(blk_cell BK494.out 5).trans rfl,(blk_cell BK496.out 0).trans rfl,(blk_cell BK496.out 1).trans rfl,(blk_cell BK496.out 2).trans rfl,(blk_cell BK496.out 3).trans rfl,(blk_cell BK496.out 4).trans rfl⟩ (fun hHeld => ?_);refine with_tabW hinterlandref17_step.tab7 hinterlandref17_step.bits7 (fun HT_ HW_ => ?_)
 generalize w23.drew = w24 at HO0_5 BK494 BK496 HK HB hHeld ⊢
 refine pI 0 (some 30) ?_
 refine pI 2 (some 32) ?_
 refine pI 4 (some 34) ?_
 refine pI 7 (some 37) ?_
 refine take_ (i:=1) (N:=some 31) (v:=?_) (a':=?_) #[true,true,true,false,true,false,false,true,false,false,false,false,false] rfl rfl (take_ofW HT_.out HW_.out (by kernel_rfl)) (fun _ _ _ h => h) (Or.inl ⟨by rfl,?_⟩) hHeld ?_ ?_
 rotate_left
 ·rintro w' ⟨s0,s1,s2,s3,s4,s5,s6,s7,s8,s9,s10⟩
  go_simp
  with_reducible rfl
 rotate_left
 ·simp only [Act.put,List.setIfInBounds_toArray,List.set_cons_zero,List.set_cons_succ,i64_w,i32_w]
  rfl
 refine take_ (i:=3) (N:=some 33) (v:=?_) (a':=?_) #[true,true,true,true,true,false,false,true,false,false,false,false,false] rfl rfl (take_ofW HT_.out HW_.out (by kernel_rfl)) (fun _ _ _ h => h) (Or.inl ⟨by rfl,?_⟩) hHeld ?_ ?_
 rotate_left
 ·rintro w' ⟨s0,s1,s2,s3,s4,s5,s6,s7,s8,s9,s10⟩
  go_simp
  with_reducible rfl
 rotate_left
 ·simp only [Act.put,List.setIfInBounds_toArray,List.set_cons_zero,List.set_cons_succ,i64_w,i32_w]
  rfl
 refine take_ (i:=5) (N:=some 35) (v:=?_) (a':=?_) #[true,true,true,true,true,true,false,true,false,false,false,false,false] rfl rfl (take_ofW HT_.out HW_.out (by kernel_rfl)) (fun _ _ _ h => h) (Or.inl ⟨by rfl,?_⟩) hHeld ?_ ?_
 rotate_left
 ·rintro w' ⟨s0,s1,s2,s3,s4,s5,s6,s7,s8,s9,s10⟩
  go_simp
  with_reducible rfl
 rotate_left
 ·simp only [Act.put,List.setIfInBounds_toArray,List.set_cons_zero,List.set_cons_succ,i64_w,i32_w]
  rfl
 refine take_ (i:=8) (N:=some 38) (v:=?_) (a':=?_) #[true,true,true,true,true,true,false,true,true,false,false,false,false] rfl rfl (take_ofW HT_.out HW_.out (by kernel_rfl)) (fun _ _ _ h => h) (Or.inl ⟨by rfl,?_⟩) hHeld ?_ ?_
 rotate_left
 ·rintro w' ⟨s0,s1,s2,s3,s4,s5,s6,s7,s8,s9,s10⟩
  go_simp
  with_reducible rfl
 rotate_left
 ·simp only [Act.put,List.setIfInBounds_toArray,List.set_cons_zero,List.set_cons_succ,i64_w,i32_w]
  rfl
 refine pI 9 (some 39) ?_
 refine pI 10 (some 40) ?_
 refine oI 6 (some 36) (fun K hK => ?_)
 refine goes_ Try.func67 (by kernel_rfl) rfl #[.agg #[.int .i64 a0_0,.int .i64 a0_1,.slice A0_2 l0_2.length c0_2,.slice A0_3 l0_3.length c0_3],.int .i64 ((rd_T50 l0_5 a1).f0),.int .i64 ((rd_T50 l0_5 a1).f2)] (by rfl) rfl rfl ga_ ?_
 with_reducible refine (hinterlandref17_beyond.calls a0_0 a0_1 _ _ l0_2 _ _ l0_3 ((rd_T50 l0_5 a1).f0) ((rd_T50 l0_5 a1).f2) t497 _ ?side1 ?side2 ?side3 ?side4 A14.out).mono ?_
 (case side1 => exact Kd.C_kept_now HR0_2.out (by repeat (first|(with_reducible first|exact HK.out|apply Kept.alloc|apply Kept.drewN|apply Kept.drew|refine Kept.setCell ?_ (.inr GW494.out) _|refine Kept.setCell ?_ (.inr GW496.out) _)|exact HK.out)))
 (case side2 => exact HC0_2.out)
 (case side3 => exact Kd.C_kept_now HR0_3.out (by repeat (first|(with_reducible first|exact HK.out|apply Kept.alloc|apply Kept.drewN|apply Kept.drew|refine Kept.setCell ?_ (.inr GW494.out) _|refine Kept.setCell ?_ (.inr GW496.out) _)|exact HK.out)))
 (case side4 => exact HC0_3.out)
 rintro e w25 ⟨rfl,hb⟩
 refine ⟨_,rfl,?_⟩
 have n0_:=rbw HO0_5 hb
 have n1_:=bkb BK494 hb
 have n2_:=bkb BK496 hb
 have n3_:=Aside0.mk (Kept.below (S:=(fun k_ => P0_5_ k_)) (by repeat (first|(with_reducible first|exact HK.out|apply Kept.alloc|apply Kept.drewN|apply Kept.drew|refine Kept.setCell ?_ (.inr GW494.out) _|refine Kept.setCell ?_ (.inr GW496.out) _)|exact HK.out)) hb)
 have n4_:=Aside0.mk (below_step (hb_) hb)
 clear HO0_5
 clear BK494
 clear BK496
 clear HK
 clear HB
 have HO0_5:=n0_
 have BK494:=n1_
 have BK496:=n2_
 have HK:=n3_
 have HB:=n4_
 clear n0_ n1_ n2_ n3_ n4_
 (try clear hb)
 (try clear hb2)
 (try clear hk)
 (try clear hi)
 refine hK.out _ _ ⟨(blk_cell BK494.out 0).trans rfl,(blk_cell BK494.out 1).trans rfl,(blk_cell BK494.out 2).trans rfl,(blk_cell BK494.out 3).trans rfl,(blk_cell BK494.out 4).trans rfl,(blk_cell BK494.out 5).trans rfl,(blk_cell BK496.out 0).trans rfl,(blk_cell BK496.out 1).trans rfl,(blk_cell BK496.out 2).trans rfl,(blk_cell BK496.out 3).trans rfl,(blk_cell BK496.out 4).trans rfl⟩ (fun hHeld => ?_)
 clear hK K
 refine norm_ (a':=?_) ?_ ?_
 rotate_left
 ·show Act.put _ (some 36) _ = _
  simp only [Act.put,List.setIfInBounds_toArray,List.set_cons_zero,List.set_cons_succ,i64_w,i32_w]
  rfl
 refine pI 11 (some 9) ?_
 refine pI 12 (some 10) ?_
 refine done_ (done_of HT_.out (by kernel_rfl)) ?_
 obtain ⟨_,_,_,_,_,_,_,_,_,_,_,_⟩:=cells6 BK494.out
 go_upto_region 9 with (first|((with_reducible refine gate_callee (f:=35) rfl ?_);refine goesL_ (some 47) rfl rfl Try.func35 (by kernel_rfl) rfl #[.agg #[.int .i64 a0_0,.int .i64 a0_1,.slice A0_2 l0_2.length c0_2,.slice A0_3 l0_3.length c0_3],.int .i64 t497,.int .i64 (Int.tmod (wrap64 (((rd_T50 l0_5 a1).f2) + 2)) 4),.int .i64 a2] rfl ga_ ?_;(with_reducible refine (hinterlandref17_choose.calls k a0_0 a0_1 _ _ l0_2 _ _ l0_3 t497 (Int.tmod (wrap64 (((rd_T50 l0_5 a1).f2) + 2)) 4) a2 t498 t499 _ ?_ ?_ ?_ ?_ A15.out).mono ?_);(focus (exact Kd.C_kept_now HR0_2.out (by repeat (first|(with_reducible first|exact HK.out|apply Kept.alloc|apply Kept.drewN|apply Kept.drew|refine Kept.setCell ?_ (.inr GW494.out) _|refine Kept.setCell ?_ (.inr GW496.out) _)|exact HK.out))));exact HC0_2.out;(focus (exact Kd.C_kept_now HR0_3.out (by repeat (first|(with_reducible first|exact HK.out|apply Kept.alloc|apply Kept.drewN|apply Kept.drew|refine Kept.setCell ?_ (.inr GW494.out) _|refine Kept.setCell ?_ (.inr GW496.out) _)|exact HK.out))));exact HC0_3.out;rintro e w27 ⟨rfl,hb⟩;refine ⟨_,rfl,?_⟩;replace HO0_5:=rbw HO0_5 hb;replace BK494:=bkb BK494 hb;replace BK496:=bkb BK496 hb;replace HK:=Aside0.mk (Kept.below (S:=(fun k_ => P0_5_ k_)) (by repeat (first|(with_reducible first|exact HK.out|apply Kept.alloc|apply Kept.drewN|apply Kept.drew|refine Kept.setCell ?_ (.inr GW494.out) _|refine Kept.setCell ?_ (.inr GW496.out) _)|exact HK.out)) hb);replace HB:=hbs hb))
 (try simp only [Act.put,List.setIfInBounds_toArray,List.set_cons_zero,List.set_cons_succ])
 go_cut [65] (fun v65 wc => ∃ (kq : Nat) (x65_15 : Bool),v65 = .bool x65_15 ∧ Aside0 (hinterlandref17_step.j0 kq a1 a2 0 t497 (Int.tmod (wrap64 (((rd_T50 l0_5 a1).f2) + 2)) 4) t498 x65_15 a0_0 a0_1 l0_2 l0_3 l0_4 l0_5 ((rd_T50 l0_5 a1).f0) ((rd_T50 l0_5 a1).f1) ((rd_T50 l0_5 a1).f2) ((rd_T50 l0_5 a1).f3) (wrap64 (((rd_T50 l0_5 a1).f4) + ((rd_T50 l0_5 a1).f3))) = some (r1,r2)) ∧ Aside0 (kq ≤ k) ∧ Aside0 (Kd.R k50 50 wc w0.heap.size (fun k_ => (P0_5_ k_ ∨ w.heap.size ≤ k_) ∧ k_ ≠ gb496) (.slice (some ad495) l0_5.length co17) l0_5) ∧ Aside0 (wc.heap[gb494]? = some (.cells #[.int .i64 a0_0,.int .i64 a0_1,(.slice A0_2 l0_2.length c0_2),(.slice A0_3 l0_3.length c0_3),(.slice A0_4 l0_4.length c0_4),(.slice (some ad495) l0_5.length co17)] 33 (0,0))) ∧ Aside0 (wc.heap[gb496]? = some (.cells #[.int .i64 ((rd_T50 l0_5 a1).f0),.int .i64 ((rd_T50 l0_5 a1).f1),.int .i64 ((rd_T50 l0_5 a1).f2),.int .i64 ((rd_T50 l0_5 a1).f3),.int .i64 (wrap64 (((rd_T50 l0_5 a1).f4) + ((rd_T50 l0_5 a1).f3)))] 50 (0,0))) ∧ Aside0 (Kept w wc (fun k_ => P0_5_ k_)) ∧ Aside0 (Below w0.heap.size w0 wc))
 case first =>
  have H:=HC16.out
  clear HC16
  by_cases c28 : t499 = true
  ·subst c28
   have H1 : ((hinterlandref17_in.f k l0_4 t497).bind fun t500 => (if t500 = true then (hinterlandref17_step.j0 k a1 a2 0 t497 (Int.tmod (wrap64 (((rd_T50 l0_5 a1).f2) + 2)) 4) t498 false a0_0 a0_1 l0_2 l0_3 l0_4 l0_5 ((rd_T50 l0_5 a1).f0) ((rd_T50 l0_5 a1).f1) ((rd_T50 l0_5 a1).f2) ((rd_T50 l0_5 a1).f3) (wrap64 (((rd_T50 l0_5 a1).f4) + ((rd_T50 l0_5 a1).f3)))) else ((hinterlandref17_taken.f k a0_0 a0_1 l0_2 l0_3 l0_4 l0_5 a1 t497 t498).bind fun t501 => (hinterlandref17_step.j0 k a1 a2 0 t497 (Int.tmod (wrap64 (((rd_T50 l0_5 a1).f2) + 2)) 4) t498 (!t501) a0_0 a0_1 l0_2 l0_3 l0_4 l0_5 ((rd_T50 l0_5 a1).f0) ((rd_T50 l0_5 a1).f1) ((rd_T50 l0_5 a1).f2) ((rd_T50 l0_5 a1).f3) (wrap64 (((rd_T50 l0_5 a1).f4) + ((rd_T50 l0_5 a1).f3))))))) = some (r1,r2):=by rw [if_pos rfl] at H;exact H
   clear H
   have H:=H1
   clear H1
   replace H:=Option.bind_eq_some_iff.mp H
   obtain ⟨t500,A290,H⟩:=H
   replace H : (if t500 = true then (hinterlandref17_step.j0 k a1 a2 0 t497 (Int.tmod (wrap64 (((rd_T50 l0_5 a1).f2) + 2)) 4) t498 false a0_0 a0_1 l0_2 l0_3 l0_4 l0_5 ((rd_T50 l0_5 a1).f0) ((rd_T50 l0_5 a1).f1) ((rd_T50 l0_5 a1).f2) ((rd_T50 l0_5 a1).f3) (wrap64 (((rd_T50 l0_5 a1).f4) + ((rd_T50 l0_5 a1).f3)))) else ((hinterlandref17_taken.f k a0_0 a0_1 l0_2 l0_3 l0_4 l0_5 a1 t497 t498).bind fun t501 => (hinterlandref17_step.j0 k a1 a2 0 t497 (Int.tmod (wrap64 (((rd_T50 l0_5 a1).f2) + 2)) 4) t498 (!t501) a0_0 a0_1 l0_2 l0_3 l0_4 l0_5 ((rd_T50 l0_5 a1).f0) ((rd_T50 l0_5 a1).f1) ((rd_T50 l0_5 a1).f2) ((rd_T50 l0_5 a1).f3) (wrap64 (((rd_T50 l0_5 a1).f4) + ((rd_T50 l0_5 a1).f3)))))) = some (r1,r2):=H
   have A29:=Aside0.mk A290
   clear A290
   by_cases c30 : t500 = true
   ·subst c30
    have H1 : (hinterlandref17_step.j0 k a1 a2 0 t497 (Int.tmod (wrap64 (((rd_T50 l0_5 a1).f2) + 2)) 4) t498 false a0_0 a0_1 l0_2 l0_3 l0_4 l0_5 ((rd_T50 l0_5 a1).f0) ((rd_T50 l0_5 a1).f1) ((rd_T50 l0_5 a1).f2) ((rd_T50 l0_5 a1).f3) (wrap64 (((rd_T50 l0_5 a1).f4) + ((rd_T50 l0_5 a1).f3)))) = some (r1,r2):=by rw [if_pos rfl] at H;exact H
    clear H
    have H:=H1
    clear H1
    have H':=Aside0.mk H
    clear H
    have hnb31:=NB494_496.out
    have hnc31:=NB496_494.out
    obtain ⟨_,_,_,_,_,_,_,_,_,_,_,_⟩:=cells6 BK494.out
    go_wp2_with (first|(go_at_call 71;(with_reducible refine (hinterlandref17_in.calls k _ _ l0_4 t497 true _ ?_ ?_ A29.out).mono ?_);(focus (exact Kd.C_kept_now HR0_4.out (by repeat (first|(with_reducible first|exact HK.out|apply Kept.alloc|apply Kept.drewN|apply Kept.drew|refine Kept.setCell ?_ (.inr GW494.out) _|refine Kept.setCell ?_ (.inr GW496.out) _)|exact HK.out))));exact HC0_4.out;rintro e w' ⟨rfl,⟨nd,rfl⟩⟩))
    go_meet
    case rel => exact ⟨_,(false),(by first|rfl|(simp;done)|(simp [*];done)),H',⟨by first|omega|exact Nat.le_refl _⟩,⟨Kd.R_up HO0_5.out⟩,⟨blk_up BK494.out⟩,⟨blk_up BK496.out⟩,⟨by repeat (first|(with_reducible first|exact HK.out|apply Kept.alloc|apply Kept.drewN|apply Kept.drew|refine Kept.setCell ?_ (.inr GW494.out) _|refine Kept.setCell ?_ (.inr GW496.out) _)|exact HK.out)⟩,⟨hb_⟩⟩
   ·replace c30:=Bool.eq_false_iff.mpr c30
    subst c30
    have H1 : ((hinterlandref17_taken.f k a0_0 a0_1 l0_2 l0_3 l0_4 l0_5 a1 t497 t498).bind fun t501 => (hinterlandref17_step.j0 k a1 a2 0 t497 (Int.tmod (wrap64 (((rd_T50 l0_5 a1).f2) + 2)) 4) t498 (!t501) a0_0 a0_1 l0_2 l0_3 l0_4 l0_5 ((rd_T50 l0_5 a1).f0) ((rd_T50 l0_5 a1).f1) ((rd_T50 l0_5 a1).f2) ((rd_T50 l0_5 a1).f3) (wrap64 (((rd_T50 l0_5 a1).f4) + ((rd_T50 l0_5 a1).f3))))) = some (r1,r2):=by rw [if_neg (show ¬ (false = true) by decide)] at H;exact H
    clear H
    have H:=H1
    clear H1
    replace H:=Option.bind_eq_some_iff.mp H
    obtain ⟨t501,A330,H⟩:=H
    replace H : (hinterlandref17_step.j0 k a1 a2 0 t497 (Int.tmod (wrap64 (((rd_T50 l0_5 a1).f2) + 2)) 4) t498 (!t501) a0_0 a0_1 l0_2 l0_3 l0_4 l0_5 ((rd_T50 l0_5 a1).f0) ((rd_T50 l0_5 a1).f1) ((rd_T50 l0_5 a1).f2) ((rd_T50 l0_5 a1).f3) (wrap64 (((rd_T50 l0_5 a1).f4) + ((rd_T50 l0_5 a1).f3)))) = some (r1,r2):=H
    have A33:=Aside0.mk A330
    clear A330
    have H':=Aside0.mk H
    clear H
    have hnb34:=NB494_496.out
    have hnc34:=NB496_494.out
    obtain ⟨_,_,_,_,_,_,_,_,_,_,_,_⟩:=cells6 BK494.out
    go_wp2_with (first|(go_at_call 71;(with_reducible refine (hinterlandref17_in.calls k _ _ l0_4 t497 false _ ?_ ?_ A29.out).mono ?_);(focus (exact Kd.C_kept_now HR0_4.out (by repeat (first|(with_reducible first|exact HK.out|apply Kept.alloc|apply Kept.drewN|apply Kept.drew|refine Kept.setCell ?_ (.inr GW494.out) _|refine Kept.setCell ?_ (.inr GW496.out) _)|exact HK.out))));exact HC0_4.out;rintro e w' ⟨rfl,⟨nd,rfl⟩⟩)|(go_at_call 41;(with_reducible refine (hinterlandref17_taken.calls k a0_0 a0_1 _ _ l0_2 _ _ l0_3 _ _ l0_4 _ _ l0_5 a1 t497 t498 t501 _ ?_ ?_ ?_ ?_ ?_ ?_ ?_ ?_ A33.out).mono ?_);(focus (exact Kd.C_kept_now HR0_2.out (by repeat (first|(with_reducible first|exact HK.out|apply Kept.alloc|apply Kept.drewN|apply Kept.drew|refine Kept.setCell ?_ (.inr GW494.out) _|refine Kept.setCell ?_ (.inr GW496.out) _)|exact HK.out))));exact HC0_2.out;(focus (exact Kd.C_kept_now HR0_3.out (by repeat (first|(with_reducible first|exact HK.out|apply Kept.alloc|apply Kept.drewN|apply Kept.drew|refine Kept.setCell ?_ (.inr GW494.out) _|refine Kept.setCell ?_ (.inr GW496.out) _)|exact HK.out))));exact HC0_3.out;(focus (exact Kd.C_kept_now HR0_4.out (by repeat (first|(with_reducible first|exact HK.out|apply Kept.alloc|apply Kept.drewN|apply Kept.drew|refine Kept.setCell ?_ (.inr GW494.out) _|refine Kept.setCell ?_ (.inr GW496.out) _)|exact HK.out))));exact HC0_4.out;exact Kd.C_up (Kd.R_reads' HO0_5.out).2.2;exact (Kd.R_reads' HO0_5.out).2.1;rintro e w36 ⟨rfl,hb⟩;replace HO0_5:=rbw HO0_5 hb;replace BK494:=bkb BK494 hb;replace BK496:=bkb BK496 hb;replace HK:=Aside0.mk (Kept.below (S:=(fun k_ => P0_5_ k_)) (by repeat (first|(with_reducible first|exact HK.out|apply Kept.alloc|apply Kept.drewN|apply Kept.drew|refine Kept.setCell ?_ (.inr GW494.out) _|refine Kept.setCell ?_ (.inr GW496.out) _)|exact HK.out)) hb);replace HB:=hbs hb))
    go_meet
    case rel => exact ⟨_,(!t501),(by first|rfl|(simp;done)|(simp [*];done)),H',⟨by first|omega|exact Nat.le_refl _⟩,⟨Kd.R_up HO0_5.out⟩,⟨blk_up BK494.out⟩,⟨blk_up BK496.out⟩,⟨by repeat (first|(with_reducible first|exact HK.out|apply Kept.alloc|apply Kept.drewN|apply Kept.drew|refine Kept.setCell ?_ (.inr GW494.out) _|refine Kept.setCell ?_ (.inr GW496.out) _)|exact HK.out)⟩,⟨hb_⟩⟩
  ·replace c28:=Bool.eq_false_iff.mpr c28
   subst c28
   have H1 : (hinterlandref17_step.j0 k a1 a2 0 t497 (Int.tmod (wrap64 (((rd_T50 l0_5 a1).f2) + 2)) 4) t498 false a0_0 a0_1 l0_2 l0_3 l0_4 l0_5 ((rd_T50 l0_5 a1).f0) ((rd_T50 l0_5 a1).f1) ((rd_T50 l0_5 a1).f2) ((rd_T50 l0_5 a1).f3) (wrap64 (((rd_T50 l0_5 a1).f4) + ((rd_T50 l0_5 a1).f3)))) = some (r1,r2):=by rw [if_neg (show ¬ (false = true) by decide)] at H;exact H
   clear H
   have H:=H1
   clear H1
   have H':=Aside0.mk H
   clear H
   go_wp2
   go_meet
   case rel => exact ⟨_,(false),(by first|rfl|(simp;done)|(simp [*];done)),H',⟨by first|omega|exact Nat.le_refl _⟩,⟨Kd.R_up HO0_5.out⟩,⟨blk_up BK494.out⟩,⟨blk_up BK496.out⟩,⟨by repeat (first|(with_reducible first|exact HK.out|apply Kept.alloc|apply Kept.drewN|apply Kept.drew|refine Kept.setCell ?_ (.inr GW494.out) _|refine Kept.setCell ?_ (.inr GW496.out) _)|exact HK.out)⟩,⟨hb_⟩⟩
 case rest =>
  clear HC16
  obtain ⟨kq,x65_15,rfl,HA,HJ15,HO_495005,BK494,BK496,HK,HB⟩:=hcut
  cases kq with
  | zero => exact absurd HA.out (by simp [hinterlandref17_step.j0])
  | succ kj15 =>
   have H:=HA.out
   clear HA
   simp only [hinterlandref17_step.j0] at H
   by_cases c37 : x65_15 = true
   ·subst c37
    have H1 : (if t497 = a2 then (if 0 ≤ a1 then (if a1 < (l0_5.length : Int) then (some (3,(l0_5.set (a1 : Int).toNat (⟨t497,(Int.tmod (wrap64 (((rd_T50 l0_5 a1).f2) + 2)) 4),t498,((rd_T50 l0_5 a1).f3),0⟩ : S50)))) else (none)) else (none)) else (if 0 ≤ a1 then (if a1 < (l0_5.length : Int) then (some (0,(l0_5.set (a1 : Int).toNat (⟨t497,(Int.tmod (wrap64 (((rd_T50 l0_5 a1).f2) + 2)) 4),t498,((rd_T50 l0_5 a1).f3),wrap64 ((wrap64 (((rd_T50 l0_5 a1).f4) + ((rd_T50 l0_5 a1).f3))) - 192)⟩ : S50)))) else (none)) else (none))) = some (r1,r2):=by rw [if_pos rfl] at H;exact H
    clear H
    have H:=H1
    clear H1
    by_cases c38 : t497 = a2
    ·rw [if_pos c38] at H
     have c38b0:=bqt c38
     have c38b1:=bnf c38
     clear c38
     replace H:=ifp_ H;obtain ⟨c39,H⟩:=H
     have c39b0 : decide (0 ≤ a1) = true:=decide_eq_true c39
     clear c39
     replace H:=ifp_ H;obtain ⟨c40,H⟩:=H
     have c40b0 : decide (a1 < (l0_5.length : Int)) = true:=decide_eq_true c40
     clear c40
     obtain ⟨y502,hy502⟩ : ∃ y_ : List (S50),y_ = (l0_5.set (a1 : Int).toNat (⟨t497,(Int.tmod (wrap64 (((rd_T50 l0_5 a1).f2) + 2)) 4),t498,((rd_T50 l0_5 a1).f3),0⟩ : S50)):=⟨_,rfl⟩
     replace H : (some (3,y502)) = some (r1,r2):=by first|(rw [hy502];with_reducible exact H)|(have H2_:=(Option.bind_some _ _).symm.trans H;rw [hy502];with_reducible exact H2_)|(have H2_:=(Option.bind_some _ _).symm.trans H;with_reducible exact H2_)|with_reducible exact H|(rw [hy502];exact H)|exact H
     have Ny502:=Aside0.mk hy502
     clear hy502
     simp only [Option.some.injEq,Prod.mk.injEq] at H
     obtain ⟨rfl,rfl⟩:=H
     have hnb42:=NB496_494.out
     have hnc42:=NB494_496.out
     obtain ⟨_,_,_,_,_,_,_,_,_,_⟩:=cells5 BK496.out
     go_wp2_with (first|((with_reducible refine gate_store (t:=50) (p:=7) rfl ?_);refine store_event (t:=50) (p:=7) (v:=?vo_w44) (w1:=(((((wc.setCell ⟨gb496,0,none⟩ (.int .i64 t497)).setCell ⟨gb496,1,none⟩ (.int .i64 (Int.tmod (wrap64 (((rd_T50 l0_5 a1).f2) + 2)) 4))).setCell ⟨gb496,2,none⟩ (.int .i64 t498)).setCell ⟨gb496,3,none⟩ (.int .i64 ((rd_T50 l0_5 a1).f3))).setCell ⟨gb496,4,none⟩ (.int .i64 (wrap64 ((wrap64 (((rd_T50 l0_5 a1).f4) + ((rd_T50 l0_5 a1).f3))) - 192))))) ?hg ?ho ?hn ?hr ?_;(case ho => rfl);(case hg => rfl);(case hn => rfl);(case hr => first|(go_simp;done)|(go_simp;rfl));intro w44 hw;have n0_ : Aside0 (Kd.R k50 50 w44 w0.heap.size (fun k_ => (P0_5_ k_ ∨ w.heap.size ≤ k_) ∧ k_ ≠ gb496) (.slice (some ad495) l0_5.length co17) l0_5):=⟨(by rw [hw];exact (by (with_reducible repeat (first|apply Kd.R_alloc|apply Kd.R_drewN|apply Kd.R_drew));exact Kd.R_mono (Kd.R_fars gb496 (Kd.R_mono HO_495005.out (fun k_ hk => (⟨hk,hk.2⟩ : _ ∧ k_ ≠ gb496))) (fun _ hk => hk.2)) (fun _ hk => ⟨hk.1.1,hk.1.2⟩)))⟩;have n1_ : Aside0 (w44.heap[gb494]? = some (.cells #[.int .i64 a0_0,.int .i64 a0_1,.slice A0_2 l0_2.length c0_2,.slice A0_3 l0_3.length c0_3,.slice A0_4 l0_4.length c0_4,.slice (some ad495) l0_5.length co17] 33 (0,0))):=⟨(by rw [hw];exact (by (with_reducible repeat (first|refine blk_drewN ?_ _|refine blk_drew ?_|refine blk_alloc ?_ _));refine blk_far ?_ NB494_496.out _;(with_reducible repeat (first|refine blk_drewN ?_ _|refine blk_drew ?_|refine blk_alloc ?_ _));refine blk_far ?_ NB494_496.out _;(with_reducible repeat (first|refine blk_drewN ?_ _|refine blk_drew ?_|refine blk_alloc ?_ _));refine blk_far ?_ NB494_496.out _;(with_reducible repeat (first|refine blk_drewN ?_ _|refine blk_drew ?_|refine blk_alloc ?_ _));refine blk_far ?_ NB494_496.out _;(with_reducible repeat (first|refine blk_drewN ?_ _|refine blk_drew ?_|refine blk_alloc ?_ _));refine blk_far ?_ NB494_496.out _;(with_reducible repeat (first|refine blk_drewN ?_ _|refine blk_drew ?_|refine blk_alloc ?_ _));exact BK494.out))⟩;have n2_ : Aside0 (w44.heap[gb496]? = some (.cells #[.int .i64 t497,.int .i64 (Int.tmod (wrap64 (((rd_T50 l0_5 a1).f2) + 2)) 4),.int .i64 t498,.int .i64 ((rd_T50 l0_5 a1).f3),.int .i64 (wrap64 ((wrap64 (((rd_T50 l0_5 a1).f4) + ((rd_T50 l0_5 a1).f3))) - 192))] 50 (0,0))):=⟨(by rw [hw];exact (by (with_reducible repeat (first|refine blk_drewN ?_ _|refine blk_drew ?_|refine blk_alloc ?_ _));exact blk_puts5 (blk_up BK496.out)))⟩;have n3_ : Aside0 (Kept w w44 (fun k_ => P0_5_ k_)):=⟨(by rw [hw];exact (by repeat (first|(with_reducible first|exact HK.out|apply Kept.alloc|apply Kept.drewN|apply Kept.drew|refine Kept.setCell ?_ (.inr GW494.out) _|refine Kept.setCell ?_ (.inr GW496.out) _)|exact HK.out)))⟩;have n4_ : Aside0 (Below w0.heap.size w0 w44):=⟨(by rw [hw];exact (hb_))⟩;clear hw;clear HO_495005;clear BK494;clear BK496;clear HK;clear HB;have HO_495005:=n0_;have BK494:=n1_;have BK496:=n2_;have HK:=n3_;have HB:=n4_;clear n0_ n1_ n2_ n3_ n4_;obtain ⟨_,_,_,_,_,_,_,_,_,_⟩:=cells5 BK496.out)|((with_reducible refine gate_store (t:=3) (p:=78) rfl ?_);refine store_event (t:=3) (p:=78) (v:=?vo_w46) (w1:=(w44.setCell ⟨gb496,4,none⟩ (.int .i64 0))) ?hg ?ho ?hn ?hr ?_;(case ho => rfl);(case hg => rfl);(case hn => rfl);(case hr => first|(go_simp;done)|(go_simp;rfl));intro w46 hw;have n0_ : Aside0 (Kd.R k50 50 w46 w0.heap.size (fun k_ => (P0_5_ k_ ∨ w.heap.size ≤ k_) ∧ k_ ≠ gb496) (.slice (some ad495) l0_5.length co17) l0_5):=⟨(by rw [hw];exact (by (with_reducible repeat (first|apply Kd.R_alloc|apply Kd.R_drewN|apply Kd.R_drew));exact Kd.R_mono (Kd.R_far (p:=⟨gb496,4,none⟩) (Kd.R_mono HO_495005.out (fun k_ hk => (⟨hk,hk.2⟩ : _ ∧ k_ ≠ gb496))) (fun _ hk => hk.2) (.int .i64 0)) (fun _ hk => ⟨hk.1.1,hk.1.2⟩)))⟩;have n1_ : Aside0 (w46.heap[gb494]? = some (.cells #[.int .i64 a0_0,.int .i64 a0_1,.slice A0_2 l0_2.length c0_2,.slice A0_3 l0_3.length c0_3,.slice A0_4 l0_4.length c0_4,.slice (some ad495) l0_5.length co17] 33 (0,0))):=⟨(by rw [hw];exact (by (with_reducible repeat (first|refine blk_drewN ?_ _|refine blk_drew ?_|refine blk_alloc ?_ _));refine blk_far ?_ NB494_496.out _;(with_reducible repeat (first|refine blk_drewN ?_ _|refine blk_drew ?_|refine blk_alloc ?_ _));exact BK494.out))⟩;have n2_ : Aside0 (w46.heap[gb496]? = some (.cells #[.int .i64 t497,.int .i64 (Int.tmod (wrap64 (((rd_T50 l0_5 a1).f2) + 2)) 4),.int .i64 t498,.int .i64 ((rd_T50 l0_5 a1).f3),.int .i64 0] 50 (0,0))):=⟨(by rw [hw];exact (by (with_reducible repeat (first|refine blk_drewN ?_ _|refine blk_drew ?_|refine blk_alloc ?_ _));refine blk_put (cs:=#[.int .i64 t497,.int .i64 (Int.tmod (wrap64 (((rd_T50 l0_5 a1).f2) + 2)) 4),.int .i64 t498,.int .i64 ((rd_T50 l0_5 a1).f3),.int .i64 (wrap64 ((wrap64 (((rd_T50 l0_5 a1).f4) + ((rd_T50 l0_5 a1).f3))) - 192))]) ?_ 4 _ rfl;(with_reducible repeat (first|refine blk_drewN ?_ _|refine blk_drew ?_|refine blk_alloc ?_ _));exact BK496.out))⟩;have n3_ : Aside0 (Kept w w46 (fun k_ => P0_5_ k_)):=⟨(by rw [hw];exact (by repeat (first|(with_reducible first|exact HK.out|apply Kept.alloc|apply Kept.drewN|apply Kept.drew|refine Kept.setCell ?_ (.inr GW494.out) _|refine Kept.setCell ?_ (.inr GW496.out) _)|exact HK.out)))⟩;have n4_ : Aside0 (Below w0.heap.size w0 w46):=⟨(by rw [hw];exact (hb_))⟩;clear hw;clear HO_495005;clear BK494;clear BK496;clear HK;clear HB;have HO_495005:=n0_;have BK494:=n1_;have BK496:=n2_;have HK:=n3_;have HB:=n4_;clear n0_ n1_ n2_ n3_ n4_;obtain ⟨_,_,_,_,_,_,_,_,_,_,_,_⟩:=cells6 BK494.out;obtain ⟨_,_,_,_,_,_,_,_,_,_⟩:=cells5 BK496.out;have p41 : 0 ≤ (a1 : Int):=of_decide_eq_true (by first|(with_reducible assumption)|assumption);have q41 : (a1 : Int) < ((l0_5.length : Int) : Int):=of_decide_eq_true (by first|(with_reducible assumption)|assumption);obtain ⟨go41,co41,eo41,gb41,gl41,cl41,HG41⟩:=Kd.R_form HO_495005.out (by omega);(first|cases eo41|(injection eo41 with ea_ en_ ec_;(first|subst ea_|(injection ea_ with ea_;subst ea_));subst ec_;clear en_));have GB41:=Aside0.mk gb41;have GG41:=Aside0.mk HG41;clear gb41 gl41 HG41;have HMgo41:=Aside0.mk (show (P0_5_ go41 ∨ w.heap.size ≤ go41) from (HO_495005.out.1 _ rfl).1);(first|simp only [add_plain] at hx495_0|skip);(first|simp only [add_plain] at hx495_1|skip);(first|simp only [add_plain] at hx495_2|skip);(first|simp only [add_plain] at hx495_3|skip);(first|simp only [add_plain] at hx495_4|skip);obtain ⟨ce41,hcl41,hM41,hcc41,hfr41⟩:=Kd.R_elem HO_495005.out z50 (a1 : Int) p41 q41;obtain rfl:=k50_openM hM41;have hx41_0 : w46.cell? ⟨go41,(a1 : Int).toNat * 5,none⟩ = some (.int .i64 ((rd_T50 l0_5 a1).f0)):=hcc41 0 _ rfl;have hx41_1 : w46.cell? ⟨go41,(a1 : Int).toNat * 5 + 1,none⟩ = some (.int .i64 ((rd_T50 l0_5 a1).f1)):=hcc41 1 _ rfl;have hx41_2 : w46.cell? ⟨go41,(a1 : Int).toNat * 5 + 2,none⟩ = some (.int .i64 ((rd_T50 l0_5 a1).f2)):=hcc41 2 _ rfl;have hx41_3 : w46.cell? ⟨go41,(a1 : Int).toNat * 5 + 3,none⟩ = some (.int .i64 ((rd_T50 l0_5 a1).f3)):=hcc41 3 _ rfl;have hx41_4 : w46.cell? ⟨go41,(a1 : Int).toNat * 5 + 4,none⟩ = some (.int .i64 ((rd_T50 l0_5 a1).f4)):=hcc41 4 _ rfl;have hf41_0 : w46.frozen? ⟨go41,(a1 : Int).toNat * 5,none⟩ = false:=hfr41 0;have hf41_1 : w46.frozen? ⟨go41,(a1 : Int).toNat * 5 + 1,none⟩ = false:=hfr41 1;have hf41_2 : w46.frozen? ⟨go41,(a1 : Int).toNat * 5 + 2,none⟩ = false:=hfr41 2;have hf41_3 : w46.frozen? ⟨go41,(a1 : Int).toNat * 5 + 3,none⟩ = false:=hfr41 3;have hf41_4 : w46.frozen? ⟨go41,(a1 : Int).toNat * 5 + 4,none⟩ = false:=hfr41 4;clear hcl41 hcc41 hfr41 hM41;replace p41:=eq_true p41;replace q41:=eq_true q41;have HX49:=Aside0.mk (show Kd.R k50 50 w46 w0.heap.size (fun k_ => (P0_5_ k_ ∨ w.heap.size ≤ k_) ∧ k_ ≠ gb496) (.slice (some ⟨go41,0,none⟩) l0_5.length co17) l0_5 from (Kd.R_up HO_495005.out));obtain ⟨ce49,hcl49,hM49,hcc49,hfr49⟩:=Kd.R_elem HX49.out z50 (a1 : Int) (of_decide_eq_true (by first|(with_reducible assumption)|assumption)) (by have h_ : (a1 : Int) < ((l0_5.length : Int) : Int):=of_decide_eq_true (by first|(with_reducible assumption)|assumption);first|exact h_|(have e_:=(Kd.R_reads' HO_495005.out).1;omega)|simpa using h_);obtain rfl:=k50_openM hM49;have HP49:=Kd.R_seg HX49.out (a1 : Int) (of_decide_eq_true (by first|(with_reducible assumption)|assumption)) (by have h_ : (a1 : Int) < ((l0_5.length : Int) : Int):=of_decide_eq_true (by first|(with_reducible assumption)|assumption);first|exact h_|(have e_:=(Kd.R_reads' HO_495005.out).1;omega)|simpa using h_) (seg:=[.int .i64 t497,.int .i64 (Int.tmod (wrap64 (((rd_T50 l0_5 a1).f2) + 2)) 4),.int .i64 t498,.int .i64 ((rd_T50 l0_5 a1).f3),.int .i64 0]) (j:=0) hcl49 hcc49 (show 5 ≤ 5 from by decide) (x':=(⟨t497,(Int.tmod (wrap64 (((rd_T50 l0_5 a1).f2) + 2)) 4),t498,((rd_T50 l0_5 a1).f3),0⟩ : S50)) (k50_mkM _ _ _ (⟨t497,(Int.tmod (wrap64 (((rd_T50 l0_5 a1).f2) + 2)) 4),t498,((rd_T50 l0_5 a1).f3),0⟩ : S50) ) (fun _ hk => hk);have hx49_0:=hcc49 0 _ rfl;(try simp only [show (k50).sz = 5 from rfl,Nat.mul_one,Nat.add_zero] at hx49_0);have hf49_0:=hfr49 0;(try simp only [show (k50).sz = 5 from rfl,Nat.mul_one,Nat.add_zero] at hf49_0);have hx49_1:=hcc49 1 _ rfl;(try simp only [show (k50).sz = 5 from rfl,Nat.mul_one,Nat.add_zero] at hx49_1);have hf49_1:=hfr49 1;(try simp only [show (k50).sz = 5 from rfl,Nat.mul_one,Nat.add_zero] at hf49_1);have hx49_2:=hcc49 2 _ rfl;(try simp only [show (k50).sz = 5 from rfl,Nat.mul_one,Nat.add_zero] at hx49_2);have hf49_2:=hfr49 2;(try simp only [show (k50).sz = 5 from rfl,Nat.mul_one,Nat.add_zero] at hf49_2);have hx49_3:=hcc49 3 _ rfl;(try simp only [show (k50).sz = 5 from rfl,Nat.mul_one,Nat.add_zero] at hx49_3);have hf49_3:=hfr49 3;(try simp only [show (k50).sz = 5 from rfl,Nat.mul_one,Nat.add_zero] at hf49_3);have hx49_4:=hcc49 4 _ rfl;(try simp only [show (k50).sz = 5 from rfl,Nat.mul_one,Nat.add_zero] at hx49_4);have hf49_4:=hfr49 4;(try simp only [show (k50).sz = 5 from rfl,Nat.mul_one,Nat.add_zero] at hf49_4);clear hcl49 hcc49 hfr49 hM49)|((with_reducible refine gate_store (t:=50) (p:=85) rfl ?_);refine store_event (t:=50) (p:=85) (v:=?vo_w50) (w1:=(((((w46.setCell ⟨go41,(a1 : Int).toNat * 5,none⟩ (.int .i64 t497)).setCell ⟨go41,(a1 : Int).toNat * 5 + 1,none⟩ (.int .i64 (Int.tmod (wrap64 (((rd_T50 l0_5 a1).f2) + 2)) 4))).setCell ⟨go41,(a1 : Int).toNat * 5 + 2,none⟩ (.int .i64 t498)).setCell ⟨go41,(a1 : Int).toNat * 5 + 3,none⟩ (.int .i64 ((rd_T50 l0_5 a1).f3))).setCell ⟨go41,(a1 : Int).toNat * 5 + 4,none⟩ (.int .i64 0))) ?hg ?ho ?hn ?hr ?_;(case ho => rfl);(case hg => rfl);(case hn => rfl);(case hr => first|(go_simp;done)|(go_simp;rfl));intro w50 hw;have hg : w46.grownBy w50 (some go41):=(by rw [hw];exact HP49.2);have hp_ : Kd.R k50 50 w50 w0.heap.size (fun k_ => (P0_5_ k_ ∨ w.heap.size ≤ k_) ∧ k_ ≠ gb496) (.slice (some ⟨go41,0,none⟩) l0_5.length co17) y502:=(by rw [hw,Ny502.out];exact HP49.1);clear HP49;replace BK494:=Aside0.mk (blk_grown (blk_up BK494.out) hg (Kd.R_ne HO_495005.out BK494.out (by decide)));replace BK496:=Aside0.mk (blk_grown (blk_up BK496.out) hg (Kd.R_away HO_495005.out (fun _ hk => hk.2)));replace HB:=Aside0.mk ((by rw [hw];exact below_set (below_set (below_set (below_set (below_set (HB.out) GB41.out) GB41.out) GB41.out) GB41.out) GB41.out : Below w0.heap.size w0 w50));replace HK:=Aside0.mk (Kept.of_grown (S:=(fun k_ => P0_5_ k_)) hg (by repeat (first|(with_reducible first|exact HK.out|apply Kept.alloc|apply Kept.drewN|apply Kept.drew|refine Kept.setCell ?_ (.inr GW494.out) _|refine Kept.setCell ?_ (.inr GW496.out) _)|exact HK.out)) (fun k_ e_ => (HO_495005.out.1 k_ e_).1));replace HO_495005:=Aside0.mk (hp_);clear hg hw hp_))
     go_ret
     exact ⟨er_,by (with_reducible repeat (first|apply Kd.R_alloc|apply Kd.R_drewN|apply Kd.R_drew));exact Kd.R_mono HO_495005.out (fun _ hk => hk.1),hb_,by repeat (first|(with_reducible first|exact HK.out|apply Kept.alloc|apply Kept.drewN|apply Kept.drew|refine Kept.setCell ?_ (.inr GW494.out) _|refine Kept.setCell ?_ (.inr GW496.out) _)|exact HK.out)⟩
    ·rw [if_neg c38] at H
     have c38b0:=bqf c38
     have c38b1:=bnt c38
     replace H:=ifp_ H;obtain ⟨c51,H⟩:=H
     have c51b0 : decide (0 ≤ a1) = true:=decide_eq_true c51
     clear c51
     replace H:=ifp_ H;obtain ⟨c52,H⟩:=H
     have c52b0 : decide (a1 < (l0_5.length : Int)) = true:=decide_eq_true c52
     clear c52
     obtain ⟨y503,hy503⟩ : ∃ y_ : List (S50),y_ = (l0_5.set (a1 : Int).toNat (⟨t497,(Int.tmod (wrap64 (((rd_T50 l0_5 a1).f2) + 2)) 4),t498,((rd_T50 l0_5 a1).f3),wrap64 ((wrap64 (((rd_T50 l0_5 a1).f4) + ((rd_T50 l0_5 a1).f3))) - 192)⟩ : S50)):=⟨_,rfl⟩
     replace H : (some (0,y503)) = some (r1,r2):=by first|(rw [hy503];with_reducible exact H)|(have H2_:=(Option.bind_some _ _).symm.trans H;rw [hy503];with_reducible exact H2_)|(have H2_:=(Option.bind_some _ _).symm.trans H;with_reducible exact H2_)|with_reducible exact H|(rw [hy503];exact H)|exact H
     have Ny503:=Aside0.mk hy503
     clear hy503
     simp only [Option.some.injEq,Prod.mk.injEq] at H
     obtain ⟨rfl,rfl⟩:=H
     have hnb54:=NB496_494.out
     have hnc54:=NB494_496.out
     obtain ⟨_,_,_,_,_,_,_,_,_,_⟩:=cells5 BK496.out
     go_wp2_with (first|((with_reducible refine gate_store (t:=50) (p:=7) rfl ?_);refine store_event (t:=50) (p:=7) (v:=?vo_w56) (w1:=(((((wc.setCell ⟨gb496,0,none⟩ (.int .i64 t497)).setCell ⟨gb496,1,none⟩ (.int .i64 (Int.tmod (wrap64 (((rd_T50 l0_5 a1).f2) + 2)) 4))).setCell ⟨gb496,2,none⟩ (.int .i64 t498)).setCell ⟨gb496,3,none⟩ (.int .i64 ((rd_T50 l0_5 a1).f3))).setCell ⟨gb496,4,none⟩ (.int .i64 (wrap64 ((wrap64 (((rd_T50 l0_5 a1).f4) + ((rd_T50 l0_5 a1).f3))) - 192))))) ?hg ?ho ?hn ?hr ?_;(case ho => rfl);(case hg => rfl);(case hn => rfl);(case hr => first|(go_simp;done)|(go_simp;rfl));intro w56 hw;have n0_ : Aside0 (Kd.R k50 50 w56 w0.heap.size (fun k_ => (P0_5_ k_ ∨ w.heap.size ≤ k_) ∧ k_ ≠ gb496) (.slice (some ad495) l0_5.length co17) l0_5):=⟨(by rw [hw];exact (by (with_reducible repeat (first|apply Kd.R_alloc|apply Kd.R_drewN|apply Kd.R_drew));exact Kd.R_mono (Kd.R_fars gb496 (Kd.R_mono HO_495005.out (fun k_ hk => (⟨hk,hk.2⟩ : _ ∧ k_ ≠ gb496))) (fun _ hk => hk.2)) (fun _ hk => ⟨hk.1.1,hk.1.2⟩)))⟩;have n1_ : Aside0 (w56.heap[gb494]? = some (.cells #[.int .i64 a0_0,.int .i64 a0_1,.slice A0_2 l0_2.length c0_2,.slice A0_3 l0_3.length c0_3,.slice A0_4 l0_4.length c0_4,.slice (some ad495) l0_5.length co17] 33 (0,0))):=⟨(by rw [hw];exact (by (with_reducible repeat (first|refine blk_drewN ?_ _|refine blk_drew ?_|refine blk_alloc ?_ _));refine blk_far ?_ NB494_496.out _;(with_reducible repeat (first|refine blk_drewN ?_ _|refine blk_drew ?_|refine blk_alloc ?_ _));refine blk_far ?_ NB494_496.out _;(with_reducible repeat (first|refine blk_drewN ?_ _|refine blk_drew ?_|refine blk_alloc ?_ _));refine blk_far ?_ NB494_496.out _;(with_reducible repeat (first|refine blk_drewN ?_ _|refine blk_drew ?_|refine blk_alloc ?_ _));refine blk_far ?_ NB494_496.out _;(with_reducible repeat (first|refine blk_drewN ?_ _|refine blk_drew ?_|refine blk_alloc ?_ _));refine blk_far ?_ NB494_496.out _;(with_reducible repeat (first|refine blk_drewN ?_ _|refine blk_drew ?_|refine blk_alloc ?_ _));exact BK494.out))⟩;have n2_ : Aside0 (w56.heap[gb496]? = some (.cells #[.int .i64 t497,.int .i64 (Int.tmod (wrap64 (((rd_T50 l0_5 a1).f2) + 2)) 4),.int .i64 t498,.int .i64 ((rd_T50 l0_5 a1).f3),.int .i64 (wrap64 ((wrap64 (((rd_T50 l0_5 a1).f4) + ((rd_T50 l0_5 a1).f3))) - 192))] 50 (0,0))):=⟨(by rw [hw];exact (by (with_reducible repeat (first|refine blk_drewN ?_ _|refine blk_drew ?_|refine blk_alloc ?_ _));exact blk_puts5 (blk_up BK496.out)))⟩;have n3_ : Aside0 (Kept w w56 (fun k_ => P0_5_ k_)):=⟨(by rw [hw];exact (by repeat (first|(with_reducible first|exact HK.out|apply Kept.alloc|apply Kept.drewN|apply Kept.drew|refine Kept.setCell ?_ (.inr GW494.out) _|refine Kept.setCell ?_ (.inr GW496.out) _)|exact HK.out)))⟩;have n4_ : Aside0 (Below w0.heap.size w0 w56):=⟨(by rw [hw];exact (hb_))⟩;clear hw;clear HO_495005;clear BK494;clear BK496;clear HK;clear HB;have HO_495005:=n0_;have BK494:=n1_;have BK496:=n2_;have HK:=n3_;have HB:=n4_;clear n0_ n1_ n2_ n3_ n4_;obtain ⟨_,_,_,_,_,_,_,_,_,_,_,_⟩:=cells6 BK494.out;obtain ⟨_,_,_,_,_,_,_,_,_,_⟩:=cells5 BK496.out;have p53 : 0 ≤ (a1 : Int):=of_decide_eq_true (by first|(with_reducible assumption)|assumption);have q53 : (a1 : Int) < ((l0_5.length : Int) : Int):=of_decide_eq_true (by first|(with_reducible assumption)|assumption);obtain ⟨go53,co53,eo53,gb53,gl53,cl53,HG53⟩:=Kd.R_form HO_495005.out (by omega);(first|cases eo53|(injection eo53 with ea_ en_ ec_;(first|subst ea_|(injection ea_ with ea_;subst ea_));subst ec_;clear en_));have GB53:=Aside0.mk gb53;have GG53:=Aside0.mk HG53;clear gb53 gl53 HG53;have HMgo53:=Aside0.mk (show (P0_5_ go53 ∨ w.heap.size ≤ go53) from (HO_495005.out.1 _ rfl).1);obtain ⟨ce53,hcl53,hM53,hcc53,hfr53⟩:=Kd.R_elem HO_495005.out z50 (a1 : Int) p53 q53;obtain rfl:=k50_openM hM53;have hx53_0 : w56.cell? ⟨go53,(a1 : Int).toNat * 5,none⟩ = some (.int .i64 ((rd_T50 l0_5 a1).f0)):=hcc53 0 _ rfl;have hx53_1 : w56.cell? ⟨go53,(a1 : Int).toNat * 5 + 1,none⟩ = some (.int .i64 ((rd_T50 l0_5 a1).f1)):=hcc53 1 _ rfl;have hx53_2 : w56.cell? ⟨go53,(a1 : Int).toNat * 5 + 2,none⟩ = some (.int .i64 ((rd_T50 l0_5 a1).f2)):=hcc53 2 _ rfl;have hx53_3 : w56.cell? ⟨go53,(a1 : Int).toNat * 5 + 3,none⟩ = some (.int .i64 ((rd_T50 l0_5 a1).f3)):=hcc53 3 _ rfl;have hx53_4 : w56.cell? ⟨go53,(a1 : Int).toNat * 5 + 4,none⟩ = some (.int .i64 ((rd_T50 l0_5 a1).f4)):=hcc53 4 _ rfl;have hf53_0 : w56.frozen? ⟨go53,(a1 : Int).toNat * 5,none⟩ = false:=hfr53 0;have hf53_1 : w56.frozen? ⟨go53,(a1 : Int).toNat * 5 + 1,none⟩ = false:=hfr53 1;have hf53_2 : w56.frozen? ⟨go53,(a1 : Int).toNat * 5 + 2,none⟩ = false:=hfr53 2;have hf53_3 : w56.frozen? ⟨go53,(a1 : Int).toNat * 5 + 3,none⟩ = false:=hfr53 3;have hf53_4 : w56.frozen? ⟨go53,(a1 : Int).toNat * 5 + 4,none⟩ = false:=hfr53 4;clear hcl53 hcc53 hfr53 hM53;replace p53:=eq_true p53;replace q53:=eq_true q53;have HX59:=Aside0.mk (show Kd.R k50 50 w56 w0.heap.size (fun k_ => (P0_5_ k_ ∨ w.heap.size ≤ k_) ∧ k_ ≠ gb496) (.slice (some ⟨go53,0,none⟩) l0_5.length co17) l0_5 from (Kd.R_up HO_495005.out));obtain ⟨ce59,hcl59,hM59,hcc59,hfr59⟩:=Kd.R_elem HX59.out z50 (a1 : Int) (of_decide_eq_true (by first|(with_reducible assumption)|assumption)) (by have h_ : (a1 : Int) < ((l0_5.length : Int) : Int):=of_decide_eq_true (by first|(with_reducible assumption)|assumption);first|exact h_|(have e_:=(Kd.R_reads' HO_495005.out).1;omega)|simpa using h_);obtain rfl:=k50_openM hM59;have HP59:=Kd.R_seg HX59.out (a1 : Int) (of_decide_eq_true (by first|(with_reducible assumption)|assumption)) (by have h_ : (a1 : Int) < ((l0_5.length : Int) : Int):=of_decide_eq_true (by first|(with_reducible assumption)|assumption);first|exact h_|(have e_:=(Kd.R_reads' HO_495005.out).1;omega)|simpa using h_) (seg:=[.int .i64 t497,.int .i64 (Int.tmod (wrap64 (((rd_T50 l0_5 a1).f2) + 2)) 4),.int .i64 t498,.int .i64 ((rd_T50 l0_5 a1).f3),.int .i64 (wrap64 ((wrap64 (((rd_T50 l0_5 a1).f4) + ((rd_T50 l0_5 a1).f3))) - 192))]) (j:=0) hcl59 hcc59 (show 5 ≤ 5 from by decide) (x':=(⟨t497,(Int.tmod (wrap64 (((rd_T50 l0_5 a1).f2) + 2)) 4),t498,((rd_T50 l0_5 a1).f3),wrap64 ((wrap64 (((rd_T50 l0_5 a1).f4) + ((rd_T50 l0_5 a1).f3))) - 192)⟩ : S50)) (k50_mkM _ _ _ (⟨t497,(Int.tmod (wrap64 (((rd_T50 l0_5 a1).f2) + 2)) 4),t498,((rd_T50 l0_5 a1).f3),wrap64 ((wrap64 (((rd_T50 l0_5 a1).f4) + ((rd_T50 l0_5 a1).f3))) - 192)⟩ : S50) ) (fun _ hk => hk);have hx59_0:=hcc59 0 _ rfl;(try simp only [show (k50).sz = 5 from rfl,Nat.mul_one,Nat.add_zero] at hx59_0);have hf59_0:=hfr59 0;(try simp only [show (k50).sz = 5 from rfl,Nat.mul_one,Nat.add_zero] at hf59_0);have hx59_1:=hcc59 1 _ rfl;(try simp only [show (k50).sz = 5 from rfl,Nat.mul_one,Nat.add_zero] at hx59_1);have hf59_1:=hfr59 1;(try simp only [show (k50).sz = 5 from rfl,Nat.mul_one,Nat.add_zero] at hf59_1);have hx59_2:=hcc59 2 _ rfl;(try simp only [show (k50).sz = 5 from rfl,Nat.mul_one,Nat.add_zero] at hx59_2);have hf59_2:=hfr59 2;(try simp only [show (k50).sz = 5 from rfl,Nat.mul_one,Nat.add_zero] at hf59_2);have hx59_3:=hcc59 3 _ rfl;(try simp only [show (k50).sz = 5 from rfl,Nat.mul_one,Nat.add_zero] at hx59_3);have hf59_3:=hfr59 3;(try simp only [show (k50).sz = 5 from rfl,Nat.mul_one,Nat.add_zero] at hf59_3);have hx59_4:=hcc59 4 _ rfl;(try simp only [show (k50).sz = 5 from rfl,Nat.mul_one,Nat.add_zero] at hx59_4);have hf59_4:=hfr59 4;(try simp only [show (k50).sz = 5 from rfl,Nat.mul_one,Nat.add_zero] at hf59_4);clear hcl59 hcc59 hfr59 hM59)|((with_reducible refine gate_store (t:=50) (p:=85) rfl ?_);refine store_event (t:=50) (p:=85) (v:=?vo_w60) (w1:=(((((w56.setCell ⟨go53,(a1 : Int).toNat * 5,none⟩ (.int .i64 t497)).setCell ⟨go53,(a1 : Int).toNat * 5 + 1,none⟩ (.int .i64 (Int.tmod (wrap64 (((rd_T50 l0_5 a1).f2) + 2)) 4))).setCell ⟨go53,(a1 : Int).toNat * 5 + 2,none⟩ (.int .i64 t498)).setCell ⟨go53,(a1 : Int).toNat * 5 + 3,none⟩ (.int .i64 ((rd_T50 l0_5 a1).f3))).setCell ⟨go53,(a1 : Int).toNat * 5 + 4,none⟩ (.int .i64 (wrap64 ((wrap64 (((rd_T50 l0_5 a1).f4) + ((rd_T50 l0_5 a1).f3))) - 192))))) ?hg ?ho ?hn ?hr ?_;(case ho => rfl);(case hg => rfl);(case hn => rfl);(case hr => first|(go_simp;done)|(go_simp;rfl));intro w60 hw;have hg : w56.grownBy w60 (some go53):=(by rw [hw];exact HP59.2);have hp_ : Kd.R k50 50 w60 w0.heap.size (fun k_ => (P0_5_ k_ ∨ w.heap.size ≤ k_) ∧ k_ ≠ gb496) (.slice (some ⟨go53,0,none⟩) l0_5.length co17) y503:=(by rw [hw,Ny503.out];exact HP59.1);clear HP59;replace BK494:=Aside0.mk (blk_grown (blk_up BK494.out) hg (Kd.R_ne HO_495005.out BK494.out (by decide)));replace BK496:=Aside0.mk (blk_grown (blk_up BK496.out) hg (Kd.R_away HO_495005.out (fun _ hk => hk.2)));replace HB:=Aside0.mk ((by rw [hw];exact below_set (below_set (below_set (below_set (below_set (HB.out) GB53.out) GB53.out) GB53.out) GB53.out) GB53.out : Below w0.heap.size w0 w60));replace HK:=Aside0.mk (Kept.of_grown (S:=(fun k_ => P0_5_ k_)) hg (by repeat (first|(with_reducible first|exact HK.out|apply Kept.alloc|apply Kept.drewN|apply Kept.drew|refine Kept.setCell ?_ (.inr GW494.out) _|refine Kept.setCell ?_ (.inr GW496.out) _)|exact HK.out)) (fun k_ e_ => (HO_495005.out.1 k_ e_).1));replace HO_495005:=Aside0.mk (hp_);clear hg hw hp_))
     go_ret
     exact ⟨er_,by (with_reducible repeat (first|apply Kd.R_alloc|apply Kd.R_drewN|apply Kd.R_drew));exact Kd.R_mono HO_495005.out (fun _ hk => hk.1),hb_,by repeat (first|(with_reducible first|exact HK.out|apply Kept.alloc|apply Kept.drewN|apply Kept.drew|refine Kept.setCell ?_ (.inr GW494.out) _|refine Kept.setCell ?_ (.inr GW496.out) _)|exact HK.out)⟩
   ·replace c37:=Bool.eq_false_iff.mpr c37
    subst c37
    have H1 : (if 0 ≤ a1 then (if a1 < (l0_5.length : Int) then (some (1,(l0_5.set (a1 : Int).toNat (⟨((rd_T50 l0_5 a1).f0),((rd_T50 l0_5 a1).f1),((rd_T50 l0_5 a1).f2),0,191⟩ : S50)))) else (none)) else (none)) = some (r1,r2):=by rw [if_neg (show ¬ (false = true) by decide)] at H;exact H
    clear H
    have H:=H1
    clear H1
    replace H:=ifp_ H;obtain ⟨c61,H⟩:=H
    have c61b0 : decide (0 ≤ a1) = true:=decide_eq_true c61
    clear c61
    replace H:=ifp_ H;obtain ⟨c62,H⟩:=H
    have c62b0 : decide (a1 < (l0_5.length : Int)) = true:=decide_eq_true c62
    clear c62
    obtain ⟨y504,hy504⟩ : ∃ y_ : List (S50),y_ = (l0_5.set (a1 : Int).toNat (⟨((rd_T50 l0_5 a1).f0),((rd_T50 l0_5 a1).f1),((rd_T50 l0_5 a1).f2),0,191⟩ : S50)):=⟨_,rfl⟩
    replace H : (some (1,y504)) = some (r1,r2):=by first|(rw [hy504];with_reducible exact H)|(have H2_:=(Option.bind_some _ _).symm.trans H;rw [hy504];with_reducible exact H2_)|(have H2_:=(Option.bind_some _ _).symm.trans H;with_reducible exact H2_)|with_reducible exact H|(rw [hy504];exact H)|exact H
    have Ny504:=Aside0.mk hy504
    clear hy504
    simp only [Option.some.injEq,Prod.mk.injEq] at H
    obtain ⟨rfl,rfl⟩:=H
    have hnb64:=NB496_494.out
    have hnc64:=NB494_496.out
    obtain ⟨_,_,_,_,_,_,_,_,_,_⟩:=cells5 BK496.out
    go_wp2_with (first|((with_reducible refine gate_store (t:=3) (p:=79) rfl ?_);refine store_event (t:=3) (p:=79) (v:=?vo_w66) (w1:=(wc.setCell ⟨gb496,4,none⟩ (.int .i64 191))) ?hg ?ho ?hn ?hr ?_;(case ho => rfl);(case hg => rfl);(case hn => rfl);(case hr => first|(go_simp;done)|(go_simp;rfl));intro w66 hw;have n0_ : Aside0 (Kd.R k50 50 w66 w0.heap.size (fun k_ => (P0_5_ k_ ∨ w.heap.size ≤ k_) ∧ k_ ≠ gb496) (.slice (some ad495) l0_5.length co17) l0_5):=⟨(by rw [hw];exact (by (with_reducible repeat (first|apply Kd.R_alloc|apply Kd.R_drewN|apply Kd.R_drew));exact Kd.R_mono (Kd.R_far (p:=⟨gb496,4,none⟩) (Kd.R_mono HO_495005.out (fun k_ hk => (⟨hk,hk.2⟩ : _ ∧ k_ ≠ gb496))) (fun _ hk => hk.2) (.int .i64 191)) (fun _ hk => ⟨hk.1.1,hk.1.2⟩)))⟩;have n1_ : Aside0 (w66.heap[gb494]? = some (.cells #[.int .i64 a0_0,.int .i64 a0_1,.slice A0_2 l0_2.length c0_2,.slice A0_3 l0_3.length c0_3,.slice A0_4 l0_4.length c0_4,.slice (some ad495) l0_5.length co17] 33 (0,0))):=⟨(by rw [hw];exact (by (with_reducible repeat (first|refine blk_drewN ?_ _|refine blk_drew ?_|refine blk_alloc ?_ _));refine blk_far ?_ NB494_496.out _;(with_reducible repeat (first|refine blk_drewN ?_ _|refine blk_drew ?_|refine blk_alloc ?_ _));exact BK494.out))⟩;have n2_ : Aside0 (w66.heap[gb496]? = some (.cells #[.int .i64 ((rd_T50 l0_5 a1).f0),.int .i64 ((rd_T50 l0_5 a1).f1),.int .i64 ((rd_T50 l0_5 a1).f2),.int .i64 ((rd_T50 l0_5 a1).f3),.int .i64 191] 50 (0,0))):=⟨(by rw [hw];exact (by (with_reducible repeat (first|refine blk_drewN ?_ _|refine blk_drew ?_|refine blk_alloc ?_ _));refine blk_put (cs:=#[.int .i64 ((rd_T50 l0_5 a1).f0),.int .i64 ((rd_T50 l0_5 a1).f1),.int .i64 ((rd_T50 l0_5 a1).f2),.int .i64 ((rd_T50 l0_5 a1).f3),.int .i64 (wrap64 (((rd_T50 l0_5 a1).f4) + ((rd_T50 l0_5 a1).f3)))]) ?_ 4 _ rfl;(with_reducible repeat (first|refine blk_drewN ?_ _|refine blk_drew ?_|refine blk_alloc ?_ _));exact BK496.out))⟩;have n3_ : Aside0 (Kept w w66 (fun k_ => P0_5_ k_)):=⟨(by rw [hw];exact (by repeat (first|(with_reducible first|exact HK.out|apply Kept.alloc|apply Kept.drewN|apply Kept.drew|refine Kept.setCell ?_ (.inr GW494.out) _|refine Kept.setCell ?_ (.inr GW496.out) _)|exact HK.out)))⟩;have n4_ : Aside0 (Below w0.heap.size w0 w66):=⟨(by rw [hw];exact (hb_))⟩;clear hw;clear HO_495005;clear BK494;clear BK496;clear HK;clear HB;have HO_495005:=n0_;have BK494:=n1_;have BK496:=n2_;have HK:=n3_;have HB:=n4_;clear n0_ n1_ n2_ n3_ n4_;obtain ⟨_,_,_,_,_,_,_,_,_,_⟩:=cells5 BK496.out)|((with_reducible refine gate_store (t:=3) (p:=80) rfl ?_);refine store_event (t:=3) (p:=80) (v:=?vo_w68) (w1:=(w66.setCell ⟨gb496,3,none⟩ (.int .i64 0))) ?hg ?ho ?hn ?hr ?_;(case ho => rfl);(case hg => rfl);(case hn => rfl);(case hr => first|(go_simp;done)|(go_simp;rfl));intro w68 hw;have n0_ : Aside0 (Kd.R k50 50 w68 w0.heap.size (fun k_ => (P0_5_ k_ ∨ w.heap.size ≤ k_) ∧ k_ ≠ gb496) (.slice (some ad495) l0_5.length co17) l0_5):=⟨(by rw [hw];exact (by (with_reducible repeat (first|apply Kd.R_alloc|apply Kd.R_drewN|apply Kd.R_drew));exact Kd.R_mono (Kd.R_far (p:=⟨gb496,3,none⟩) (Kd.R_mono HO_495005.out (fun k_ hk => (⟨hk,hk.2⟩ : _ ∧ k_ ≠ gb496))) (fun _ hk => hk.2) (.int .i64 0)) (fun _ hk => ⟨hk.1.1,hk.1.2⟩)))⟩;have n1_ : Aside0 (w68.heap[gb494]? = some (.cells #[.int .i64 a0_0,.int .i64 a0_1,.slice A0_2 l0_2.length c0_2,.slice A0_3 l0_3.length c0_3,.slice A0_4 l0_4.length c0_4,.slice (some ad495) l0_5.length co17] 33 (0,0))):=⟨(by rw [hw];exact (by (with_reducible repeat (first|refine blk_drewN ?_ _|refine blk_drew ?_|refine blk_alloc ?_ _));refine blk_far ?_ NB494_496.out _;(with_reducible repeat (first|refine blk_drewN ?_ _|refine blk_drew ?_|refine blk_alloc ?_ _));exact BK494.out))⟩;have n2_ : Aside0 (w68.heap[gb496]? = some (.cells #[.int .i64 ((rd_T50 l0_5 a1).f0),.int .i64 ((rd_T50 l0_5 a1).f1),.int .i64 ((rd_T50 l0_5 a1).f2),.int .i64 0,.int .i64 191] 50 (0,0))):=⟨(by rw [hw];exact (by (with_reducible repeat (first|refine blk_drewN ?_ _|refine blk_drew ?_|refine blk_alloc ?_ _));refine blk_put (cs:=#[.int .i64 ((rd_T50 l0_5 a1).f0),.int .i64 ((rd_T50 l0_5 a1).f1),.int .i64 ((rd_T50 l0_5 a1).f2),.int .i64 ((rd_T50 l0_5 a1).f3),.int .i64 191]) ?_ 3 _ rfl;(with_reducible repeat (first|refine blk_drewN ?_ _|refine blk_drew ?_|refine blk_alloc ?_ _));exact BK496.out))⟩;have n3_ : Aside0 (Kept w w68 (fun k_ => P0_5_ k_)):=⟨(by rw [hw];exact (by repeat (first|(with_reducible first|exact HK.out|apply Kept.alloc|apply Kept.drewN|apply Kept.drew|refine Kept.setCell ?_ (.inr GW494.out) _|refine Kept.setCell ?_ (.inr GW496.out) _)|exact HK.out)))⟩;have n4_ : Aside0 (Below w0.heap.size w0 w68):=⟨(by rw [hw];exact (hb_))⟩;clear hw;clear HO_495005;clear BK494;clear BK496;clear HK;clear HB;have HO_495005:=n0_;have BK494:=n1_;have BK496:=n2_;have HK:=n3_;have HB:=n4_;clear n0_ n1_ n2_ n3_ n4_;obtain ⟨_,_,_,_,_,_,_,_,_,_,_,_⟩:=cells6 BK494.out;obtain ⟨_,_,_,_,_,_,_,_,_,_⟩:=cells5 BK496.out;have p63 : 0 ≤ (a1 : Int):=of_decide_eq_true (by first|(with_reducible assumption)|assumption);have q63 : (a1 : Int) < ((l0_5.length : Int) : Int):=of_decide_eq_true (by first|(with_reducible assumption)|assumption);obtain ⟨go63,co63,eo63,gb63,gl63,cl63,HG63⟩:=Kd.R_form HO_495005.out (by omega);(first|cases eo63|(injection eo63 with ea_ en_ ec_;(first|subst ea_|(injection ea_ with ea_;subst ea_));subst ec_;clear en_));have GB63:=Aside0.mk gb63;have GG63:=Aside0.mk HG63;clear gb63 gl63 HG63;have HMgo63:=Aside0.mk (show (P0_5_ go63 ∨ w.heap.size ≤ go63) from (HO_495005.out.1 _ rfl).1);obtain ⟨ce63,hcl63,hM63,hcc63,hfr63⟩:=Kd.R_elem HO_495005.out z50 (a1 : Int) p63 q63;obtain rfl:=k50_openM hM63;have hx63_0 : w68.cell? ⟨go63,(a1 : Int).toNat * 5,none⟩ = some (.int .i64 ((rd_T50 l0_5 a1).f0)):=hcc63 0 _ rfl;have hx63_1 : w68.cell? ⟨go63,(a1 : Int).toNat * 5 + 1,none⟩ = some (.int .i64 ((rd_T50 l0_5 a1).f1)):=hcc63 1 _ rfl;have hx63_2 : w68.cell? ⟨go63,(a1 : Int).toNat * 5 + 2,none⟩ = some (.int .i64 ((rd_T50 l0_5 a1).f2)):=hcc63 2 _ rfl;have hx63_3 : w68.cell? ⟨go63,(a1 : Int).toNat * 5 + 3,none⟩ = some (.int .i64 ((rd_T50 l0_5 a1).f3)):=hcc63 3 _ rfl;have hx63_4 : w68.cell? ⟨go63,(a1 : Int).toNat * 5 + 4,none⟩ = some (.int .i64 ((rd_T50 l0_5 a1).f4)):=hcc63 4 _ rfl;have hf63_0 : w68.frozen? ⟨go63,(a1 : Int).toNat * 5,none⟩ = false:=hfr63 0;have hf63_1 : w68.frozen? ⟨go63,(a1 : Int).toNat * 5 + 1,none⟩ = false:=hfr63 1;have hf63_2 : w68.frozen? ⟨go63,(a1 : Int).toNat * 5 + 2,none⟩ = false:=hfr63 2;have hf63_3 : w68.frozen? ⟨go63,(a1 : Int).toNat * 5 + 3,none⟩ = false:=hfr63 3;have hf63_4 : w68.frozen? ⟨go63,(a1 : Int).toNat * 5 + 4,none⟩ = false:=hfr63 4;clear hcl63 hcc63 hfr63 hM63;replace p63:=eq_true p63;replace q63:=eq_true q63;have HX71:=Aside0.mk (show Kd.R k50 50 w68 w0.heap.size (fun k_ => (P0_5_ k_ ∨ w.heap.size ≤ k_) ∧ k_ ≠ gb496) (.slice (some ⟨go63,0,none⟩) l0_5.length co17) l0_5 from (Kd.R_up HO_495005.out));obtain ⟨ce71,hcl71,hM71,hcc71,hfr71⟩:=Kd.R_elem HX71.out z50 (a1 : Int) (of_decide_eq_true (by first|(with_reducible assumption)|assumption)) (by have h_ : (a1 : Int) < ((l0_5.length : Int) : Int):=of_decide_eq_true (by first|(with_reducible assumption)|assumption);first|exact h_|(have e_:=(Kd.R_reads' HO_495005.out).1;omega)|simpa using h_);obtain rfl:=k50_openM hM71;have HP71:=Kd.R_seg HX71.out (a1 : Int) (of_decide_eq_true (by first|(with_reducible assumption)|assumption)) (by have h_ : (a1 : Int) < ((l0_5.length : Int) : Int):=of_decide_eq_true (by first|(with_reducible assumption)|assumption);first|exact h_|(have e_:=(Kd.R_reads' HO_495005.out).1;omega)|simpa using h_) (seg:=[.int .i64 ((rd_T50 l0_5 a1).f0),.int .i64 ((rd_T50 l0_5 a1).f1),.int .i64 ((rd_T50 l0_5 a1).f2),.int .i64 0,.int .i64 191]) (j:=0) hcl71 hcc71 (show 5 ≤ 5 from by decide) (x':=(⟨((rd_T50 l0_5 a1).f0),((rd_T50 l0_5 a1).f1),((rd_T50 l0_5 a1).f2),0,191⟩ : S50)) (k50_mkM _ _ _ (⟨((rd_T50 l0_5 a1).f0),((rd_T50 l0_5 a1).f1),((rd_T50 l0_5 a1).f2),0,191⟩ : S50) ) (fun _ hk => hk);have hx71_0:=hcc71 0 _ rfl;(try simp only [show (k50).sz = 5 from rfl,Nat.mul_one,Nat.add_zero] at hx71_0);have hf71_0:=hfr71 0;(try simp only [show (k50).sz = 5 from rfl,Nat.mul_one,Nat.add_zero] at hf71_0);have hx71_1:=hcc71 1 _ rfl;(try simp only [show (k50).sz = 5 from rfl,Nat.mul_one,Nat.add_zero] at hx71_1);have hf71_1:=hfr71 1;(try simp only [show (k50).sz = 5 from rfl,Nat.mul_one,Nat.add_zero] at hf71_1);have hx71_2:=hcc71 2 _ rfl;(try simp only [show (k50).sz = 5 from rfl,Nat.mul_one,Nat.add_zero] at hx71_2);have hf71_2:=hfr71 2;(try simp only [show (k50).sz = 5 from rfl,Nat.mul_one,Nat.add_zero] at hf71_2);have hx71_3:=hcc71 3 _ rfl;(try simp only [show (k50).sz = 5 from rfl,Nat.mul_one,Nat.add_zero] at hx71_3);have hf71_3:=hfr71 3;(try simp only [show (k50).sz = 5 from rfl,Nat.mul_one,Nat.add_zero] at hf71_3);have hx71_4:=hcc71 4 _ rfl;(try simp only [show (k50).sz = 5 from rfl,Nat.mul_one,Nat.add_zero] at hx71_4);have hf71_4:=hfr71 4;(try simp only [show (k50).sz = 5 from rfl,Nat.mul_one,Nat.add_zero] at hf71_4);clear hcl71 hcc71 hfr71 hM71)|((with_reducible refine gate_store (t:=50) (p:=85) rfl ?_);refine store_event (t:=50) (p:=85) (v:=?vo_w72) (w1:=(((((w68.setCell ⟨go63,(a1 : Int).toNat * 5,none⟩ (.int .i64 ((rd_T50 l0_5 a1).f0))).setCell ⟨go63,(a1 : Int).toNat * 5 + 1,none⟩ (.int .i64 ((rd_T50 l0_5 a1).f1))).setCell ⟨go63,(a1 : Int).toNat * 5 + 2,none⟩ (.int .i64 ((rd_T50 l0_5 a1).f2))).setCell ⟨go63,(a1 : Int).toNat * 5 + 3,none⟩ (.int .i64 0)).setCell ⟨go63,(a1 : Int).toNat * 5 + 4,none⟩ (.int .i64 191))) ?hg ?ho ?hn ?hr ?_;(case ho => rfl);(case hg => rfl);(case hn => rfl);(case hr => first|(go_simp;done)|(go_simp;rfl));intro w72 hw;have hg : w68.grownBy w72 (some go63):=(by rw [hw];exact HP71.2);have hp_ : Kd.R k50 50 w72 w0.heap.size (fun k_ => (P0_5_ k_ ∨ w.heap.size ≤ k_) ∧ k_ ≠ gb496) (.slice (some ⟨go63,0,none⟩) l0_5.length co17) y504:=(by rw [hw,Ny504.out];exact HP71.1);clear HP71;replace BK494:=Aside0.mk (blk_grown (blk_up BK494.out) hg (Kd.R_ne HO_495005.out BK494.out (by decide)));replace BK496:=Aside0.mk (blk_grown (blk_up BK496.out) hg (Kd.R_away HO_495005.out (fun _ hk => hk.2)));replace HB:=Aside0.mk ((by rw [hw];exact below_set (below_set (below_set (below_set (below_set (HB.out) GB63.out) GB63.out) GB63.out) GB63.out) GB63.out : Below w0.heap.size w0 w72));replace HK:=Aside0.mk (Kept.of_grown (S:=(fun k_ => P0_5_ k_)) hg (by repeat (first|(with_reducible first|exact HK.out|apply Kept.alloc|apply Kept.drewN|apply Kept.drew|refine Kept.setCell ?_ (.inr GW494.out) _|refine Kept.setCell ?_ (.inr GW496.out) _)|exact HK.out)) (fun k_ e_ => (HO_495005.out.1 k_ e_).1));replace HO_495005:=Aside0.mk (hp_);clear hg hw hp_))
    go_ret
    exact ⟨er_,by (with_reducible repeat (first|apply Kd.R_alloc|apply Kd.R_drewN|apply Kd.R_drew));exact Kd.R_mono HO_495005.out (fun _ hk => hk.1),hb_,by repeat (first|(with_reducible first|exact HK.out|apply Kept.alloc|apply Kept.drewN|apply Kept.drew|refine Kept.setCell ?_ (.inr GW494.out) _|refine Kept.setCell ?_ (.inr GW496.out) _)|exact HK.out)⟩

/-! ### cmp_isNaN_int: function 102 -/
def cmp_isNaN_int.f (a0 : Int) : Option (Bool) := some (a0 != a0)
set_option maxHeartbeats 8000000 in
set_option maxRecDepth 100000 in
theorem cmp_isNaN_int.calls (a0 : Int) (r : Bool) (w : World) (h : cmp_isNaN_int.f a0 = some r) :
  Calls Try.prog 102 #[.int .i64 a0] w fun e w' => e = .returned (.bool r) ∧ Drawn0 w w':=by
 have H : (some (a0 != a0)) = some r:=h
 clear h
 obtain rfl:=Option.some.inj H
 go_enter Try.func102,Try.ntmps102
 go_wp2
 go_ret
 exact ⟨by first|rfl|(simp;done)|(simp [*];done),by repeat (first|exact Drawn0.refl _|apply Drawn0.step)⟩

/-! ### cmp_Less_int: function 87 -/
def cmp_Less_int.f (a0 : Int) (a1 : Int) : Option (Bool) := (cmp_isNaN_int.f a0).bind fun t525 => (if t525 = true then ((cmp_isNaN_int.f a1).bind fun t526 => (if t526 = true then (some (decide (a0 < a1))) else (some true))) else (some (decide (a0 < a1))))
set_option maxHeartbeats 8000000 in
set_option maxRecDepth 100000 in
theorem cmp_Less_int.calls (a0 : Int) (a1 : Int) (r : Bool) (w : World) (h : cmp_Less_int.f a0 a1 = some r) :
  Calls Try.prog 87 #[.int .i64 a0,.int .i64 a1] w fun e w' => e = .returned (.bool r) ∧ Drawn0 w w':=by
 have H : ((cmp_isNaN_int.f a0).bind fun t525 => (if t525 = true then ((cmp_isNaN_int.f a1).bind fun t526 => (if t526 = true then (some (decide (a0 < a1))) else (some true))) else (some (decide (a0 < a1))))) = some r:=h
 clear h
 replace H:=Option.bind_eq_some_iff.mp H
 obtain ⟨t525,A30,H⟩:=H
 replace H : (if t525 = true then ((cmp_isNaN_int.f a1).bind fun t526 => (if t526 = true then (some (decide (a0 < a1))) else (some true))) else (some (decide (a0 < a1)))) = some r:=H
 have A3:=Aside0.mk A30
 clear A30
 by_cases c4 : t525 = true
 ·subst c4
  have H1 : ((cmp_isNaN_int.f a1).bind fun t526 => (if t526 = true then (some (decide (a0 < a1))) else (some true))) = some r:=by rw [if_pos rfl] at H;exact H
  clear H
  have H:=H1
  clear H1
  replace H:=Option.bind_eq_some_iff.mp H
  obtain ⟨t526,A50,H⟩:=H
  replace H : (if t526 = true then (some (decide (a0 < a1))) else (some true)) = some r:=H
  have A5:=Aside0.mk A50
  clear A50
  by_cases c6 : t526 = true
  ·subst c6
   have H1 : (some (decide (a0 < a1))) = some r:=by rw [if_pos rfl] at H;exact H
   clear H
   have H:=H1
   clear H1
   obtain rfl:=Option.some.inj H
   go_enter Try.func87,Try.ntmps87
   go_wp2_with (first|((with_reducible refine gate_callee (f:=102) rfl ?_);refine goesL_ (some 6) rfl rfl Try.func102 (by kernel_rfl) rfl #[.int .i64 a0] rfl ga_ ?_;(with_reducible refine (cmp_isNaN_int.calls a0 true _ A3.out).mono ?_);rintro e w' ⟨rfl,⟨nd,rfl⟩⟩;refine ⟨_,rfl,?_⟩)|(go_at_call 102;(with_reducible refine (cmp_isNaN_int.calls a1 true _ A5.out).mono ?_);rintro e w' ⟨rfl,⟨nd,rfl⟩⟩))
   go_ret
   exact ⟨by first|rfl|(simp;done)|(simp [*];done),by repeat (first|exact Drawn0.refl _|apply Drawn0.step)⟩
  ·replace c6:=Bool.eq_false_iff.mpr c6
   subst c6
   have H1 : (some true) = some r:=by rw [if_neg (show ¬ (false = true) by decide)] at H;exact H
   clear H
   have H:=H1
   clear H1
   obtain rfl:=Option.some.inj H
   go_enter Try.func87,Try.ntmps87
   go_wp2_with (first|((with_reducible refine gate_callee (f:=102) rfl ?_);refine goesL_ (some 6) rfl rfl Try.func102 (by kernel_rfl) rfl #[.int .i64 a0] rfl ga_ ?_;(with_reducible refine (cmp_isNaN_int.calls a0 true _ A3.out).mono ?_);rintro e w' ⟨rfl,⟨nd,rfl⟩⟩;refine ⟨_,rfl,?_⟩)|(go_at_call 102;(with_reducible refine (cmp_isNaN_int.calls a1 false _ A5.out).mono ?_);rintro e w' ⟨rfl,⟨nd,rfl⟩⟩))
   go_ret
   exact ⟨by first|rfl|(simp;done)|(simp [*];done),by repeat (first|exact Drawn0.refl _|apply Drawn0.step)⟩
 ·replace c4:=Bool.eq_false_iff.mpr c4
  subst c4
  have H1 : (some (decide (a0 < a1))) = some r:=by rw [if_neg (show ¬ (false = true) by decide)] at H;exact H
  clear H
  have H:=H1
  clear H1
  obtain rfl:=Option.some.inj H
  go_enter Try.func87,Try.ntmps87
  go_wp2_with (first|((with_reducible refine gate_callee (f:=102) rfl ?_);refine goesL_ (some 6) rfl rfl Try.func102 (by kernel_rfl) rfl #[.int .i64 a0] rfl ga_ ?_;(with_reducible refine (cmp_isNaN_int.calls a0 false _ A3.out).mono ?_);rintro e w' ⟨rfl,⟨nd,rfl⟩⟩;refine ⟨_,rfl,?_⟩))
  go_ret
  exact ⟨by first|rfl|(simp;done)|(simp [*];done),by repeat (first|exact Drawn0.refl _|apply Drawn0.step)⟩

/-! ### slices_isNaN_int: function 88 -/
def slices_isNaN_int.f (a0 : Int) : Option (Bool) := some (a0 != a0)
set_option maxHeartbeats 8000000 in
set_option maxRecDepth 100000 in
theorem slices_isNaN_int.calls (a0 : Int) (r : Bool) (w : World) (h : slices_isNaN_int.f a0 = some r) :
  Calls Try.prog 88 #[.int .i64 a0] w fun e w' => e = .returned (.bool r) ∧ Drawn0 w w':=by
 have H : (some (a0 != a0)) = some r:=h
 clear h
 obtain rfl:=Option.some.inj H
 go_enter Try.func88,Try.ntmps88
 go_wp2
 go_ret
 exact ⟨by first|rfl|(simp;done)|(simp [*];done),by repeat (first|exact Drawn0.refl _|apply Drawn0.step)⟩

/-! ### slices_BinarySearch_int_int: function 73 -/
def slices_BinarySearch_int_int.l0 : Nat → List Int → Int → Int → Int → Int → Option (Int × Bool)
 | 0,_,_,_,_,_ => none
 | k + 1,x0,x1,x6,x7,x8 => if x7 < x8 then (if 0 ≤ (wrap64 ((IntKind.u64.wrap (wrap64 (x7 + x8))) / 2)) then (if (wrap64 ((IntKind.u64.wrap (wrap64 (x7 + x8))) / 2)) < (x0.length : Int) then ((cmp_Less_int.f (rd x0 (wrap64 ((IntKind.u64.wrap (wrap64 (x7 + x8))) / 2))) x1).bind fun t528 => (if t528 = true then (slices_BinarySearch_int_int.l0 k x0 x1 x6 (wrap64 ((wrap64 ((IntKind.u64.wrap (wrap64 (x7 + x8))) / 2)) + 1)) x8) else (slices_BinarySearch_int_int.l0 k x0 x1 x6 x7 (wrap64 ((IntKind.u64.wrap (wrap64 (x7 + x8))) / 2))))) else (none)) else (none)) else (if x7 < x6 then (if 0 ≤ x7 then (if x7 < (x0.length : Int) then (if (rd x0 x7) = x1 then (some (x7,true)) else ((slices_isNaN_int.f (rd x0 x7)).bind fun t531 => (if t531 = true then ((slices_isNaN_int.f x1).bind fun t532 => (some (x7,t532))) else (some (x7,false))))) else (none)) else (none)) else (some (x7,false)))
def slices_BinarySearch_int_int.f (k : Nat) (l0 : List Int) (a1 : Int) : Option (Int × Bool) := slices_BinarySearch_int_int.l0 k l0 a1 (l0.length : Int) 0 (l0.length : Int)
theorem slices_BinarySearch_int_int.mono_l : ∀ k, (∀ y0 y1 y2 y3 y4, LeO (slices_BinarySearch_int_int.l0 k y0 y1 y2 y3 y4) (slices_BinarySearch_int_int.l0 (k + 1) y0 y1 y2 y3 y4))
 | 0 => fun _ _ _ _ _ r h => by simp [slices_BinarySearch_int_int.l0] at h
 | k + 1 => by
  have ih0:=slices_BinarySearch_int_int.mono_l k
  ·intro y0 y1 y2 y3 y4
   unfold slices_BinarySearch_int_int.l0
   repeat' first
   | (with_reducible exact ih0 _ _ _ _ _)
   | (with_reducible exact LeO.refl _)
   | (with_reducible exact LeO.none _)
   | (with_reducible refine LeO.ite ?_ ?_)
   | (with_reducible refine LeO.bind ?_ (fun _ => ?_))
   | exact ih0 _ _ _ _ _
   | exact LeO.none _
   | refine LeO.ite ?_ ?_
   | refine LeO.bind ?_ (fun _ => ?_)
theorem slices_BinarySearch_int_int.mono : ∀ a0 a1 k, LeO (slices_BinarySearch_int_int.f k a0 a1) (slices_BinarySearch_int_int.f (k + 1) a0 a1) := by
 intro a0 a1 k
 have ih0:=slices_BinarySearch_int_int.mono_l k
 unfold slices_BinarySearch_int_int.f
 repeat' first
   | (with_reducible exact ih0 _ _ _ _ _)
   | (with_reducible exact LeO.refl _)
   | (with_reducible exact LeO.none _)
   | (with_reducible refine LeO.ite ?_ ?_)
   | (with_reducible refine LeO.bind ?_ (fun _ => ?_))
   | exact ih0 _ _ _ _ _
   | exact LeO.none _
   | refine LeO.ite ?_ ?_
   | refine LeO.bind ?_ (fun _ => ?_)
set_option maxHeartbeats 8000000 in
set_option maxRecDepth 100000 in
theorem slices_BinarySearch_int_int.calls (k : Nat) (A0 : Option Addr) (c0 : Nat) (l0 : List Int) (a1 : Int) (r1 : Int) (r2 : Bool) (w : World) (hr0 : Kd.C (Kd.int .i64) w A0 l0.length l0) (hc0 : l0.length ≤ c0) (h : slices_BinarySearch_int_int.f k l0 a1 = some (r1, r2)) :
  Calls Try.prog 73 #[.slice A0 l0.length c0,.int .i64 a1] w fun e w' => e = .returned (.tuple #[.int .i64 r1,.bool r2]) ∧ Drawn0 w w':=by
 have HR0:=Aside0.mk hr0
 have HC0:=Aside0.mk hc0
 clear hr0 hc0
 have H : (slices_BinarySearch_int_int.l0 k l0 a1 (l0.length : Int) 0 (l0.length : Int)) = some (r1,r2):=h
 clear h
 have H':=Aside0.mk H
 clear H
 go_enter Try.func73,Try.ntmps73
 go_wp2
 go_loopg [7,8] k (fun kq v7 v8 w' => ∃ (x7_1 : Int) (x8_1 : Int),v7 = .int .i64 x7_1 ∧ v8 = .int .i64 x8_1 ∧ Aside0 (slices_BinarySearch_int_int.l0 kq l0 a1 (l0.length : Int) x7_1 x8_1 = some (r1,r2)) ∧ Aside0 (kq ≤ k) ∧ Drawn0 w w')
 case atStart => exact ⟨(0),((l0.length : Int)),(by first|rfl|(simp;done)|(simp [*];done)),(by first|rfl|(simp;done)|(simp [*];done)),H',⟨Nat.le_refl _⟩,by repeat (first|exact Drawn0.refl _|apply Drawn0.step)⟩
 case round =>
  clear H'
  obtain ⟨x7_1,x8_1,rfl,rfl,HA,HK1,⟨m1,rfl⟩⟩:=hrel
  cases gk with
  | zero => exact absurd HA.out (by simp [slices_BinarySearch_int_int.l0])
  | succ k1 =>
   have H:=HA.out
   clear HA
   simp only [slices_BinarySearch_int_int.l0] at H
   by_cases c3 : x7_1 < x8_1
   ·rw [if_pos c3] at H
    have c3b0 : decide (x7_1 < x8_1) = true:=decide_eq_true c3
    clear c3
    obtain ⟨ji4,hji4⟩ : ∃ j_ : Int,(wrap64 ((IntKind.u64.wrap (wrap64 (x7_1 + x8_1))) / 2)) = j_:=⟨_,rfl⟩
    replace H : (if 0 ≤ (ji4) then (if (ji4) < (l0.length : Int) then ((cmp_Less_int.f (rd l0 (ji4)) a1).bind fun t528 => (if t528 = true then (slices_BinarySearch_int_int.l0 k1 l0 a1 (l0.length : Int) (wrap64 ((ji4) + 1)) x8_1) else (slices_BinarySearch_int_int.l0 k1 l0 a1 (l0.length : Int) x7_1 ji4))) else (none)) else (none)) = some (r1,r2):=by first|(rw [hji4] at H;exact H)|(simp only [hji4] at H ⊢;exact H)
    have hji4w : (IntKind.i64.wrap ((IntKind.u64.wrap (wrap64 (x7_1 + x8_1))) / 2)) = ji4:=(i64_w _).trans hji4
    replace H:=ifp_ H;obtain ⟨c5,H⟩:=H
    have c5b0 : decide (0 ≤ (ji4)) = true:=decide_eq_true c5
    clear c5
    replace H:=ifp_ H;obtain ⟨c6,H⟩:=H
    have c6b0 : decide ((ji4) < (l0.length : Int)) = true:=decide_eq_true c6
    clear c6
    replace H:=Option.bind_eq_some_iff.mp H
    obtain ⟨t528,A70,H⟩:=H
    replace H : (if t528 = true then (slices_BinarySearch_int_int.l0 k1 l0 a1 (l0.length : Int) (wrap64 ((ji4) + 1)) x8_1) else (slices_BinarySearch_int_int.l0 k1 l0 a1 (l0.length : Int) x7_1 ji4)) = some (r1,r2):=H
    have A7:=Aside0.mk A70
    clear A70
    by_cases c8 : t528 = true
    ·subst c8
     have H1 : (slices_BinarySearch_int_int.l0 k1 l0 a1 (l0.length : Int) (wrap64 ((ji4) + 1)) x8_1) = some (r1,r2):=by rw [if_pos rfl] at H;exact H
     clear H
     have H:=H1
     clear H1
     have H':=Aside0.mk H
     clear H
     have p527 : 0 ≤ ((ji4) : Int):=of_decide_eq_true (by first|(with_reducible assumption)|assumption)
     have q527 : (ji4) < (l0.length : Int):=of_decide_eq_true (by first|(with_reducible assumption)|assumption)
     obtain ⟨ad527,e527,hx527_0⟩:=Kd.at_int HR0.out (ji4) p527 q527
     cases e527
     replace p527:=eq_true p527
     replace q527:=eq_true q527
     go_wp2_with (first|((with_reducible refine gate_callee (f:=87) rfl ?_);refine goesL_ (some 27) rfl rfl Try.func87 (by kernel_rfl) rfl #[.int .i64 (rd l0 (ji4)),.int .i64 a1] rfl (by (try simp only [List.map_toArray,List.map_cons,List.map_nil]);first|done|(simp only [hji4];rfl)|rfl|(simp only [List.length_drop,List.length_take];rfl)) ?_;(with_reducible refine (cmp_Less_int.calls (rd l0 (ji4)) a1 true _ A7.out).mono ?_);rintro e w' ⟨rfl,⟨nd,rfl⟩⟩;refine ⟨_,rfl,?_⟩))
     go_roundg k1
     case measure => have:=HK1.out;omega
     case rel => exact ⟨(wrap64 ((ji4) + 1)),(x8_1),(by first|rfl|(simp;done)|(simp only [← hji4] <;> (first|rfl|simp))|(simp [*];done)),(by first|rfl|(simp;done)|(simp [*];done)),H',⟨by have:=HK1.out;omega⟩,by repeat (first|exact Drawn0.refl _|apply Drawn0.step)⟩
    ·replace c8:=Bool.eq_false_iff.mpr c8
     subst c8
     have H1 : (slices_BinarySearch_int_int.l0 k1 l0 a1 (l0.length : Int) x7_1 ji4) = some (r1,r2):=by rw [if_neg (show ¬ (false = true) by decide)] at H;exact H
     clear H
     have H:=H1
     clear H1
     have H':=Aside0.mk H
     clear H
     have p527 : 0 ≤ ((ji4) : Int):=of_decide_eq_true (by first|(with_reducible assumption)|assumption)
     have q527 : (ji4) < (l0.length : Int):=of_decide_eq_true (by first|(with_reducible assumption)|assumption)
     obtain ⟨ad527,e527,hx527_0⟩:=Kd.at_int HR0.out (ji4) p527 q527
     cases e527
     replace p527:=eq_true p527
     replace q527:=eq_true q527
     go_wp2_with (first|((with_reducible refine gate_callee (f:=87) rfl ?_);refine goesL_ (some 27) rfl rfl Try.func87 (by kernel_rfl) rfl #[.int .i64 (rd l0 (ji4)),.int .i64 a1] rfl (by (try simp only [List.map_toArray,List.map_cons,List.map_nil]);first|done|(simp only [hji4];rfl)|rfl|(simp only [List.length_drop,List.length_take];rfl)) ?_;(with_reducible refine (cmp_Less_int.calls (rd l0 (ji4)) a1 false _ A7.out).mono ?_);rintro e w' ⟨rfl,⟨nd,rfl⟩⟩;refine ⟨_,rfl,?_⟩))
     go_roundg k1
     case measure => have:=HK1.out;omega
     case rel => exact ⟨(x7_1),(ji4),(by first|rfl|(simp;done)|(simp [*];done)),(by first|rfl|(simp;done)|(simp only [← hji4] <;> (first|rfl|simp))|(simp [*];done)),H',⟨by have:=HK1.out;omega⟩,by repeat (first|exact Drawn0.refl _|apply Drawn0.step)⟩
   rw [if_neg c3] at H
   have c3b0 : decide (x7_1 < x8_1) = false:=decide_eq_false c3
   clear c3
   by_cases c9 : x7_1 < (l0.length : Int)
   rotate_left
   ·rw [if_neg c9] at H
    have c9b0 : decide (x7_1 < (l0.length : Int)) = false:=decide_eq_false c9
    clear c9
    simp only [Option.some.injEq,Prod.mk.injEq] at H
    obtain ⟨rfl,rfl⟩:=H
    go_wp2
    go_ret2
    exact ⟨by first|rfl|(simp;done)|(simp [*];done),by repeat (first|exact Drawn0.refl _|apply Drawn0.step)⟩
   rw [if_pos c9] at H
   have c9b0 : decide (x7_1 < (l0.length : Int)) = true:=decide_eq_true c9
   clear c9
   replace H:=ifp_ H;obtain ⟨c10,H⟩:=H
   have c10b0 : decide (0 ≤ x7_1) = true:=decide_eq_true c10
   clear c10
   replace H:=ifp_ H;obtain ⟨c11,H⟩:=H
   have c11b0 : decide (x7_1 < (l0.length : Int)) = true:=decide_eq_true c11
   clear c11
   by_cases c12 : (rd l0 x7_1) = a1
   ·rw [if_pos c12] at H
    have c12b0:=bqt c12
    have c12b1:=bnf c12
    clear c12
    simp only [Option.some.injEq,Prod.mk.injEq] at H
    obtain ⟨rfl,rfl⟩:=H
    have p529 : 0 ≤ (x7_1 : Int):=of_decide_eq_true (by first|(with_reducible assumption)|assumption)
    have q529 : x7_1 < (l0.length : Int):=of_decide_eq_true (by first|(with_reducible assumption)|assumption)
    obtain ⟨ad529,e529,hx529_0⟩:=Kd.at_int HR0.out x7_1 p529 q529
    cases e529
    replace p529:=eq_true p529
    replace q529:=eq_true q529
    go_wp2
    go_ret2
    exact ⟨by first|rfl|(simp;done)|(simp [*];done),by repeat (first|exact Drawn0.refl _|apply Drawn0.step)⟩
   rw [if_neg c12] at H
   have c12b0:=bqf c12
   have c12b1:=bnt c12
   replace H:=Option.bind_eq_some_iff.mp H
   obtain ⟨t531,A130,H⟩:=H
   replace H : (if t531 = true then ((slices_isNaN_int.f a1).bind fun t532 => (some (x7_1,t532))) else (some (x7_1,false))) = some (r1,r2):=H
   have A13:=Aside0.mk A130
   clear A130
   by_cases c14 : t531 = true
   ·subst c14
    have H1 : ((slices_isNaN_int.f a1).bind fun t532 => (some (x7_1,t532))) = some (r1,r2):=by rw [if_pos rfl] at H;exact H
    clear H
    have H:=H1
    clear H1
    replace H:=Option.bind_eq_some_iff.mp H
    obtain ⟨t532,A150,H⟩:=H
    replace H : (some (x7_1,t532)) = some (r1,r2):=H
    have A15:=Aside0.mk A150
    clear A150
    simp only [Option.some.injEq,Prod.mk.injEq] at H
    obtain ⟨rfl,rfl⟩:=H
    have p529 : 0 ≤ (x7_1 : Int):=of_decide_eq_true (by first|(with_reducible assumption)|assumption)
    have q529 : x7_1 < (l0.length : Int):=of_decide_eq_true (by first|(with_reducible assumption)|assumption)
    obtain ⟨ad529,e529,hx529_0⟩:=Kd.at_int HR0.out x7_1 p529 q529
    cases e529
    replace p529:=eq_true p529
    replace q529:=eq_true q529
    have p530 : 0 ≤ (x7_1 : Int):=of_decide_eq_true (by first|(with_reducible assumption)|assumption)
    have q530 : x7_1 < (l0.length : Int):=of_decide_eq_true (by first|(with_reducible assumption)|assumption)
    obtain ⟨ad530,e530,hx530_0⟩:=Kd.at_int HR0.out x7_1 p530 q530
    obtain rfl : ad529 = ad530:=(by injection e530)
    replace p530:=eq_true p530
    replace q530:=eq_true q530
    go_wp2_with (first|(go_at_call 88;(with_reducible refine (slices_isNaN_int.calls (rd l0 x7_1) true _ A13.out).mono ?_);rintro e w' ⟨rfl,⟨nd,rfl⟩⟩)|(go_at_call 88;(with_reducible refine (slices_isNaN_int.calls a1 t532 _ A15.out).mono ?_);rintro e w' ⟨rfl,⟨nd,rfl⟩⟩))
    go_ret2
    exact ⟨by first|rfl|(simp;done)|(simp [*];done),by repeat (first|exact Drawn0.refl _|apply Drawn0.step)⟩
   ·replace c14:=Bool.eq_false_iff.mpr c14
    subst c14
    have H1 : (some (x7_1,false)) = some (r1,r2):=by rw [if_neg (show ¬ (false = true) by decide)] at H;exact H
    clear H
    have H:=H1
    clear H1
    simp only [Option.some.injEq,Prod.mk.injEq] at H
    obtain ⟨rfl,rfl⟩:=H
    have p529 : 0 ≤ (x7_1 : Int):=of_decide_eq_true (by first|(with_reducible assumption)|assumption)
    have q529 : x7_1 < (l0.length : Int):=of_decide_eq_true (by first|(with_reducible assumption)|assumption)
    obtain ⟨ad529,e529,hx529_0⟩:=Kd.at_int HR0.out x7_1 p529 q529
    cases e529
    replace p529:=eq_true p529
    replace q529:=eq_true q529
    have p530 : 0 ≤ (x7_1 : Int):=of_decide_eq_true (by first|(with_reducible assumption)|assumption)
    have q530 : x7_1 < (l0.length : Int):=of_decide_eq_true (by first|(with_reducible assumption)|assumption)
    obtain ⟨ad530,e530,hx530_0⟩:=Kd.at_int HR0.out x7_1 p530 q530
    obtain rfl : ad529 = ad530:=(by injection e530)
    replace p530:=eq_true p530
    replace q530:=eq_true q530
    go_wp2_with (first|(go_at_call 88;(with_reducible refine (slices_isNaN_int.calls (rd l0 x7_1) false _ A13.out).mono ?_);rintro e w' ⟨rfl,⟨nd,rfl⟩⟩))
    go_ret2
    exact ⟨by first|rfl|(simp;done)|(simp [*];done),by repeat (first|exact Drawn0.refl _|apply Drawn0.step)⟩

end Go.Proofs.Ythjmdpekcleihaa.P
