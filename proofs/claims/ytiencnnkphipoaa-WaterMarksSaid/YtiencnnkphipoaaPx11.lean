/- Functions of this seat as plain Lean functions, with proofs that the Go code comes to just their answers, or what stands between them and a law's statement; no conditions. (Laid by a program of this session, out of the kit's print.) -/
import Derived.Test.YtiencnnkphipoaaPx0
namespace Go.Proofs.Ytiencnnkphipoaa.P
open Go.RowKit Go.Proofs.YtiencnnkphipoaaW.PrintWords Go.Proofs.YtiencnnkphipoaaW.PrintLast Go.Proofs.YtiencnnkphipoaaW.PrintMore
attribute [local go_sem] max2_int min2_int max_two min_two max_three min_three max_four min_four   -- for this text's walks alone
set_option linter.unusedVariables false
set_option linter.unusedSimpArgs false

/-! ### hinterlandref06_marked: function 57 -/
def hinterlandref06_marked.l0 : Nat → Int → List Int → Int → Int → Option (Bool)
 | 0,_,_,_,_ => none
 | k + 1,x1,x8,x9,x10 => if x10 < x9 then (if 0 ≤ x10 then (if x10 < (x8.length : Int) then (if (rd x8 x10) = x1 then (some true) else (hinterlandref06_marked.l0 k x1 x8 x9 (wrap64 (x10 + 1)))) else (none)) else (none)) else (some false)
def hinterlandref06_marked.f (k : Nat) (l0_0 : List Int) (l0_1 : List Int) (a1 : Int) : Option (Bool) := hinterlandref06_marked.l0 k a1 l0_1 (l0_1.length : Int) 0
theorem hinterlandref06_marked.mono_l : ∀ k, (∀ y0 y1 y2 y3, LeO (hinterlandref06_marked.l0 k y0 y1 y2 y3) (hinterlandref06_marked.l0 (k + 1) y0 y1 y2 y3))
 | 0 => fun _ _ _ _ r h => by simp [hinterlandref06_marked.l0] at h
 | k + 1 => by
  have ih0:=hinterlandref06_marked.mono_l k
  ·intro y0 y1 y2 y3
   unfold hinterlandref06_marked.l0
   repeat' first
   | (with_reducible exact ih0 _ _ _ _)
   | (with_reducible exact LeO.refl _)
   | (with_reducible exact LeO.none _)
   | (with_reducible refine LeO.ite ?_ ?_)
   | (with_reducible refine LeO.bind ?_ (fun _ => ?_))
   | exact ih0 _ _ _ _
   | exact LeO.none _
   | refine LeO.ite ?_ ?_
   | refine LeO.bind ?_ (fun _ => ?_)
theorem hinterlandref06_marked.mono : ∀ a0 a1 a2 k, LeO (hinterlandref06_marked.f k a0 a1 a2) (hinterlandref06_marked.f (k + 1) a0 a1 a2) := by
 intro a0 a1 a2 k
 have ih0:=hinterlandref06_marked.mono_l k
 unfold hinterlandref06_marked.f
 repeat' first
   | (with_reducible exact ih0 _ _ _ _)
   | (with_reducible exact LeO.refl _)
   | (with_reducible exact LeO.none _)
   | (with_reducible refine LeO.ite ?_ ?_)
   | (with_reducible refine LeO.bind ?_ (fun _ => ?_))
   | exact ih0 _ _ _ _
   | exact LeO.none _
   | refine LeO.ite ?_ ?_
   | refine LeO.bind ?_ (fun _ => ?_)
set_option maxHeartbeats 8000000 in
set_option maxRecDepth 100000 in
theorem hinterlandref06_marked.calls (k : Nat) (A0_0 : Option Addr) (c0_0 : Nat) (l0_0 : List Int) (A0_1 : Option Addr) (c0_1 : Nat) (l0_1 : List Int) (a1 : Int) (r : Bool) (w : World) (hr0_0 : Kd.C (Kd.int .i64) w A0_0 l0_0.length l0_0) (hc0_0 : l0_0.length ≤ c0_0) (hr0_1 : Kd.C (Kd.int .i64) w A0_1 l0_1.length l0_1) (hc0_1 : l0_1.length ≤ c0_1) (h : hinterlandref06_marked.f k l0_0 l0_1 a1 = some r) :
  Calls Try.prog 57 #[.agg #[.slice A0_0 l0_0.length c0_0,.slice A0_1 l0_1.length c0_1],.int .i64 a1] w fun e w' => e = .returned (.bool r) ∧ Below w.heap.size w w':=by
 have hu26:=Try.underlying26
 have HR0_0:=Aside0.mk hr0_0
 have HC0_0:=Aside0.mk hc0_0
 clear hr0_0 hc0_0
 have HR0_1:=Aside0.mk hr0_1
 have HC0_1:=Aside0.mk hc0_1
 clear hr0_1 hc0_1
 have HB:=Aside0.mk (Below.refl w.heap.size w)
 have H : (hinterlandref06_marked.l0 k a1 l0_1 (l0_1.length : Int) 0) = some r:=h
 clear h
 have H':=Aside0.mk H
 clear H
 go_enter Try.func57,Try.ntmps57
 go_wp2_with (first|((with_reducible refine gate_dst (N:=2) rfl ?_);refine box_ev (N:=2) (cs:=#[.slice A0_0 l0_0.length c0_0,.slice A0_1 l0_1.length c0_1]) (t:=26) ?_;intro gb412 hg w3 hbox hb;have BK412:=Aside0.mk (hbox);have GW412 : Aside0 (w.heap.size ≤ gb412):=gsz hg;have GE412:=GW412;replace HB:=hbs hb;clear hb hbox hg;obtain ⟨_,_,_,_⟩:=cells2 BK412.out))
 go_loopg [10] k (fun kq v10 w' => ∃ (x10_1 : Int),v10 = .int .i64 x10_1 ∧ Aside0 (hinterlandref06_marked.l0 kq a1 l0_1 (l0_1.length : Int) x10_1 = some r) ∧ Aside0 (kq ≤ k) ∧ Aside0 (w'.heap[gb412]? = some (.cells #[(.slice A0_0 l0_0.length c0_0),(.slice A0_1 l0_1.length c0_1)] 26 (0,0))) ∧ Aside0 (Below w.heap.size w w'))
 case atStart => exact ⟨(0),(by first|rfl|(simp;done)|(simp [*];done)),H',⟨Nat.le_refl _⟩,⟨blk_up BK412.out⟩,⟨hb_⟩⟩
 case round =>
  clear H'
  obtain ⟨x10_1,rfl,HA,HK1,BK412,HB⟩:=hrel
  cases gk with
  | zero => exact absurd HA.out (by simp [hinterlandref06_marked.l0])
  | succ k1 =>
   have H:=HA.out
   clear HA
   simp only [hinterlandref06_marked.l0] at H
   by_cases c5 : x10_1 < (l0_1.length : Int)
   rotate_left
   ·rw [if_neg c5] at H
    have c5b0 : decide (x10_1 < (l0_1.length : Int)) = false:=decide_eq_false c5
    clear c5
    obtain rfl:=Option.some.inj H
    go_wp2
    go_ret
    exact ⟨er_,hb_⟩
   rw [if_pos c5] at H
   have c5b0 : decide (x10_1 < (l0_1.length : Int)) = true:=decide_eq_true c5
   clear c5
   replace H:=ifp_ H;obtain ⟨c6,H⟩:=H
   have c6b0 : decide (0 ≤ x10_1) = true:=decide_eq_true c6
   clear c6
   replace H:=ifp_ H;obtain ⟨c7,H⟩:=H
   have c7b0 : decide (x10_1 < (l0_1.length : Int)) = true:=decide_eq_true c7
   clear c7
   by_cases c8 : (rd l0_1 x10_1) = a1
   ·rw [if_pos c8] at H
    have c8b0:=bqt c8
    have c8b1:=bnf c8
    clear c8
    obtain rfl:=Option.some.inj H
    have p413 : 0 ≤ (x10_1 : Int):=of_decide_eq_true (by first|(with_reducible assumption)|assumption)
    have q413 : x10_1 < (l0_1.length : Int):=of_decide_eq_true (by first|(with_reducible assumption)|assumption)
    obtain ⟨ad413,e413,hx413_0⟩:=Kd.at_int HR0_1.out x10_1 p413 q413
    cases e413
    replace hx413_0:=(HB.out.cell (World.block_lt_of_cell? w _ hx413_0)).trans hx413_0
    replace p413:=eq_true p413
    replace q413:=eq_true q413
    go_wp2
    go_ret
    exact ⟨er_,hb_⟩
   ·rw [if_neg c8] at H
    have c8b0:=bqf c8
    have c8b1:=bnt c8
    have H':=Aside0.mk H
    clear H
    have p413 : 0 ≤ (x10_1 : Int):=of_decide_eq_true (by first|(with_reducible assumption)|assumption)
    have q413 : x10_1 < (l0_1.length : Int):=of_decide_eq_true (by first|(with_reducible assumption)|assumption)
    obtain ⟨ad413,e413,hx413_0⟩:=Kd.at_int HR0_1.out x10_1 p413 q413
    cases e413
    replace hx413_0:=(HB.out.cell (World.block_lt_of_cell? w _ hx413_0)).trans hx413_0
    replace p413:=eq_true p413
    replace q413:=eq_true q413
    go_wp2
    go_roundg k1
    case measure => have:=HK1.out;omega
    case rel => exact ⟨(wrap64 (x10_1 + 1)),(by first|rfl|(simp;done)|(simp [*];done)),H',⟨by have:=HK1.out;omega⟩,⟨blk_up BK412.out⟩,⟨hb_⟩⟩

end Go.Proofs.Ytiencnnkphipoaa.P
