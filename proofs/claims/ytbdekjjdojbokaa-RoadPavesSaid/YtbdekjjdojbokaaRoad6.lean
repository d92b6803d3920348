/- What the functions of layer 4 (streets) come to, in plain words: paving and tearing. No conditions. -/
import Derived.Test.YtbdekjjdojbokaaPx0
import Derived.Test.YtbdekjjdojbokaaPx17
import Derived.Test.YtbdekjjdojbokaaPx19
import Derived.Test.YtbdekjjdojbokaaPx21
import Derived.Test.YtbdekjjdojbokaaPx29
import Derived.Test.YtbdekjjdojbokaaPx30
import Derived.Test.YtbdekjjdojbokaaPx31
import Derived.Test.YtbdekjjdojbokaaPx33
import Derived.Test.YtbdekjjdojbokaaPx34
import Derived.Test.YtbdekjjdojbokaaRoad1
namespace Go.Proofs.Ytbdekjjdojbokaa.Pure
set_option linter.unusedVariables false
set_option linter.unusedSimpArgs false
open Go.RowKit Go.Proofs.YtbdekjjdojbokaaW.PrintWords Go.Proofs.Ytbdekjjdojbokaa.P Go.Proofs.Ytbdekjjdojbokaa

theorem rset_at (l : List Int) (i j : Nat) (v : Int) : (l.set i v).getD j 0 = if i = j ∧ j < l.length then v else l.getD j 0 := by
  rw [List.getD_eq_getElem?_getD, List.getElem?_set, List.getD_eq_getElem?_getD]
  by_cases h : i = j
  · rw [if_pos h]
    by_cases h2 : i < l.length
    · rw [if_pos h2, if_pos ⟨h, by omega⟩]; rfl
    · rw [if_neg h2, if_neg (by omega), List.getElem?_eq_none (by omega)]
  · rw [if_neg h, if_neg (fun hh => h hh.1)]
theorem set_same {l : List Int} {i : Nat} (h : i < l.length) : l.set i (l.getD i 0) = l := by
  apply List.ext_getElem (by simp)
  intro j h1 h2
  rw [List.getElem_set]
  by_cases e : i = j
  · subst e; rw [if_pos rfl, List.getD_eq_getElem?_getD, List.getElem?_eq_getElem h]; rfl
  · rw [if_neg e]
def orr (a x : Int) : Int := Go.bits .or .i64 a x
def nab (a x : Int) : Int := Go.bits .andNot .i64 a x
def nd (a x : Int) : Int := Go.bits .and .i64 a x
def cnt (y : Int) : Int := wrap64 ((wrap64 ((wrap64 ((Go.bits .and .i64 y 1) + (Go.bits .and .i64 (y / 2) 1))) + (Go.bits .and .i64 (y / 4) 1))) + (Go.bits .and .i64 (y / 8) 1))
/-- The reference's paving, side by side: the arms, the cost, and whether any arm came. -/
def pav (a x : Int) : Nat → Int × Int × Bool
  | 0 => (a, 0, false)
  | s + 1 => if has x (s : Int) = true ∧ has a (s : Int) = false then (wrap64 ((pav a x s).1 + (shl .i64 1 (IntKind.u64.wrap (s : Int)))), wrap64 ((pav a x s).2.1 + 150), true) else pav a x s
def tea (a x : Int) : Nat → Int × Int × Bool
  | 0 => (a, 0, false)
  | s + 1 => if has x (s : Int) = true ∧ has a (s : Int) = true then (wrap64 ((tea a x s).1 - (shl .i64 1 (IntKind.u64.wrap (s : Int)))), wrap64 ((tea a x s).2.1 + 75), true) else tea a x s
theorem pav_all : ∀ a x : Fin 16, pav ((a.val : Nat) : Int) ((x.val : Nat) : Int) 4 = (orr ((a.val : Nat) : Int) ((x.val : Nat) : Int), wrap64 (cnt (nab ((x.val : Nat) : Int) ((a.val : Nat) : Int)) * 150), decide (orr ((a.val : Nat) : Int) ((x.val : Nat) : Int) ≠ ((a.val : Nat) : Int))) := by decide +kernel
theorem tea_all : ∀ a x : Fin 16, tea ((a.val : Nat) : Int) ((x.val : Nat) : Int) 4 = (nab ((a.val : Nat) : Int) ((x.val : Nat) : Int), wrap64 (cnt (nd ((x.val : Nat) : Int) ((a.val : Nat) : Int)) * 75), decide (nab ((a.val : Nat) : Int) ((x.val : Nat) : Int) ≠ ((a.val : Nat) : Int))) := by decide +kernel
theorem in_all : ∀ a x : Fin 16, (0 ≤ orr ((a.val : Nat) : Int) ((x.val : Nat) : Int) ∧ orr ((a.val : Nat) : Int) ((x.val : Nat) : Int) ≤ 15) ∧ (0 ≤ nab ((a.val : Nat) : Int) ((x.val : Nat) : Int) ∧ nab ((a.val : Nat) : Int) ((x.val : Nat) : Int) ≤ 15) := by decide +kernel
theorem back_all : ∀ a x : Fin 16, nab (orr ((a.val : Nat) : Int) ((x.val : Nat) : Int)) (nab ((x.val : Nat) : Int) ((a.val : Nat) : Int)) = ((a.val : Nat) : Int) ∧
    wrap64 (2 * wrap64 (cnt (nd (nab ((x.val : Nat) : Int) ((a.val : Nat) : Int)) (orr ((a.val : Nat) : Int) ((x.val : Nat) : Int))) * 75)) ≤ wrap64 (cnt (nab ((x.val : Nat) : Int) ((a.val : Nat) : Int)) * 150) ∧
    wrap64 (wrap64 (2 * wrap64 (cnt (nd (nab ((x.val : Nat) : Int) ((a.val : Nat) : Int)) (orr ((a.val : Nat) : Int) ((x.val : Nat) : Int))) * 75)) + 150) ≥ 0 := by decide +kernel
theorem fin_of {p : Int → Int → Prop} (h : ∀ a x : Fin 16, p ((a.val : Nat) : Int) ((x.val : Nat) : Int)) {a x : Int} (ha : 0 ≤ a ∧ a ≤ 15) (hx : 0 ≤ x ∧ x ≤ 15) : p a x := by
  have := h ⟨a.toNat, by omega⟩ ⟨x.toNat, by omega⟩
  simp only [Int.toNat_of_nonneg ha.1, Int.toNat_of_nonneg hx.1] at this
  exact this
section
variable {W H t x : Int} {A Y : List Int}
theorem road_clone_eq (hA : A.length ≤ 4000) (hY : Y.length ≤ 4000) : road_clone.f W H A Y = some (W, H, A, Y) := by
  unfold road_clone.f
  rw [if_pos (by simp; omega), if_pos (by simp; omega)]
  rfl
theorem ref_copied_eq (hA : A.length ≤ 4000) (hY : Y.length ≤ 4000) : hinterlandref04_copied.f W H A Y = some (W, H, A, Y) := by
  unfold hinterlandref04_copied.f
  rw [if_pos (by simp; omega), if_pos (by simp; omega)]
  rfl
theorem same_str_ev (W H : Int) (A Y : List Int) (hA : A.length ≤ 4000) (hY : Y.length ≤ 4000) : Ev (fun k => hinterlandsame_Streets.f k W H A Y W H A Y) true := by
  unfold hinterlandsame_Streets.f
  exact Ev.pos (by first | rfl | trivial) (Ev.pos (by first | rfl | trivial) (Ev.bind (same_ints_ev _ (by omega)) (Ev.pos (by first | rfl | trivial) (Ev.bind (same_ints_ev _ (by omega)) (Ev.now _)))))
/-- The ways, where a tile's arms become n. -/
def waysOf (A Y : List Int) (t n : Int) : List Int := if rd A t = n then Y else Y.set t.toNat 0
theorem waysOf_len (n : Int) : (waysOf A Y t n).length = Y.length := by unfold waysOf; split <;> simp
theorem set_eq (g : Good W H A Y) (hA : A.length ≤ 4000) (hY : Y.length ≤ 4000) (ht : 0 ≤ t ∧ t < W * H) (n : Int) : road_set.f W H A Y t n = some (W, H, A.set t.toNat n, waysOf A Y t n) := by
  have hAl := g.hA
  have hYl := g.hY
  unfold road_set.f waysOf
  rw [road_clone_eq hA hY, Option.bind_some]
  dsimp only
  rw [if_pos ht.1, if_pos (by omega)]
  by_cases c : rd A t = n
  · rw [if_pos c, if_pos c, ← c, show rd A t = A.getD t.toNat 0 from rfl, set_same (by omega)]
  · rw [if_neg c, if_neg c, if_pos (by omega)]
theorem set_good (h : vcode W H A Y = 0) (ht : 0 ≤ t ∧ t < W * H) {n : Int} (hn : 0 ≤ n ∧ n ≤ 15) : vcode W H (A.set t.toNat n) (waysOf A Y t n) = 0 := by
  have g := good_of h
  have hAl := g.hA
  have hYl := g.hY
  refine vcode_zero.2 ⟨⟨g.hW, g.hH, by rw [List.length_set]; exact g.hA, by rw [waysOf_len]; exact g.hY⟩, ?_, ?_, ?_⟩
  · intro j h0 hj
    rw [List.length_set] at hj
    unfold ArmAt
    rw [rset_at]
    split
    · exact hn
    · exact g.arms j h0 hj
  · intro j h0 hj
    rw [waysOf_len] at hj
    unfold WayAt waysOf
    split
    · exact g.ways j h0 hj
    · rw [rset_at]
      split
      · omega
      · exact g.ways j h0 hj
  · intro j h0 hj
    rw [waysOf_len] at hj
    unfold OneAt waysOf
    have ho := g.ones j h0 hj
    unfold OneAt at ho
    by_cases c : rd A t = n
    · rw [if_pos c, ← c, show rd A t = A.getD t.toNat 0 from rfl, set_same (by omega)]
      exact ho
    · rw [if_neg c, rset_at, rset_at]
      by_cases e : t.toNat = j
      · rw [if_pos ⟨e, hj⟩]; exact .inl rfl
      · rw [if_neg (fun h => e h.1), if_neg (fun h => e h.1)]; exact ho
open Classical in
/-- What Pave answers. -/
noncomputable def paved (W H : Int) (A Y : List Int) (t x : Int) : Int × Int × List Int × List Int × Int × Int :=
  if tcode W H A Y t 0 15 x = 0 then (W, H, A.set t.toNat (orr (rd A t) x), waysOf A Y t (orr (rd A t) x), wrap64 (cnt (nab x (rd A t)) * 150), 0) else (0, 0, [], [], 0, tcode W H A Y t 0 15 x)
open Classical in
/-- What Tear answers. -/
noncomputable def torn (W H : Int) (A Y : List Int) (t x : Int) : Int × Int × List Int × List Int × Int × Int :=
  if tcode W H A Y t 0 15 x = 0 then (W, H, A.set t.toNat (nab (rd A t) x), waysOf A Y t (nab (rd A t) x), wrap64 (cnt (nd x (rd A t)) * 75), 0) else (0, 0, [], [], 0, tcode W H A Y t 0 15 x)
theorem Pave_ev (hA : A.length ≤ 4000) (hY : Y.length ≤ 4000) : Ev (fun k => road_Pave.f k W H A Y t x) (paved W H A Y t x) := by
  unfold road_Pave.f
  refine checked (a := 0) (b := 15) (s := x) hA hY (fun h1 h2 => ?_) (fun c hc he => ?_)
  · refine Ev.pos (by first | rfl | trivial) ?_
    have g := good_of h1
    have hAl := g.hA
    have fin : ∀ q, q = decide (¬ (0 ≤ x ∧ x ≤ 15)) → Ev (fun k => road_Pave.j0 k t x q W H A Y) (paved W H A Y t x) := by
      intro q hq
      unfold paved
      refine Ev.step (fun k => by simp only [road_Pave.j0]; rfl) ?_
      by_cases c : 0 ≤ x ∧ x ≤ 15
      rotate_left
      · have e : tcode W H A Y t 0 15 x = 1 := by unfold tcode; rw [if_pos h1, if_pos h2, if_neg c]
        rw [e]; exact Ev.pos (by rw [hq]; exact decide_eq_true c) (Ev.now _)
      refine Ev.eq (Ev.neg (by rw [hq]; simpa using c) (Ev.pos h2.1 (Ev.pos (by omega) (Ev.bindc (set_eq g hA hY h2 _) (Ev.bindc (show road_count.f _ = some (cnt _) from rfl) (Ev.now _)))))) (if_pos (tcode_zero.2 ⟨h1, h2, c⟩)).symm
    by_cases c : x < 0
    · exact Ev.pos c (fin _ (decide_eq_true (by omega)).symm)
    · exact Ev.neg c (fin _ (decide_eq_decide.2 (by omega)))
  · unfold paved
    rw [← he]
    exact Ev.eq (Ev.neg hc (Ev.now _)) (if_neg hc).symm
theorem Tear_ev (hA : A.length ≤ 4000) (hY : Y.length ≤ 4000) : Ev (fun k => road_Tear.f k W H A Y t x) (torn W H A Y t x) := by
  unfold road_Tear.f
  refine checked (a := 0) (b := 15) (s := x) hA hY (fun h1 h2 => ?_) (fun c hc he => ?_)
  · refine Ev.pos (by first | rfl | trivial) ?_
    have g := good_of h1
    have hAl := g.hA
    have fin : ∀ q, q = decide (¬ (0 ≤ x ∧ x ≤ 15)) → Ev (fun k => road_Tear.j0 k t x q W H A Y) (torn W H A Y t x) := by
      intro q hq
      unfold torn
      refine Ev.step (fun k => by simp only [road_Tear.j0]; rfl) ?_
      by_cases c : 0 ≤ x ∧ x ≤ 15
      rotate_left
      · have e : tcode W H A Y t 0 15 x = 1 := by unfold tcode; rw [if_pos h1, if_pos h2, if_neg c]
        rw [e]; exact Ev.pos (by rw [hq]; exact decide_eq_true c) (Ev.now _)
      refine Ev.eq (Ev.neg (by rw [hq]; simpa using c) (Ev.pos h2.1 (Ev.pos (by omega) (Ev.bindc (set_eq g hA hY h2 _) (Ev.bindc (show road_count.f _ = some (cnt _) from rfl) (Ev.now _)))))) (if_pos (tcode_zero.2 ⟨h1, h2, c⟩)).symm
    by_cases c : x < 0
    · exact Ev.pos c (fin _ (decide_eq_true (by omega)).symm)
    · exact Ev.neg c (fin _ (decide_eq_decide.2 (by omega)))
  · unfold torn
    rw [← he]
    exact Ev.eq (Ev.neg hc (Ev.now _)) (if_neg hc).symm
theorem ref_checked_ev (hA : A.length ≤ 4000) (hY : Y.length ≤ 4000) : Ev (fun k => hinterlandref04_checked.f k W H A Y t x) (tcode W H A Y t 0 15 x) := by
  unfold hinterlandref04_checked.f
  refine Ev.bind (ref_validate_ev hA hY) ?_
  by_cases h1 : vcode W H A Y = 0
  rotate_left
  · have e : tcode W H A Y t 0 15 x = vcode W H A Y := by unfold tcode; rw [if_neg h1]
    rw [e]; exact Ev.neg h1 (Ev.now _)
  have g := good_of h1
  have ha := area g.hW g.hH
  refine Ev.pos h1 ?_
  rw [wrap_in (x := W * H) (by omega) (by omega)]
  have fin : ∀ q, q = decide (¬ (0 ≤ t ∧ t < W * H)) → Ev (fun k => hinterlandref04_checked.j0 k x q) (tcode W H A Y t 0 15 x) := by
    intro q hq
    refine Ev.step (fun k => by simp only [hinterlandref04_checked.j0]; rfl) ?_
    by_cases h2 : 0 ≤ t ∧ t < W * H
    rotate_left
    · have e : tcode W H A Y t 0 15 x = 2 := by unfold tcode; rw [if_pos h1, if_neg h2]
      rw [e]; exact Ev.pos (by rw [hq]; exact decide_eq_true h2) (Ev.now _)
    refine Ev.neg (by rw [hq]; simpa using h2) ?_
    have bad : ¬ (0 ≤ x ∧ x ≤ 15) → tcode W H A Y t 0 15 x = 1 := by intro h; unfold tcode; rw [if_pos h1, if_pos h2, if_neg h]
    by_cases c0 : x < 0
    · rw [bad (by omega)]; exact Ev.pos c0 (Ev.now _)
    refine Ev.neg c0 ?_
    by_cases c1 : x > 15
    · rw [bad (by omega)]; exact Ev.pos c1 (Ev.now _)
    rw [tcode_zero.2 ⟨h1, h2, by omega, by omega⟩]
    exact Ev.neg c1 (Ev.now _)
  by_cases c : t < 0
  · exact Ev.pos c (fin _ (decide_eq_true (by omega)).symm)
  · exact Ev.neg c (fin _ (decide_eq_decide.2 (by omega)))
theorem u64_in {s : Nat} (h : s < 4) : 0 ≤ IntKind.u64.wrap (s : Int) := by
  rcases (by omega : s = 0 ∨ s = 1 ∨ s = 2 ∨ s = 3) with e | e | e | e <;> subst e <;> decide +kernel
theorem pave_l0 (g : Good W H A Y) (ht : 0 ≤ t ∧ t < W * H) (hx : 0 ≤ x ∧ x ≤ 15) : ∀ n s : Nat, s + n = 4 →
    Ev (fun k => hinterlandref04_Pave.l0 k t x (pav (rd A t) x s).2.1 (s : Int) W H A Y W H (A.set t.toNat (pav (rd A t) x s).1) (if (pav (rd A t) x s).2.2 = true then Y.set t.toNat 0 else Y))
      (W, H, A.set t.toNat (pav (rd A t) x 4).1, (if (pav (rd A t) x 4).2.2 = true then Y.set t.toNat 0 else Y), (pav (rd A t) x 4).2.1, 0)
  | 0, s, h => by
    obtain rfl : s = 4 := by omega
    exact Ev.step (fun k => by simp only [hinterlandref04_Pave.l0]; rfl) (Ev.neg (by omega) (Ev.now _))
  | n + 1, s, h => by
    have hAl := g.hA
    have hYl := g.hY
    have ih := pave_l0 g ht hx n (s + 1) (by omega)
    rw [show ((s + 1 : Nat) : Int) = (s : Int) + 1 from by omega] at ih
    unfold pav at ih
    refine Ev.step (fun k => by simp only [hinterlandref04_Pave.l0]; rfl) (Ev.pos (by omega) (Ev.bindc (has_eq hx ⟨by omega, by omega⟩) ?_))
    rw [wrap_in (x := (s : Int) + 1) (by omega) (by omega)]
    by_cases c1 : has x (s : Int) = true
    rotate_left
    · rw [if_neg (fun h => c1 h.1)] at ih
      exact Ev.neg c1 ih
    refine Ev.pos c1 (Ev.pos ht.1 (Ev.pos (by omega) (Ev.bindc (has_eq (g.arm ht) ⟨by omega, by omega⟩) ?_)))
    by_cases c2 : has (rd A t) (s : Int) = true
    · rw [if_neg (fun h => by rw [c2] at h; exact absurd h.2 (by decide))] at ih
      exact Ev.pos c2 ih
    rw [if_pos ⟨c1, by simpa using c2⟩] at ih
    refine Ev.neg c2 (Ev.pos (by rw [List.length_set]; omega) (Ev.pos (u64_in (by omega)) (Ev.pos (by split <;> (try rw [List.length_set]) <;> omega) ?_)))
    rw [List.set_set, show rd (A.set t.toNat (pav (rd A t) x s).1) t = (pav (rd A t) x s).1 by unfold rd; rw [rset_at, if_pos ⟨rfl, by omega⟩]]
    rw [if_pos rfl] at ih
    have e : (if (pav (rd A t) x s).2.2 = true then Y.set t.toNat 0 else Y).set t.toNat 0 = Y.set t.toNat 0 := by split <;> simp
    rw [e]
    exact ih
theorem ref_Pave_ev (hA : A.length ≤ 4000) (hY : Y.length ≤ 4000) : Ev (fun k => hinterlandref04_Pave.f k W H A Y t x) (paved W H A Y t x) := by
  unfold hinterlandref04_Pave.f paved
  refine Ev.bind (ref_checked_ev hA hY) ?_
  by_cases h : tcode W H A Y t 0 15 x = 0
  rotate_left
  · exact Ev.eq (Ev.neg h (Ev.now _)) (if_neg h).symm
  have hz := tcode_zero.1 h
  have g := good_of hz.1
  have hAl := g.hA
  refine Ev.eq (Ev.pos h (Ev.bindc (ref_copied_eq hA hY) ?_)) (if_pos h).symm
  have hl := pave_l0 g hz.2.1 hz.2.2 4 0 (by omega)
  rw [fin_of (p := fun a x => pav a x 4 = (orr a x, wrap64 (cnt (nab x a) * 150), decide (orr a x ≠ a))) pav_all (g.arm hz.2.1) hz.2.2] at hl
  unfold pav at hl
  rw [show rd A t = A.getD t.toNat 0 from rfl, set_same (by omega)] at hl
  refine Ev.eq hl ?_
  unfold waysOf
  rw [show rd A t = A.getD t.toNat 0 from rfl]
  by_cases c : A.getD t.toNat 0 = orr (A.getD t.toNat 0) x
  · rw [if_pos c, show decide (orr (A.getD t.toNat 0) x ≠ A.getD t.toNat 0) = false from decide_eq_false (fun h => h c.symm)]; rfl
  · rw [if_neg c, show decide (orr (A.getD t.toNat 0) x ≠ A.getD t.toNat 0) = true from decide_eq_true (fun h => c h.symm)]; rfl
theorem tear_l0 (g : Good W H A Y) (ht : 0 ≤ t ∧ t < W * H) (hx : 0 ≤ x ∧ x ≤ 15) : ∀ n s : Nat, s + n = 4 →
    Ev (fun k => hinterlandref04_Tear.l0 k t x (tea (rd A t) x s).2.1 (s : Int) W H A Y W H (A.set t.toNat (tea (rd A t) x s).1) (if (tea (rd A t) x s).2.2 = true then Y.set t.toNat 0 else Y))
      (W, H, A.set t.toNat (tea (rd A t) x 4).1, (if (tea (rd A t) x 4).2.2 = true then Y.set t.toNat 0 else Y), (tea (rd A t) x 4).2.1, 0)
  | 0, s, h => by
    obtain rfl : s = 4 := by omega
    exact Ev.step (fun k => by simp only [hinterlandref04_Tear.l0]; rfl) (Ev.neg (by omega) (Ev.now _))
  | n + 1, s, h => by
    have hAl := g.hA
    have hYl := g.hY
    have ih := tear_l0 g ht hx n (s + 1) (by omega)
    rw [show ((s + 1 : Nat) : Int) = (s : Int) + 1 from by omega] at ih
    unfold tea at ih
    refine Ev.step (fun k => by simp only [hinterlandref04_Tear.l0]; rfl) (Ev.pos (by omega) (Ev.bindc (has_eq hx ⟨by omega, by omega⟩) ?_))
    rw [wrap_in (x := (s : Int) + 1) (by omega) (by omega)]
    by_cases c1 : has x (s : Int) = true
    rotate_left
    · rw [if_neg (fun h => c1 h.1)] at ih
      exact Ev.neg c1 ih
    refine Ev.pos c1 (Ev.pos ht.1 (Ev.pos (by omega) (Ev.bindc (has_eq (g.arm ht) ⟨by omega, by omega⟩) ?_)))
    by_cases c2 : has (rd A t) (s : Int) = true
    rotate_left
    · rw [if_neg (fun h => c2 h.2)] at ih
      exact Ev.neg c2 ih
    rw [if_pos ⟨c1, c2⟩] at ih
    refine Ev.pos c2 (Ev.pos (by rw [List.length_set]; omega) (Ev.pos (u64_in (by omega)) (Ev.pos (by split <;> (try rw [List.length_set]) <;> omega) ?_)))
    rw [List.set_set, show rd (A.set t.toNat (tea (rd A t) x s).1) t = (tea (rd A t) x s).1 by unfold rd; rw [rset_at, if_pos ⟨rfl, by omega⟩]]
    rw [if_pos rfl] at ih
    have e : (if (tea (rd A t) x s).2.2 = true then Y.set t.toNat 0 else Y).set t.toNat 0 = Y.set t.toNat 0 := by split <;> simp
    rw [e]
    exact ih
theorem ref_Tear_ev (hA : A.length ≤ 4000) (hY : Y.length ≤ 4000) : Ev (fun k => hinterlandref04_Tear.f k W H A Y t x) (torn W H A Y t x) := by
  unfold hinterlandref04_Tear.f torn
  refine Ev.bind (ref_checked_ev hA hY) ?_
  by_cases h : tcode W H A Y t 0 15 x = 0
  rotate_left
  · exact Ev.eq (Ev.neg h (Ev.now _)) (if_neg h).symm
  have hz := tcode_zero.1 h
  have g := good_of hz.1
  have hAl := g.hA
  refine Ev.eq (Ev.pos h (Ev.bindc (ref_copied_eq hA hY) ?_)) (if_pos h).symm
  have hl := tear_l0 g hz.2.1 hz.2.2 4 0 (by omega)
  rw [fin_of (p := fun a x => tea a x 4 = (nab a x, wrap64 (cnt (nd x a) * 75), decide (nab a x ≠ a))) tea_all (g.arm hz.2.1) hz.2.2] at hl
  unfold tea at hl
  rw [show rd A t = A.getD t.toNat 0 from rfl, set_same (by omega)] at hl
  refine Ev.eq hl ?_
  unfold waysOf
  rw [show rd A t = A.getD t.toNat 0 from rfl]
  by_cases c : A.getD t.toNat 0 = nab (A.getD t.toNat 0) x
  · rw [if_pos c, show decide (nab (A.getD t.toNat 0) x ≠ A.getD t.toNat 0) = false from decide_eq_false (fun h => h c.symm)]; rfl
  · rw [if_neg c, show decide (nab (A.getD t.toNat 0) x ≠ A.getD t.toNat 0) = true from decide_eq_true (fun h => c h.symm)]; rfl
theorem paved_len (hA : A.length ≤ 4000) (hY : Y.length ≤ 4000) : (paved W H A Y t x).2.2.1.length ≤ 4000 ∧ (paved W H A Y t x).2.2.2.1.length ≤ 4000 := by
  unfold paved
  split
  · dsimp only; rw [List.length_set, waysOf_len]; exact ⟨hA, hY⟩
  · simp
theorem torn_len (hA : A.length ≤ 4000) (hY : Y.length ≤ 4000) : (torn W H A Y t x).2.2.1.length ≤ 4000 ∧ (torn W H A Y t x).2.2.2.1.length ≤ 4000 := by
  unfold torn
  split
  · dsimp only; rw [List.length_set, waysOf_len]; exact ⟨hA, hY⟩
  · simp
end

end Go.Proofs.Ytbdekjjdojbokaa.Pure
