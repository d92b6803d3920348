/- What the functions of layer 4 (streets) come to, in plain words: the program's paving and tearing. No conditions. -/
import Derived.Test.YtbdekjjdojbokaaPx0
import Derived.Test.YtbdekjjdojbokaaPx1
import Derived.Test.YtbdekjjdojbokaaPx2
import Derived.Test.YtbdekjjdojbokaaPx3
import Derived.Test.YtbdekjjdojbokaaPx8
import Derived.Test.YtbdekjjdojbokaaPx15
import Derived.Test.YtbdekjjdojbokaaPx17
import Derived.Test.YtbdekjjdojbokaaPx29
import Derived.Test.YtbdekjjdojbokaaPx30
import Derived.Test.YtbdekjjdojbokaaPx33
import Derived.Test.YtbdekjjdojbokaaEvKit
import Derived.Test.YtbdekjjdojbokaaVOpen
namespace Go.Proofs.Ytbdekjjdojbokaa.Pure
set_option linter.unusedVariables false
set_option linter.unusedSimpArgs false
open Go.RowKit Go.Proofs.YtbdekjjdojbokaaW.PrintWords Go.Proofs.Ytbdekjjdojbokaa.P Go.Proofs.Ytbdekjjdojbokaa
theorem Ev.rounds {α : Type} {g : Nat → Option α} {r : α} (h : Ev g r) : ∃ k, g k = some r := by
  obtain ⟨K, h⟩ := h
  exact ⟨K, h K (Nat.le_refl _)⟩
theorem rdN (l : List Int) (i : Nat) : rd l (i : Int) = l.getD i 0 := by unfold rd; simp
theorem not_all {p : Nat → Prop} {n : Nat} (h : ¬ ∀ j, 0 ≤ j → j < n → p j) : ∃ j, 0 ≤ j ∧ j < n ∧ ¬ p j := by
  apply Classical.byContradiction
  intro hc
  exact h fun j h1 h2 => Classical.byContradiction fun h3 => hc ⟨j, h1, h2, h3⟩
theorem large_eq (W H : Int) (A Y : List Int) : hinterlandlaw04_large.f W H A Y = some (decide ((A.length : Int) > 4000 ∨ (Y.length : Int) > 4000)) := by
  unfold hinterlandlaw04_large.f
  by_cases h1 : (A.length : Int) > 4000
  · rw [if_pos h1, decide_eq_true (.inl h1)]
  · rw [if_neg h1]; congr 1; apply decide_eq_decide.2; omega
theorem known_ev : Ev (fun k => hinterlandlaw04_known.f k) true := by
  refine Ev.of (fun k => hinterlandlaw04_known.mono k) (k := 60) ?_
  decide +kernel
theorem known_then : Ev (fun k => (hinterlandlaw04_known.f k).bind fun t => some t) true := Ev.bind known_ev (Ev.now _)
def Shape (W H : Int) (A Y : List Int) : Prop := (4 ≤ W ∧ W ≤ 32) ∧ (4 ≤ H ∧ H ≤ 32) ∧ (A.length : Int) = W * H ∧ (Y.length : Int) = W * H
def ArmAt (A : List Int) (j : Nat) : Prop := 0 ≤ A.getD j 0 ∧ A.getD j 0 ≤ 15
def WayAt (Y : List Int) (j : Nat) : Prop := 0 ≤ Y.getD j 0 ∧ Y.getD j 0 ≤ 2
def OneAt (A Y : List Int) (j : Nat) : Prop := Y.getD j 0 = 0 ∨ A.getD j 0 = 5 ∨ A.getD j 0 = 10
def Arms (A : List Int) : Prop := ∀ j, 0 ≤ j → j < A.length → ArmAt A j
def Wayz (Y : List Int) : Prop := ∀ j, 0 ≤ j → j < Y.length → WayAt Y j
def Ones (A Y : List Int) : Prop := ∀ j, 0 ≤ j → j < Y.length → OneAt A Y j
open Classical in
/-- The first error of streets. -/
noncomputable def vcode (W H : Int) (A Y : List Int) : Int := if Shape W H A Y then (if Arms A ∧ Wayz Y then (if Ones A Y then 0 else 9) else 1) else 1
theorem vcode_zero {W H : Int} {A Y : List Int} : vcode W H A Y = 0 ↔ Shape W H A Y ∧ Arms A ∧ Wayz Y ∧ Ones A Y := by
  unfold vcode
  by_cases h1 : Shape W H A Y
  · by_cases h2 : Arms A ∧ Wayz Y
    · by_cases h3 : Ones A Y
      · simp [h1, h2, h3]
      · simp [h1, h2, h3]
    · rw [if_pos h1, if_neg h2]; exact ⟨fun h => absurd h (by decide), fun h => absurd ⟨h.2.1, h.2.2.1⟩ h2⟩
  · simp [h1]
theorem area {W H : Int} (hW : 4 ≤ W ∧ W ≤ 32) (hH : 4 ≤ H ∧ H ≤ 32) : 16 ≤ W * H ∧ W * H ≤ 1024 := by
  constructor
  · have := Int.mul_le_mul hW.1 hH.1 (by decide) (by omega); omega
  · have := Int.mul_le_mul hW.2 hH.2 (by omega) (by decide); omega
section
variable {W H : Int} {A Y : List Int}
theorem validate_ev (hA : A.length ≤ 4000) (hY : Y.length ≤ 4000) : Ev (fun k => road_Validate.f k W H A Y) (vcode W H A Y) := by
  unfold road_Validate.f
  have bad : ¬ Shape W H A Y → ∀ q, q = true → Ev (fun k => road_Validate.j0 k q W H A Y) (vcode W H A Y) := by
    intro h q hq
    refine Ev.eq (Ev.step (fun k => by simp only [road_Validate.j0]; rfl) (Ev.pos hq (Ev.now _))) (if_neg h).symm
  by_cases w0 : W < 4
  · exact Ev.pos w0 (bad (fun h => by have := h.1; omega) _ rfl)
  refine Ev.neg w0 ?_
  by_cases w1 : W > 32
  · exact Ev.pos w1 (bad (fun h => by have := h.1; omega) _ rfl)
  refine Ev.neg w1 ?_
  by_cases h0 : H < 4
  · exact Ev.pos h0 (bad (fun h => by have := h.2.1; omega) _ rfl)
  refine Ev.neg h0 ?_
  by_cases h1 : H > 32
  · exact Ev.pos h1 (bad (fun h => by have := h.2.1; omega) _ rfl)
  refine Ev.neg h1 ?_
  have ha := area (W := W) (H := H) ⟨by omega, by omega⟩ ⟨by omega, by omega⟩
  rw [wrap_in (x := W * H) (by omega) (by omega)]
  by_cases l1 : (A.length : Int) = W * H
  rotate_left
  · exact Ev.neg l1 (bad (fun h => l1 h.2.2.1) _ rfl)
  refine Ev.pos l1 ?_
  by_cases l2 : (Y.length : Int) = W * H
  rotate_left
  · exact bad (fun h => l2 h.2.2.2) _ (bne_iff_ne.2 l2)
  have hs : Shape W H A Y := ⟨⟨by omega, by omega⟩, ⟨by omega, by omega⟩, l1, l2⟩
  refine Ev.eq ?_ (if_pos hs).symm
  rw [show ((Y.length : Int) != W * H) = false from bne_eq_false_iff_eq.2 l2]
  refine Ev.step (fun k => by simp only [road_Validate.j0]; rfl) (Ev.neg (by simp) ?_)
  have end1 : ∀ r, Ev (fun k => road_Validate.l1 k Y (Y.length : Int) (0 : Int) W H A Y) r → Ev (fun k => road_Validate.l0 k (A.length : Int) ((A.length : Nat) : Int) W H A Y) r := by
    intro r hr
    exact Ev.step (fun k => by simp only [road_Validate.l0]; rfl) (Ev.neg (by omega) hr)
  have good1 : ∀ i, i < A.length → (ArmAt A i ∧ WayAt Y i) → ∀ r, Ev (fun k => road_Validate.l0 k (A.length : Int) ((i : Int) + 1) W H A Y) r → Ev (fun k => road_Validate.l0 k (A.length : Int) (i : Int) W H A Y) r := by
    intro i hi ⟨p1, p2⟩ r hr
    unfold ArmAt at p1
    unfold WayAt at p2
    refine Ev.step (fun k => by simp only [road_Validate.l0]; rfl) ?_
    rw [rdN, rdN, wrap_in (x := (i : Int) + 1) (by omega) (by omega)]
    exact Ev.pos (by omega) (Ev.pos (by omega) (Ev.pos (by omega) (Ev.neg (by omega) (Ev.neg (by omega) (Ev.pos (by omega) (Ev.neg (by omega) (Ev.neg (by omega) hr)))))))
  have bad1 : ∀ i, i < A.length → ¬ (ArmAt A i ∧ WayAt Y i) → Ev (fun k => road_Validate.l0 k (A.length : Int) (i : Int) W H A Y) 1 := by
    intro i hi hp
    unfold ArmAt WayAt at hp
    refine Ev.step (fun k => by simp only [road_Validate.l0]; rfl) ?_
    rw [rdN, rdN]
    refine Ev.pos (by omega) (Ev.pos (by omega) (Ev.pos (by omega) ?_))
    by_cases q1 : A.getD i 0 < 0
    · exact Ev.pos q1 (Ev.now _)
    refine Ev.neg q1 ?_
    by_cases q2 : A.getD i 0 > 15
    · exact Ev.pos q2 (Ev.now _)
    refine Ev.neg q2 (Ev.pos (by omega) ?_)
    by_cases q3 : Y.getD i 0 < 0
    · exact Ev.pos q3 (Ev.now _)
    exact Ev.neg q3 (Ev.pos (by omega) (Ev.now _))
  have good2 : ∀ i, i < Y.length → OneAt A Y i → ∀ r, Ev (fun k => road_Validate.l1 k Y (Y.length : Int) ((i : Int) + 1) W H A Y) r → Ev (fun k => road_Validate.l1 k Y (Y.length : Int) (i : Int) W H A Y) r := by
    intro i hi p r hr
    unfold OneAt at p
    refine Ev.step (fun k => by simp only [road_Validate.l1]; rfl) ?_
    rw [rdN, rdN, wrap_in (x := (i : Int) + 1) (by omega) (by omega)]
    refine Ev.pos (by omega) (Ev.pos (by omega) (Ev.pos (by omega) ?_))
    by_cases q1 : Y.getD i 0 = 0
    · exact Ev.pos q1 hr
    refine Ev.neg q1 (Ev.pos (by omega) ?_)
    by_cases q2 : A.getD i 0 = 5
    · exact Ev.pos q2 hr
    exact Ev.neg q2 (Ev.pos (by omega) hr)
  have bad2 : ∀ i, i < Y.length → ¬ OneAt A Y i → Ev (fun k => road_Validate.l1 k Y (Y.length : Int) (i : Int) W H A Y) 9 := by
    intro i hi p
    unfold OneAt at p
    refine Ev.step (fun k => by simp only [road_Validate.l1]; rfl) ?_
    rw [rdN, rdN]
    exact Ev.pos (by omega) (Ev.pos (by omega) (Ev.pos (by omega) (Ev.neg (by omega) (Ev.pos (by omega) (Ev.neg (by omega) (Ev.neg (by omega) (Ev.now _)))))))
  have end2 : Ev (fun k => road_Validate.l1 k Y (Y.length : Int) ((Y.length : Nat) : Int) W H A Y) 0 :=
    Ev.step (fun k => by simp only [road_Validate.l1]; rfl) (Ev.neg (by omega) (Ev.now _))
  by_cases g1 : Arms A ∧ Wayz Y
  · refine Ev.eq ?_ (if_pos g1).symm
    refine Ev.scan_all (g := fun k i => road_Validate.l0 k (A.length : Int) i W H A Y) (end1 _ ?_) good1 A.length 0 (by omega) (fun j h1 h2 => ⟨g1.1 j h1 h2, g1.2 j h1 (by omega)⟩)
    by_cases g2 : Ones A Y
    · exact Ev.eq (Ev.scan_all (g := fun k i => road_Validate.l1 k Y (Y.length : Int) i W H A Y) end2 good2 Y.length 0 (by omega) g2) (if_pos g2).symm
    · exact Ev.eq (Ev.scan_some (g := fun k i => road_Validate.l1 k Y (Y.length : Int) i W H A Y) good2 bad2 Y.length 0 (by omega) (not_all g2)) (if_neg g2).symm
  · refine Ev.eq (Ev.scan_some (g := fun k i => road_Validate.l0 k (A.length : Int) i W H A Y) good1 bad1 A.length 0 (by omega) (not_all fun h => g1 ⟨fun j h1 h2 => (h j h1 h2).1, fun j h1 h2 => (h j h1 (by omega)).2⟩)) (if_neg g1).symm
end
structure On (W H t : Int) : Prop where
  hW : 4 ≤ W ∧ W ≤ 32
  hH : 4 ≤ H ∧ H ≤ 32
  ht : 0 ≤ t ∧ t < W * H
section
variable {W H t s : Int}
end
structure Good (W H : Int) (A Y : List Int) : Prop where
  hW : 4 ≤ W ∧ W ≤ 32
  hH : 4 ≤ H ∧ H ≤ 32
  hA : (A.length : Int) = W * H
  hY : (Y.length : Int) = W * H
  arms : Arms A
  ways : Wayz Y
  ones : Ones A Y
theorem good_of {W H : Int} {A Y : List Int} (h : vcode W H A Y = 0) : Good W H A Y := by
  have h := vcode_zero.1 h
  exact ⟨h.1.1, h.1.2.1, h.1.2.2.1, h.1.2.2.2, h.2.1, h.2.2.1, h.2.2.2⟩
section
variable {W H t s : Int} {A Y : List Int}
theorem Good.on (h : Good W H A Y) (ht : 0 ≤ t ∧ t < W * H) : On W H t := ⟨h.hW, h.hH, ht⟩
theorem Good.arm (h : Good W H A Y) (ht : 0 ≤ t ∧ t < W * H) : 0 ≤ rd A t ∧ rd A t ≤ 15 := h.arms t.toNat (by omega) (by have := h.hA; omega)
end
theorem same_ints_ev (l : List Int) (hl : l.length ≤ 9223372036854775807) : Ev (fun k => hinterlandsame_List_int.f k l l) true := by
  unfold hinterlandsame_List_int.f
  refine Ev.pos (by first | rfl | trivial) ?_
  refine Ev.scan_all (g := fun k i => hinterlandsame_List_int.l0 k l l i) (n := l.length) (p := fun _ => True) ?_ ?_ l.length 0 (by omega) (fun _ _ _ => trivial)
  · refine Ev.step (fun k => by simp only [hinterlandsame_List_int.l0]; rfl) ?_
    exact Ev.neg (by omega) (Ev.now _)
  · intro i hi _ r hr
    refine Ev.step (fun k => by simp only [hinterlandsame_List_int.l0]; rfl) ?_
    refine Ev.pos (by omega) (Ev.pos (by omega) (Ev.pos (by omega) (Ev.pos (by first | rfl | trivial) ?_)))
    rw [wrap_in (by omega) (by omega)]
    exact hr
section
variable {W H t s : Int} {A Y : List Int}
theorem check_ev (hA : A.length ≤ 4000) (hY : Y.length ≤ 4000) : Ev (fun k => road_check.f k W H A Y t) (if vcode W H A Y = 0 then (if 0 ≤ t ∧ t < W * H then 0 else 2) else vcode W H A Y) := by
  unfold road_check.f
  refine Ev.bind (validate_ev hA hY) ?_
  by_cases h : vcode W H A Y = 0
  · refine Ev.eq (Ev.pos h ?_) (if_pos h).symm
    have g := good_of h
    have ha := area g.hW g.hH
    rw [wrap_in (x := W * H) (by omega) (by omega)]
    by_cases h1 : t < 0
    · exact Ev.eq (Ev.pos h1 (Ev.now _)) (if_neg (by omega)).symm
    refine Ev.neg h1 ?_
    by_cases h2 : t ≥ W * H
    · exact Ev.eq (Ev.pos h2 (Ev.now _)) (if_neg (by omega)).symm
    · exact Ev.eq (Ev.neg h2 (Ev.now _)) (if_pos ⟨by omega, by omega⟩).symm
  · exact Ev.eq (Ev.neg h (Ev.now _)) (if_neg h).symm
open Classical in
/-- The first error of streets, a tile and a number that must lie between two others. -/
noncomputable def tcode (W H : Int) (A Y : List Int) (t a b s : Int) : Int := if vcode W H A Y = 0 then (if 0 ≤ t ∧ t < W * H then (if a ≤ s ∧ s ≤ b then 0 else 1) else 2) else vcode W H A Y
theorem tcode_zero {a b : Int} : tcode W H A Y t a b s = 0 ↔ vcode W H A Y = 0 ∧ (0 ≤ t ∧ t < W * H) ∧ a ≤ s ∧ s ≤ b := by
  unfold tcode
  by_cases h1 : vcode W H A Y = 0
  · rw [if_pos h1]
    by_cases h2 : 0 ≤ t ∧ t < W * H
    · rw [if_pos h2]
      by_cases h3 : a ≤ s ∧ s ≤ b
      · rw [if_pos h3]; exact ⟨fun _ => ⟨h1, h2, h3⟩, fun _ => rfl⟩
      · rw [if_neg h3]; exact ⟨fun h => absurd h (by decide), fun h => absurd h.2.2 h3⟩
    · rw [if_neg h2]; exact ⟨fun h => absurd h (by decide), fun h => absurd h.2.1 h2⟩
  · rw [if_neg h1]; exact ⟨fun h => absurd h h1, fun h => absurd h.1 h1⟩
/-- What a check does: a function that answers the error or goes on. -/
theorem checked {α : Type} {a b : Int} (hA : A.length ≤ 4000) (hY : Y.length ≤ 4000) {f : Nat → Int → Option α} {r : α}
    (h : vcode W H A Y = 0 → 0 ≤ t ∧ t < W * H → Ev (fun k => f k 0) r) (hb : ∀ c, c ≠ 0 → c = tcode W H A Y t a b s → Ev (fun k => f k c) r) : Ev (fun k => (road_check.f k W H A Y t).bind (f k)) r := by
  refine Ev.bind (check_ev hA hY) ?_
  by_cases h1 : vcode W H A Y = 0
  · rw [if_pos h1]
    by_cases h2 : 0 ≤ t ∧ t < W * H
    · rw [if_pos h2]; exact h h1 h2
    · rw [if_neg h2]; exact hb 2 (by decide) (by unfold tcode; rw [if_pos h1, if_neg h2])
  · rw [if_neg h1]; exact hb _ h1 (by unfold tcode; rw [if_neg h1])
end
theorem rset_at (l : List Int) (i j : Nat) (v : Int) : (l.set i v).getD j 0 = if i = j ∧ j < l.length then v else l.getD j 0 := by
  rw [List.getD_eq_getElem?_getD, List.getElem?_set, List.getD_eq_getElem?_getD]
  by_cases h : i = j
  · rw [if_pos h]
    by_cases h2 : i < l.length
    · rw [if_pos h2, if_pos ⟨h, by omega⟩]; rfl
    · rw [if_neg h2, if_neg (by omega), List.getElem?_eq_none (by omega)]
  · rw [if_neg h, if_neg (fun hh => h hh.1)]
theorem set_same {l : List Int} {i : Nat} (h : i < l.length) : l.set i (l.getD i 0) = l := by
  apply List.ext_getElem (by simp)
  intro j h1 h2
  rw [List.getElem_set]
  by_cases e : i = j
  · subst e; rw [if_pos rfl, List.getD_eq_getElem?_getD, List.getElem?_eq_getElem h]; rfl
  · rw [if_neg e]
def orr (a x : Int) : Int := Go.bits .or .i64 a x
def nab (a x : Int) : Int := Go.bits .andNot .i64 a x
def nd (a x : Int) : Int := Go.bits .and .i64 a x
def cnt (y : Int) : Int := wrap64 ((wrap64 ((wrap64 ((Go.bits .and .i64 y 1) + (Go.bits .and .i64 (y / 2) 1))) + (Go.bits .and .i64 (y / 4) 1))) + (Go.bits .and .i64 (y / 8) 1))
theorem in_all : ∀ a x : Fin 16, (0 ≤ orr ((a.val : Nat) : Int) ((x.val : Nat) : Int) ∧ orr ((a.val : Nat) : Int) ((x.val : Nat) : Int) ≤ 15) ∧ (0 ≤ nab ((a.val : Nat) : Int) ((x.val : Nat) : Int) ∧ nab ((a.val : Nat) : Int) ((x.val : Nat) : Int) ≤ 15) := by decide +kernel
theorem back_all : ∀ a x : Fin 16, nab (orr ((a.val : Nat) : Int) ((x.val : Nat) : Int)) (nab ((x.val : Nat) : Int) ((a.val : Nat) : Int)) = ((a.val : Nat) : Int) ∧
    wrap64 (2 * wrap64 (cnt (nd (nab ((x.val : Nat) : Int) ((a.val : Nat) : Int)) (orr ((a.val : Nat) : Int) ((x.val : Nat) : Int))) * 75)) ≤ wrap64 (cnt (nab ((x.val : Nat) : Int) ((a.val : Nat) : Int)) * 150) ∧
    wrap64 (wrap64 (2 * wrap64 (cnt (nd (nab ((x.val : Nat) : Int) ((a.val : Nat) : Int)) (orr ((a.val : Nat) : Int) ((x.val : Nat) : Int))) * 75)) + 150) ≥ 0 := by decide +kernel
theorem fin_of {p : Int → Int → Prop} (h : ∀ a x : Fin 16, p ((a.val : Nat) : Int) ((x.val : Nat) : Int)) {a x : Int} (ha : 0 ≤ a ∧ a ≤ 15) (hx : 0 ≤ x ∧ x ≤ 15) : p a x := by
  have := h ⟨a.toNat, by omega⟩ ⟨x.toNat, by omega⟩
  simp only [Int.toNat_of_nonneg ha.1, Int.toNat_of_nonneg hx.1] at this
  exact this
section
variable {W H t x : Int} {A Y : List Int}
theorem road_clone_eq (hA : A.length ≤ 4000) (hY : Y.length ≤ 4000) : road_clone.f W H A Y = some (W, H, A, Y) := by
  unfold road_clone.f
  rw [if_pos (by simp; omega), if_pos (by simp; omega)]
  rfl
/-- The ways, where a tile's arms become n. -/
def waysOf (A Y : List Int) (t n : Int) : List Int := if rd A t = n then Y else Y.set t.toNat 0
theorem waysOf_len (n : Int) : (waysOf A Y t n).length = Y.length := by unfold waysOf; split <;> simp
theorem set_eq (g : Good W H A Y) (hA : A.length ≤ 4000) (hY : Y.length ≤ 4000) (ht : 0 ≤ t ∧ t < W * H) (n : Int) : road_set.f W H A Y t n = some (W, H, A.set t.toNat n, waysOf A Y t n) := by
  have hAl := g.hA
  have hYl := g.hY
  unfold road_set.f waysOf
  rw [road_clone_eq hA hY, Option.bind_some]
  dsimp only
  rw [if_pos ht.1, if_pos (by omega)]
  by_cases c : rd A t = n
  · rw [if_pos c, if_pos c, ← c, show rd A t = A.getD t.toNat 0 from rfl, set_same (by omega)]
  · rw [if_neg c, if_neg c, if_pos (by omega)]
theorem set_good (h : vcode W H A Y = 0) (ht : 0 ≤ t ∧ t < W * H) {n : Int} (hn : 0 ≤ n ∧ n ≤ 15) : vcode W H (A.set t.toNat n) (waysOf A Y t n) = 0 := by
  have g := good_of h
  have hAl := g.hA
  have hYl := g.hY
  refine vcode_zero.2 ⟨⟨g.hW, g.hH, by rw [List.length_set]; exact g.hA, by rw [waysOf_len]; exact g.hY⟩, ?_, ?_, ?_⟩
  · intro j h0 hj
    rw [List.length_set] at hj
    unfold ArmAt
    rw [rset_at]
    split
    · exact hn
    · exact g.arms j h0 hj
  · intro j h0 hj
    rw [waysOf_len] at hj
    unfold WayAt waysOf
    split
    · exact g.ways j h0 hj
    · rw [rset_at]
      split
      · omega
      · exact g.ways j h0 hj
  · intro j h0 hj
    rw [waysOf_len] at hj
    unfold OneAt waysOf
    have ho := g.ones j h0 hj
    unfold OneAt at ho
    by_cases c : rd A t = n
    · rw [if_pos c, ← c, show rd A t = A.getD t.toNat 0 from rfl, set_same (by omega)]
      exact ho
    · rw [if_neg c, rset_at, rset_at]
      by_cases e : t.toNat = j
      · rw [if_pos ⟨e, hj⟩]; exact .inl rfl
      · rw [if_neg (fun h => e h.1), if_neg (fun h => e h.1)]; exact ho
open Classical in
/-- What Pave answers. -/
noncomputable def paved (W H : Int) (A Y : List Int) (t x : Int) : Int × Int × List Int × List Int × Int × Int :=
  if tcode W H A Y t 0 15 x = 0 then (W, H, A.set t.toNat (orr (rd A t) x), waysOf A Y t (orr (rd A t) x), wrap64 (cnt (nab x (rd A t)) * 150), 0) else (0, 0, [], [], 0, tcode W H A Y t 0 15 x)
open Classical in
/-- What Tear answers. -/
noncomputable def torn (W H : Int) (A Y : List Int) (t x : Int) : Int × Int × List Int × List Int × Int × Int :=
  if tcode W H A Y t 0 15 x = 0 then (W, H, A.set t.toNat (nab (rd A t) x), waysOf A Y t (nab (rd A t) x), wrap64 (cnt (nd x (rd A t)) * 75), 0) else (0, 0, [], [], 0, tcode W H A Y t 0 15 x)
theorem Pave_ev (hA : A.length ≤ 4000) (hY : Y.length ≤ 4000) : Ev (fun k => road_Pave.f k W H A Y t x) (paved W H A Y t x) := by
  unfold road_Pave.f
  refine checked (a := 0) (b := 15) (s := x) hA hY (fun h1 h2 => ?_) (fun c hc he => ?_)
  · refine Ev.pos (by first | rfl | trivial) ?_
    have g := good_of h1
    have hAl := g.hA
    have fin : ∀ q, q = decide (¬ (0 ≤ x ∧ x ≤ 15)) → Ev (fun k => road_Pave.j0 k t x q W H A Y) (paved W H A Y t x) := by
      intro q hq
      unfold paved
      refine Ev.step (fun k => by simp only [road_Pave.j0]; rfl) ?_
      by_cases c : 0 ≤ x ∧ x ≤ 15
      rotate_left
      · have e : tcode W H A Y t 0 15 x = 1 := by unfold tcode; rw [if_pos h1, if_pos h2, if_neg c]
        rw [e]; exact Ev.pos (by rw [hq]; exact decide_eq_true c) (Ev.now _)
      refine Ev.eq (Ev.neg (by rw [hq]; simpa using c) (Ev.pos h2.1 (Ev.pos (by omega) (Ev.bindc (set_eq g hA hY h2 _) (Ev.bindc (show road_count.f _ = some (cnt _) from rfl) (Ev.now _)))))) (if_pos (tcode_zero.2 ⟨h1, h2, c⟩)).symm
    by_cases c : x < 0
    · exact Ev.pos c (fin _ (decide_eq_true (by omega)).symm)
    · exact Ev.neg c (fin _ (decide_eq_decide.2 (by omega)))
  · unfold paved
    rw [← he]
    exact Ev.eq (Ev.neg hc (Ev.now _)) (if_neg hc).symm
theorem Tear_ev (hA : A.length ≤ 4000) (hY : Y.length ≤ 4000) : Ev (fun k => road_Tear.f k W H A Y t x) (torn W H A Y t x) := by
  unfold road_Tear.f
  refine checked (a := 0) (b := 15) (s := x) hA hY (fun h1 h2 => ?_) (fun c hc he => ?_)
  · refine Ev.pos (by first | rfl | trivial) ?_
    have g := good_of h1
    have hAl := g.hA
    have fin : ∀ q, q = decide (¬ (0 ≤ x ∧ x ≤ 15)) → Ev (fun k => road_Tear.j0 k t x q W H A Y) (torn W H A Y t x) := by
      intro q hq
      unfold torn
      refine Ev.step (fun k => by simp only [road_Tear.j0]; rfl) ?_
      by_cases c : 0 ≤ x ∧ x ≤ 15
      rotate_left
      · have e : tcode W H A Y t 0 15 x = 1 := by unfold tcode; rw [if_pos h1, if_pos h2, if_neg c]
        rw [e]; exact Ev.pos (by rw [hq]; exact decide_eq_true c) (Ev.now _)
      refine Ev.eq (Ev.neg (by rw [hq]; simpa using c) (Ev.pos h2.1 (Ev.pos (by omega) (Ev.bindc (set_eq g hA hY h2 _) (Ev.bindc (show road_count.f _ = some (cnt _) from rfl) (Ev.now _)))))) (if_pos (tcode_zero.2 ⟨h1, h2, c⟩)).symm
    by_cases c : x < 0
    · exact Ev.pos c (fin _ (decide_eq_true (by omega)).symm)
    · exact Ev.neg c (fin _ (decide_eq_decide.2 (by omega)))
  · unfold torn
    rw [← he]
    exact Ev.eq (Ev.neg hc (Ev.now _)) (if_neg hc).symm
end

end Go.Proofs.Ytbdekjjdojbokaa.Pure
