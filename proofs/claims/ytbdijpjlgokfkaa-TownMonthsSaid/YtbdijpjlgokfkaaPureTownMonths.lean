/- Layer 11, TownMonths (P11.3): the program and the reference end a month alike, and 60 months bring every mood within 9 of 0. No conditions. -/
import Derived.Test.YtbdijpjlgokfkaaPSTownMonths
import Derived.Test.YtbdijpjlgokfkaaTown0
namespace Go.Proofs.Ytbdijpjlgokfkaa.Pure
set_option linter.unusedVariables false
set_option linter.unusedSimpArgs false
open Go.RowKit Go.Proofs.YtbdijpjlgokfkaaW.PrintWords Go.Proofs.Ytbdijpjlgokfkaa.P Go.Proofs.Ytbdijpjlgokfkaa

/-- A mood a month later. -/
def cool (m : Int) : Int := wrap64 (m - wrap64 (Int.tdiv m 10))
theorem cool_is {m : Int} (h0 : -1000 ≤ m) (h1 : m ≤ 1000) : (0 ≤ m → cool m = m - m / 10) ∧ (m < 0 → cool m = m + (-m) / 10) := by
  unfold cool
  constructor
  · intro h
    rw [Int.tdiv_eq_ediv_of_nonneg h, wrap_in (x := m / 10) (by omega) (by omega), wrap_in (by omega) (by omega)]
  · intro h
    have e : Int.tdiv m 10 = -((-m) / 10) := by
      rw [show m = -(-m) from by omega, Int.neg_tdiv, Int.tdiv_eq_ediv_of_nonneg (by omega)]
      simp
    rw [e, wrap_in (x := -((-m) / 10)) (by omega) (by omega), wrap_in (by omega) (by omega)]
    omega
theorem cool_bound {m b : Int} (hb : b ≤ 1000) (h0 : -b ≤ m) (h1 : m ≤ b) : -(b - b / 10) ≤ cool m ∧ cool m ≤ b - b / 10 := by
  have h := cool_is (m := m) (by omega) (by omega)
  by_cases hm : 0 ≤ m
  · rw [h.1 hm]; omega
  · rw [h.2 (by omega)]; omega
def coolN : List Int → Nat → Nat → List Int
  | L, _, 0 => L
  | L, i, n + 1 => coolN (L.set i (cool (L.getD i 0))) (i + 1) n
theorem coolN_length : ∀ (n i : Nat) (L : List Int), (coolN L i n).length = L.length
  | 0, _, _ => rfl
  | n + 1, i, L => by rw [coolN, coolN_length n]; simp
theorem coolN_at : ∀ (n i : Nat) (L : List Int), i + n = L.length → ∀ j, (coolN L i n).getD j 0 = if i ≤ j ∧ j < i + n then cool (L.getD j 0) else L.getD j 0
  | 0, i, L, _, j => by rw [coolN, if_neg (by omega)]
  | n + 1, i, L, h, j => by
    rw [coolN, coolN_at n (i + 1) _ (by simp; omega) j]
    by_cases hj : j = i
    · subst hj
      rw [if_neg (by omega), if_pos (by omega)]
      simp [List.getD_eq_getElem?_getD, List.getElem?_set, show j < L.length from by omega]
    · have e : (L.set i (cool (L.getD i 0))).getD j 0 = L.getD j 0 := by
        simp [List.getD_eq_getElem?_getD, List.getElem?_set, Ne.symm hj]
      rw [e]
      by_cases h1 : i + 1 ≤ j ∧ j < i + 1 + n
      · rw [if_pos h1, if_pos (by omega)]
      · rw [if_neg h1, if_neg (by omega)]

theorem month_l0 (tile : Int) (H : List S68) (mv du c : Int) (hc : c = 12) : ∀ (n i : Nat) (L : List Int), i + n = 12 → L.length = 12 → Ev (fun k => town_Month.l0 k c (i : Int) tile H L mv du) (tile, H, coolN L i n, mv, du, 0)
  | 0, i, L, h, hl => by
    refine Ev.step (fun k => by simp only [town_Month.l0]; rfl) ?_
    exact Ev.neg (by omega) (Ev.now _)
  | n + 1, i, L, h, hl => by
    refine Ev.step (fun k => by simp only [town_Month.l0]; rfl) ?_
    refine Ev.pos (by omega) (Ev.pos (by omega) (Ev.pos (by omega) ?_))
    rw [rdN, wrap_in (x := (i : Int) + 1) (by omega) (by omega), Int.toNat_natCast]
    have := month_l0 tile H mv du c hc n (i + 1) (L.set i (cool (L.getD i 0))) (by omega) (by simp [hl])
    rw [show ((i + 1 : Nat) : Int) = (i : Int) + 1 from by omega] at this
    exact this
theorem ref_month_l0 (tile : Int) (H : List S68) (mv du : Int) : ∀ (n i : Nat) (L : List Int), i + n = 12 → L.length = 12 → Ev (fun k => hinterlandref11_Month.l0 k (i : Int) tile H L mv du) (tile, H, coolN L i n, mv, du, 0)
  | 0, i, L, h, hl => by
    refine Ev.step (fun k => by simp only [hinterlandref11_Month.l0]; rfl) ?_
    exact Ev.neg (by omega) (Ev.now _)
  | n + 1, i, L, h, hl => by
    refine Ev.step (fun k => by simp only [hinterlandref11_Month.l0]; rfl) ?_
    refine Ev.pos (by omega) (Ev.pos (by omega) ?_)
    rw [rdN, wrap_in (x := (i : Int) + 1) (by omega) (by omega), Int.toNat_natCast]
    have := ref_month_l0 tile H mv du n (i + 1) (L.set i (cool (L.getD i 0))) (by omega) (by simp [hl])
    rw [show ((i + 1 : Nat) : Int) = (i : Int) + 1 from by omega] at this
    exact this
theorem month_ok {tile : Int} {H : List S68} {M : List Int} {mv du : Int} (h : tcode tile H M mv du = 0) : Ev (fun k => town_Month.f k tile H M mv du) (tile, H, coolN M 0 12, 0, du, 0) := by
  have hv := tcode_zero.1 h
  have h12 : M.length = 12 := hv.2.1.2.1.2
  unfold town_Month.f
  refine Ev.bind (sound_ev tile H M mv du (by omega)) ?_
  rw [h]
  refine Ev.pos (by first | rfl | trivial) (Ev.bindc (copied_eq (by omega) h12) ?_)
  exact month_l0 tile H 0 du _ (by dsimp only; omega) 12 0 M (by omega) h12
theorem month_bad {tile : Int} {H : List S68} {M : List Int} {mv du : Int} (hM : M.length ≤ 300) (h : tcode tile H M mv du ≠ 0) : Ev (fun k => town_Month.f k tile H M mv du) (0, [], [], 0, 0, tcode tile H M mv du) := by
  unfold town_Month.f
  refine Ev.bind (sound_ev tile H M mv du (by omega)) ?_
  exact Ev.neg h (Ev.now _)
theorem ref_month_ok {tile : Int} {H : List S68} {M : List Int} {mv du : Int} (h : tcode tile H M mv du = 0) : Ev (fun k => hinterlandref11_Month.f k tile H M mv du) (tile, H, coolN M 0 12, 0, du, 0) := by
  have hv := tcode_zero.1 h
  have h12 : M.length = 12 := hv.2.1.2.1.2
  unfold hinterlandref11_Month.f
  refine Ev.bind (fields_ev tile H M mv du) ?_
  rw [h]
  refine Ev.pos (by first | rfl | trivial) (Ev.bindc (Copy_eq (by omega) h12) ?_)
  exact ref_month_l0 tile H 0 du 12 0 M (by omega) h12
theorem ref_month_bad {tile : Int} {H : List S68} {M : List Int} {mv du : Int} (h : tcode tile H M mv du ≠ 0) : Ev (fun k => hinterlandref11_Month.f k tile H M mv du) (0, [], [], 0, 0, tcode tile H M mv du) := by
  unfold hinterlandref11_Month.f
  refine Ev.bind (fields_ev tile H M mv du) ?_
  exact Ev.neg h (Ev.now _)

/-- How far moods may lie from 0 behind so many months. -/
def far60 : Nat → Int
  | 0 => 1000
  | n + 1 => far60 n - far60 n / 10
theorem far60_le : ∀ n, 0 ≤ far60 n ∧ far60 n ≤ 1000
  | 0 => by decide
  | n + 1 => by have := far60_le n; unfold far60; omega
theorem far60_end : far60 60 ≤ 9 := by decide +kernel

theorem months_l1 (tile : Int) (H : List S68) (M : List Int) (mv du : Int) (hM : M.length = 12) (hb : ∀ j, -9 ≤ M.getD j 0 ∧ M.getD j 0 ≤ 9) : ∀ n i : Nat, i + n = 12 → Ev (fun k => hinterlandlaw11_TownMonths.l1 k 0 (i : Int) tile H M mv du) true
  | 0, i, h => by
    refine Ev.step (fun k => by simp only [hinterlandlaw11_TownMonths.l1]; rfl) ?_
    refine Ev.neg (by omega) ?_
    refine Ev.step (fun k => by simp only [hinterlandlaw11_TownMonths.j4]; rfl) ?_
    exact Ev.neg (by simp) known_then
  | n + 1, i, h => by
    refine Ev.step (fun k => by simp only [hinterlandlaw11_TownMonths.l1]; rfl) ?_
    refine Ev.pos (by omega) ?_
    refine Ev.step (fun k => by simp only [hinterlandlaw11_TownMonths.j4]; rfl) ?_
    have hj := hb i
    refine Ev.pos (by simp) (Ev.pos (by omega) (Ev.pos (by omega) ?_))
    rw [rdN]
    refine Ev.neg (by omega) (Ev.neg (by omega) ?_)
    rw [wrap_in (by omega) (by omega)]
    exact months_l1 tile H M mv du hM hb n (i + 1) (by omega)
theorem months_l0 (tile : Int) (H : List S68) (du : Int) : ∀ (n i : Nat) (M : List Int) (mv : Int), i + n = 60 → tcode tile H M mv du = 0 → (∀ j, -far60 i ≤ M.getD j 0 ∧ M.getD j 0 ≤ far60 i) → Ev (fun k => hinterlandlaw11_TownMonths.l0 k 0 (i : Int) tile H M mv du) true
  | 0, i, M, mv, h, hv, hb => by
    refine Ev.step (fun k => by simp only [hinterlandlaw11_TownMonths.l0]; rfl) ?_
    refine Ev.neg (by omega) ?_
    refine Ev.step (fun k => by simp only [hinterlandlaw11_TownMonths.j2]; rfl) ?_
    have h60 : i = 60 := by omega
    subst h60
    have := far60_end
    exact months_l1 tile H M mv du (tcode_zero.1 hv).2.1.2.1.2 (fun j => by have := hb j; omega) 12 0 (by omega)
  | n + 1, i, M, mv, h, hv, hb => by
    refine Ev.step (fun k => by simp only [hinterlandlaw11_TownMonths.l0]; rfl) ?_
    refine Ev.pos (by omega) (Ev.pos (by first | rfl | trivial) (Ev.bind (month_ok hv) ?_))
    dsimp only
    rw [wrap_in (by omega) (by omega)]
    have hz := tcode_zero.1 hv
    have h12 : M.length = 12 := hz.2.1.2.1.2
    have hf := far60_le i
    have hb' : ∀ j, -far60 (i + 1) ≤ (coolN M 0 12).getD j 0 ∧ (coolN M 0 12).getD j 0 ≤ far60 (i + 1) := by
      intro j
      rw [coolN_at 12 0 M (by omega) j]
      have hbj := hb j
      by_cases hj : 0 ≤ j ∧ j < 0 + 12
      · rw [if_pos hj]
        exact cool_bound hf.2 hbj.1 hbj.2
      · rw [if_neg hj]
        have e : M.getD j 0 = 0 := by
          rw [List.getD_eq_getElem?_getD, List.getElem?_eq_none (by omega)]; rfl
        rw [e]
        have := far60_le (i + 1)
        omega
    have hf1 := far60_le (i + 1)
    refine months_l0 tile H du n (i + 1) (coolN M 0 12) 0 (by omega) (tcode_zero.2 ⟨hz.1, ⟨hz.2.1.1, ⟨?_, by rw [coolN_length]; exact h12⟩, by omega, hz.2.1.2.2.2⟩, hz.2.2⟩) hb'
    intro j _ _
    have := hb' j
    exact ⟨by omega, by omega⟩

theorem TownMonths : hinterlandlaw11_TownMonths.Pure := by
  intro tile H M mv du _ _ _ _ _
  refine Ev.rounds ?_
  unfold hinterlandlaw11_TownMonths.f
  refine Ev.bindc (far_eq _ _ _ _ _ _) ?_
  by_cases hfar : (0 : Int) > 300 ∨ (H.length : Int) > 600 ∨ (M.length : Int) > 300
  · exact Ev.pos (decide_eq_true hfar) known_then
  refine Ev.neg (fun h => hfar (of_decide_eq_true h)) ?_
  by_cases h : tcode tile H M mv du = 0
  · have hz := tcode_zero.1 h
    have h12 : M.length = 12 := hz.2.1.2.1.2
    refine Ev.bind (ref_month_ok h) (Ev.bind (month_ok h) ?_)
    refine Ev.pos (by first | rfl | trivial) (Ev.bind (same_town_ev _ _ _ _ _ (by dsimp only; omega) (by dsimp only; rw [coolN_length]; omega)) ?_)
    refine Ev.step (fun k => by simp only [hinterlandlaw11_TownMonths.j0]; rfl) ?_
    refine Ev.neg (by simp) ?_
    have hb' : ∀ j, -far60 0 ≤ (coolN M 0 12).getD j 0 ∧ (coolN M 0 12).getD j 0 ≤ far60 0 := by
      intro j
      have hbj : -1000 ≤ M.getD j 0 ∧ M.getD j 0 ≤ 1000 := by
        by_cases hj : j < M.length
        · exact hz.2.1.2.1.1 j (by omega) hj
        · rw [List.getD_eq_getElem?_getD, List.getElem?_eq_none (by omega)]; decide
      rw [coolN_at 12 0 M (by omega) j]
      unfold far60
      split
      · have := cool_bound (m := M.getD j 0) (b := 1000) (by omega) (by omega) (by omega)
        omega
      · omega
    refine months_l0 tile H du 60 0 (coolN M 0 12) 0 (by omega) (tcode_zero.2 ⟨hz.1, ⟨hz.2.1.1, ⟨?_, by rw [coolN_length]; exact h12⟩, by omega, hz.2.1.2.2.2⟩, hz.2.2⟩) hb'
    intro j _ _
    have := hb' j
    unfold far60 at this
    exact ⟨by omega, by omega⟩
  · refine Ev.bind (ref_month_bad h) (Ev.bind (month_bad (by omega) h) ?_)
    refine Ev.pos (by first | rfl | trivial) (Ev.bind (same_town_ev _ _ _ _ _ (by simp) (by simp)) ?_)
    refine Ev.step (fun k => by simp only [hinterlandlaw11_TownMonths.j0]; rfl) ?_
    refine Ev.neg (by simp) ?_
    refine Ev.step (fun k => by simp only [hinterlandlaw11_TownMonths.l0]; rfl) ?_
    refine Ev.pos (by omega) (Ev.neg h ?_)
    refine Ev.step (fun k => by simp only [hinterlandlaw11_TownMonths.j2]; rfl) ?_
    refine Ev.step (fun k => by simp only [hinterlandlaw11_TownMonths.l1]; rfl) ?_
    refine Ev.neg (by simp) ?_
    refine Ev.step (fun k => by simp only [hinterlandlaw11_TownMonths.j4]; rfl) ?_
    exact Ev.neg (by simp) known_then

end Go.Proofs.Ytbdijpjlgokfkaa.Pure
