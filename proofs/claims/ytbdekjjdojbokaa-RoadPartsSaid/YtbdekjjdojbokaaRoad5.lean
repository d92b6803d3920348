/- What the functions of layer 4 (streets) come to, in plain words: the reference's parts. No conditions. -/
import Derived.Test.YtbdekjjdojbokaaPx0
import Derived.Test.YtbdekjjdojbokaaPx26
import Derived.Test.YtbdekjjdojbokaaRoad4
namespace Go.Proofs.Ytbdekjjdojbokaa.Pure
set_option linter.unusedVariables false
set_option linter.unusedSimpArgs false
open Go.RowKit Go.Proofs.YtbdekjjdojbokaaW.PrintWords Go.Proofs.Ytbdekjjdojbokaa.P Go.Proofs.Ytbdekjjdojbokaa

section
variable {W H : Int} {A Y : List Int}
open Classical in
/-- The reference's label of a tile, where the tiles below one have been looked at. -/
noncomputable def rlab (W H : Int) (A : List Int) (i j : Nat) : Int := if rd A (j : Int) = 0 then -1 else if low W H A j < i then (low W H A j : Int) else (j : Int)
theorem rlab_skip (g : Good W H A Y) {i : Nat} (h : rd A (i : Int) = 0 ∨ low W H A i < i) (j : Nat) : rlab W H A (i + 1) j = rlab W H A i j := by
  unfold rlab
  by_cases a0 : rd A (j : Int) = 0
  · rw [if_pos a0, if_pos a0]
  rw [if_neg a0, if_neg a0]
  by_cases hj : low W H A j = i
  · have hr := reach_low g hj
    rcases h with h | h
    · by_cases e : j = i
      · subst e; exact absurd h a0
      · exact absurd h ((hr.symm g).arm g e)
    · have := low_eq g hr
      omega
  · by_cases h0 : low W H A j < i
    · rw [if_pos h0, if_pos (by omega)]
    · rw [if_neg h0, if_neg (by omega)]
theorem rlab_low (g : Good W H A Y) {i j : Nat} (ha : rd A (i : Int) ≠ 0) (hi : low W H A i = i) (h : Reach W H A i j) : rlab W H A i j = (j : Int) := by
  have := low_eq g h
  have hne : ¬ rd A (j : Int) = 0 := by
    by_cases e : i = j
    · subst e; exact ha
    · exact h.arm g e
  unfold rlab
  rw [if_neg hne, if_neg (by omega)]
theorem rlab_next (g : Good W H A Y) {i j : Nat} (ha : rd A (i : Int) ≠ 0) (hi : low W H A i = i) (h : Reach W H A i j) : rlab W H A (i + 1) j = (i : Int) := by
  have := low_eq g h
  have hne : ¬ rd A (j : Int) = 0 := by
    by_cases e : i = j
    · subst e; exact ha
    · exact h.arm g e
  unfold rlab
  rw [if_neg hne, if_pos (by omega), ← this, hi]
theorem rlab_else (g : Good W H A Y) {i j : Nat} (h : ¬ Reach W H A i j) : rlab W H A (i + 1) j = rlab W H A i j := by
  unfold rlab
  have hn : low W H A j ≠ i := fun e => h (reach_low g e)
  by_cases a0 : rd A (j : Int) = 0
  · rw [if_pos a0, if_pos a0]
  rw [if_neg a0, if_neg a0]
  by_cases h0 : low W H A j < i
  · rw [if_pos h0, if_pos (by omega)]
  · rw [if_neg h0, if_neg (by omega)]
theorem rlab_end {j : Nat} (hj : j < A.length) : rlab W H A A.length j = lab W H A A.length j := by
  unfold rlab lab
  have := low_le W H A j
  by_cases a0 : rd A (j : Int) = 0
  · rw [if_pos a0, if_neg (fun h => h.1 a0)]
  · rw [if_neg a0, if_pos (by omega), if_pos ⟨a0, by omega⟩]

/-- The reference's flood. -/
theorem ref_floods (g : Good W H A Y) {i : Nat} {L0 : List Int} {r : List Int × Int} (hi : i < A.length) (ha0 : rd A (i : Int) ≠ 0) (hlow : low W H A i = i) (h0 : ∀ j, j < A.length → L0.getD j 0 = rlab W H A i j)
    (K : ∀ L, L.length = A.length → (∀ j, j < A.length → L.getD j 0 = L0.getD j 0 ∨ (L.getD j 0 = (i : Int) ∧ Reach W H A i j)) → (∀ j, Reach W H A i j → L.getD j 0 = (i : Int)) → Ev (fun k => hinterlandref04_Parts.l1 k L (A.length : Int) ((i : Int) + 1) W H A Y) r) :
    Floods W H A i L0 r (fun k L q => hinterlandref04_Parts.l2 k L (i : Int) q (A.length : Int) (i : Int) W H A Y) (fun k L q t s => hinterlandref04_Parts.l3 k L (i : Int) q t (A.length : Int) (i : Int) s W H A Y) where
  take := by
    intro L q hq hB
    have hq0 : q.length ≠ 0 := fun h => hq (List.length_eq_zero_iff.1 h)
    have hlast : rd q (((q.length - 1 : Nat)) : Int) = q.getLast hq := by
      rw [rdN, List.getD_eq_getElem?_getD, List.getElem?_eq_getElem (by omega), List.getLast_eq_getElem]
      rfl
    have hsplit : q.take (q.length - 1) ++ [q.getLast hq] = q := by
      rw [← List.dropLast_eq_take]
      exact List.dropLast_concat_getLast hq
    refine ⟨q.getLast hq, q.take (q.length - 1), by rw [List.length_take]; omega, fun y => ?_, fun hr => ?_⟩
    · have : y ∈ q ↔ y ∈ q.take (q.length - 1) ++ [q.getLast hq] := by rw [hsplit]
      rw [this, List.mem_append, List.mem_singleton, or_comm]
    · refine Ev.step (fun k => by simp only [hinterlandref04_Parts.l2]; rfl) (Ev.pos (by omega) ?_)
      rw [wrap_in (x := (q.length : Int) - 1) (by omega) (by omega), show (q.length : Int) - 1 = ((q.length - 1 : Nat) : Int) by omega, hlast, Int.toNat_natCast]
      exact Ev.pos (by omega) (Ev.pos (by omega) (Ev.pos (by omega) hr))
  fin := by
    intro L h1 h2 h3
    refine Ev.step (fun k => by simp only [hinterlandref04_Parts.l2]; rfl) (Ev.neg (by simp) ?_)
    have ha := area g.hW g.hH
    have hA := g.hA
    rw [wrap_in (x := (i : Int) + 1) (by omega) (by omega)]
    exact K L h1 h2 h3
  turn := by
    intro L q t hr
    exact Ev.step (fun k => by simp only [hinterlandref04_Parts.l3]; rfl) (Ev.neg (by omega) hr)
  none := by
    intro L q t s ht hs hm hr
    refine Ev.step (fun k => by simp only [hinterlandref04_Parts.l3]; rfl) (Ev.pos (by omega) (Ev.bindc (meets_eq g (tile_in g ht) hs) ?_))
    rw [hm, wrap_in (x := s + 1) (by omega) (by omega)]
    exact Ev.neg (by omega) hr
  done := by
    intro L q t s u ht hs hm hu hL hd hr
    refine Ev.step (fun k => by simp only [hinterlandref04_Parts.l3]; rfl) (Ev.pos (by omega) (Ev.bindc (meets_eq g (tile_in g ht) hs) ?_))
    rw [hm, wrap_in (x := s + 1) (by omega) (by omega), rdN, hd]
    exact Ev.pos (by omega) (Ev.pos (by omega) (Ev.pos (by omega) (Ev.neg (by omega) hr)))
  mark := by
    intro L q t s u ht hs hm hu hL hq hru hold hne hr
    have hval : L.getD u 0 = (u : Int) := by rw [hold, h0 u hu, rlab_low g ha0 hlow hru]
    have hle : i ≤ u := by have := low_least (W := W) (H := H) (A := A) hru; omega
    have hgt : i < u := by
      rcases Nat.lt_or_eq_of_le hle with h | h
      · exact h
      · subst h; exact absurd hval hne
    refine Ev.step (fun k => by simp only [hinterlandref04_Parts.l3]; rfl) (Ev.pos (by omega) (Ev.bindc (meets_eq g (tile_in g ht) hs) ?_))
    rw [hm, wrap_in (x := s + 1) (by omega) (by omega), rdN, hval, Int.toNat_natCast]
    exact Ev.pos (by omega) (Ev.pos (by omega) (Ev.pos (by omega) (Ev.pos (by omega) (Ev.pos (by omega) hr))))

theorem ref_l1 (g : Good W H A Y) : ∀ (n i : Nat) (L : List Int), i + n = A.length → L.length = A.length → (∀ j, j < A.length → L.getD j 0 = rlab W H A i j) → Ev (fun k => hinterlandref04_Parts.l1 k L (A.length : Int) (i : Int) W H A Y) (parts W H A, 0)
  | 0, i, L, h, hl, hL => by
    obtain rfl : i = A.length := by omega
    refine Ev.step (fun k => by simp only [hinterlandref04_Parts.l1]; rfl) (Ev.neg (by omega) (Ev.const ?_))
    rw [list_ext (L := L) (R := parts W H A) (by rw [parts_len]; exact hl) (fun j hj => by rw [parts_at (by omega), ← rlab_end (by omega)]; exact hL j (by omega))]
  | n + 1, i, L, h, hl, hL => by
    have ha := area g.hW g.hH
    have hA := g.hA
    have hi : i < A.length := by omega
    have hle := low_le W H A i
    refine Ev.step (fun k => by simp only [hinterlandref04_Parts.l1]; rfl) (Ev.pos (by omega) (Ev.pos (by omega) (Ev.pos (by omega) ?_)))
    have skip : rd A (i : Int) = 0 ∨ low W H A i < i → Ev (fun k => hinterlandref04_Parts.l1 k L (A.length : Int) (wrap64 ((i : Int) + 1)) W H A Y) (parts W H A, 0) := by
      intro hs
      rw [wrap_in (x := (i : Int) + 1) (by omega) (by omega)]
      exact ref_l1 g n (i + 1) L (by omega) hl (fun j hj => by rw [rlab_skip g hs]; exact hL j hj)
    rw [rdN, hL i hi]
    by_cases a0 : rd A (i : Int) = 0
    · exact Ev.neg (by unfold rlab; rw [if_pos a0]; omega) (skip (.inl a0))
    by_cases hlow : low W H A i < i
    · exact Ev.neg (by unfold rlab; rw [if_neg a0, if_pos hlow]; omega) (skip (.inr hlow))
    have hlow : low W H A i = i := by omega
    refine Ev.pos (rlab_low g a0 hlow .refl) ?_
    have at_i : L.getD i 0 = (i : Int) := by rw [hL i hi]; exact rlab_low g a0 hlow .refl
    have c1 := List.countP_le_length (p := fun x => x != (i : Int)) (l := L)
    refine flood2 g hi (ref_floods g hi a0 hlow hL (fun L' h1 h2 h3 => ?_)) (2 * A.length + 1) L [(i : Int)] (by simp; omega) (by omega) ⟨hl, fun j hj => .inl rfl, fun y hy => ⟨i, List.mem_singleton.1 hy, .refl, at_i⟩, fun j hj hlj => ?_, at_i⟩
    · refine ref_l1 g n (i + 1) L' (by omega) h1 (fun j hj => ?_)
      by_cases hr : Reach W H A i j
      · rw [h3 j hr, rlab_next g a0 hlow hr]
      · rcases h2 j hj with h | h
        · rw [h, hL j hj, rlab_else g hr]
        · exact absurd h.2 hr
    · have hjl := hj.lt g hi
      rw [hL j hjl, rlab_low g a0 hlow hj] at hlj
      exact .inl (List.mem_singleton.2 hlj)
theorem ref_l0 (g : Good W H A Y) : ∀ (n i : Nat) (L : List Int), i + n = A.length → L.length = A.length → (∀ j, j < i → L.getD j 0 = rlab W H A 0 j) → Ev (fun k => hinterlandref04_Parts.l0 k L A (A.length : Int) (i : Int) W H A Y) (parts W H A, 0)
  | 0, i, L, h, hl, hL => by
    obtain rfl : i = A.length := by omega
    refine Ev.step (fun k => by simp only [hinterlandref04_Parts.l0]; rfl) (Ev.neg (by omega) ?_)
    rw [show ((L.length : Nat) : Int) = (A.length : Int) by omega]
    exact ref_l1 g A.length 0 L (by omega) hl hL
  | n + 1, i, L, h, hl, hL => by
    have ha := area g.hW g.hH
    have hA := g.hA
    refine Ev.step (fun k => by simp only [hinterlandref04_Parts.l0]; rfl) (Ev.pos (by omega) (Ev.pos (by omega) (Ev.pos (by omega) (Ev.pos (by omega) (Ev.bindc rfl ?_)))))
    rw [wrap_in (x := (i : Int) + 1) (by omega) (by omega), Int.toNat_natCast]
    have zero : ∀ j : Nat, rlab W H A 0 j = if rd A (j : Int) = 0 then -1 else (j : Int) := by
      intro j
      unfold rlab
      by_cases a0 : rd A (j : Int) = 0
      · rw [if_pos a0, if_pos a0]
      · rw [if_neg a0, if_neg a0, if_neg (by omega)]
    by_cases a0 : rd A (i : Int) = 0
    · refine Ev.pos a0 (ref_l0 g n (i + 1) (L.set i (-1)) (by omega) (by rw [List.length_set]; exact hl) (fun j hj => ?_))
      rw [set_at]
      by_cases e : i = j
      · subst e; rw [if_pos ⟨rfl, by omega⟩, zero, if_pos a0]
      · rw [if_neg (fun h => e h.1)]; exact hL j (by omega)
    · refine Ev.neg a0 (ref_l0 g n (i + 1) ((L.set i (-1)).set i (i : Int)) (by omega) (by simp [hl]) (fun j hj => ?_))
      rw [set_at, List.length_set]
      by_cases e : i = j
      · subst e; rw [if_pos ⟨rfl, by omega⟩, zero, if_neg a0]
      · rw [if_neg (fun h => e h.1), set_at, if_neg (fun h => e h.1)]; exact hL j (by omega)
theorem ref_Parts_ev (hA : A.length ≤ 4000) (hY : Y.length ≤ 4000) : Ev (fun k => hinterlandref04_Parts.f k W H A Y) (if vcode W H A Y = 0 then (parts W H A, 0) else ([], vcode W H A Y)) := by
  unfold hinterlandref04_Parts.f
  refine Ev.bind (ref_validate_ev hA hY) ?_
  by_cases h : vcode W H A Y = 0
  · refine Ev.eq (Ev.pos h (Ev.pos (by omega) (Ev.pos (by omega) ?_))) (if_pos h).symm
    rw [Int.toNat_natCast]
    exact ref_l0 (good_of h) A.length 0 _ (by omega) (by simp) (fun j hj => by omega)
  · exact Ev.eq (Ev.neg h (Ev.now _)) (if_neg h).symm
end

end Go.Proofs.Ytbdekjjdojbokaa.Pure
