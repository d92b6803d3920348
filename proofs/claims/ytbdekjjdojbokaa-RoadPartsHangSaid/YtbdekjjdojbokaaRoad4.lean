/- What the functions of layer 4 (streets) come to, in plain words: the program's parts. No conditions. -/
import Derived.Test.YtbdekjjdojbokaaPx0
import Derived.Test.YtbdekjjdojbokaaPx25
import Derived.Test.YtbdekjjdojbokaaRoad3
namespace Go.Proofs.Ytbdekjjdojbokaa.Pure
set_option linter.unusedVariables false
set_option linter.unusedSimpArgs false
open Go.RowKit Go.Proofs.YtbdekjjdojbokaaW.PrintWords Go.Proofs.Ytbdekjjdojbokaa.P Go.Proofs.Ytbdekjjdojbokaa

theorem list_ext {L R : List Int} (hl : L.length = R.length) (h : ∀ j, j < L.length → L.getD j 0 = R.getD j 0) : L = R := by
  apply List.ext_getElem hl
  intro j h1 h2
  have := h j h1
  rw [List.getD_eq_getElem?_getD, List.getD_eq_getElem?_getD, List.getElem?_eq_getElem h1, List.getElem?_eq_getElem h2] at this
  exact this
section
variable {W H : Int} {A Y : List Int}
open Classical in
/-- The label of a tile, where the tiles below one have been looked at. -/
noncomputable def lab (W H : Int) (A : List Int) (i j : Nat) : Int := if rd A (j : Int) ≠ 0 ∧ low W H A j < i then (low W H A j : Int) else -1
noncomputable def parts (W H : Int) (A : List Int) : List Int := (List.range A.length).map fun j => lab W H A A.length j
theorem parts_len (W H : Int) (A : List Int) : (parts W H A).length = A.length := by unfold parts; simp
theorem parts_at {j : Nat} (hj : j < A.length) : (parts W H A).getD j 0 = lab W H A A.length j := by
  unfold parts
  rw [List.getD_eq_getElem?_getD, List.getElem?_map, List.getElem?_range hj]
  rfl
theorem lab_skip (g : Good W H A Y) {i : Nat} (h : rd A (i : Int) = 0 ∨ low W H A i < i) (j : Nat) : lab W H A (i + 1) j = lab W H A i j := by
  unfold lab
  by_cases hj : rd A (j : Int) ≠ 0 ∧ low W H A j = i
  · have hr := reach_low g hj.2
    rcases h with h | h
    · by_cases e : j = i
      · subst e; exact absurd h hj.1
      · exact absurd h ((hr.symm g).arm g e)
    · have := low_eq g hr
      omega
  · by_cases h0 : rd A (j : Int) ≠ 0 ∧ low W H A j < i
    · rw [if_pos h0, if_pos ⟨h0.1, by omega⟩]
    · rw [if_neg h0, if_neg (fun h' => by
        by_cases e : low W H A j = i
        · exact hj ⟨h'.1, e⟩
        · exact h0 ⟨h'.1, by omega⟩)]
theorem lab_low (g : Good W H A Y) {i j : Nat} (hi : low W H A i = i) (h : Reach W H A i j) : lab W H A i j = -1 := by
  unfold lab
  rw [if_neg]
  have := low_eq g h
  omega
theorem lab_next (g : Good W H A Y) {i j : Nat} (ha : rd A (i : Int) ≠ 0) (hi : low W H A i = i) (h : Reach W H A i j) : lab W H A (i + 1) j = (i : Int) := by
  have := low_eq g h
  have hne : rd A (j : Int) ≠ 0 := by
    by_cases e : i = j
    · subst e; exact ha
    · exact h.arm g e
  unfold lab
  rw [if_pos ⟨hne, by omega⟩, ← this, hi]
theorem lab_else (g : Good W H A Y) {i j : Nat} (h : ¬ Reach W H A i j) : lab W H A (i + 1) j = lab W H A i j := by
  unfold lab
  have hn : low W H A j ≠ i := fun e => h (reach_low g e)
  by_cases h0 : rd A (j : Int) ≠ 0 ∧ low W H A j < i
  · rw [if_pos h0, if_pos ⟨h0.1, by omega⟩]
  · rw [if_neg h0, if_neg (fun h' => h0 ⟨h'.1, by omega⟩)]

/-- The program's flood. -/
theorem road_floods (g : Good W H A Y) {i : Nat} {L0 : List Int} {r : List Int × Int} (hi : i < A.length) (hlow : low W H A i = i) (h0 : ∀ j, j < A.length → L0.getD j 0 = lab W H A i j)
    (K : ∀ L, L.length = A.length → (∀ j, j < A.length → L.getD j 0 = L0.getD j 0 ∨ (L.getD j 0 = (i : Int) ∧ Reach W H A i j)) → (∀ j, Reach W H A i j → L.getD j 0 = (i : Int)) → Ev (fun k => road_Parts.l1 k L A (A.length : Int) ((i : Int) + 1) W H A Y) r) :
    Floods W H A i L0 r (fun k L q => road_Parts.l2 k L (i : Int) q A (A.length : Int) (i : Int) W H A Y) (fun k L q t s => road_Parts.l3 k L (i : Int) q t A (A.length : Int) (i : Int) s W H A Y) where
  take := by
    intro L q hq hB
    obtain ⟨t, q', rfl⟩ := List.exists_cons_of_ne_nil hq
    refine ⟨t, q', rfl, fun y => List.mem_cons, fun hr => ?_⟩
    refine Ev.step (fun k => by simp only [road_Parts.l2]; rfl) (Ev.pos (by simp only [List.length_cons]; omega) (Ev.pos (by simp only [List.length_cons]; omega) (Ev.pos (by simp only [List.length_cons]; omega) ?_)))
    exact hr
  fin := by
    intro L h1 h2 h3
    refine Ev.step (fun k => by simp only [road_Parts.l2]; rfl) (Ev.neg (by simp) ?_)
    have ha := area g.hW g.hH
    have hA := g.hA
    rw [wrap_in (x := (i : Int) + 1) (by omega) (by omega)]
    exact K L h1 h2 h3
  turn := by
    intro L q t hr
    exact Ev.step (fun k => by simp only [road_Parts.l3]; rfl) (Ev.neg (by omega) hr)
  none := by
    intro L q t s ht hs hm hr
    refine Ev.step (fun k => by simp only [road_Parts.l3]; rfl) (Ev.pos (by omega) (Ev.bindc (joined_eq g (tile_in g ht) hs) (Ev.neg (show ¬ decide (0 ≤ meets W H A (t : Int) s) = true by rw [hm]; decide) ?_)))
    rw [wrap_in (x := s + 1) (by omega) (by omega)]
    exact hr
  done := by
    intro L q t s u ht hs hm hu hL hd hr
    have hma := meets_at g (tile_in g ht) s
    refine Ev.step (fun k => by simp only [road_Parts.l3]; rfl) (Ev.pos (by omega) (Ev.bindc (joined_eq g (tile_in g ht) hs) (Ev.pos (decide_eq_true (show 0 ≤ meets W H A (t : Int) s by omega)) (Ev.bindc (beyond_eq A Y (g.on (tile_in g ht))) ?_))))
    rw [show bey W H (t : Int) s = (u : Int) by omega, wrap_in (x := s + 1) (by omega) (by omega), rdN, hd]
    exact Ev.pos (by omega) (Ev.pos (by omega) (Ev.neg (by omega) hr))
  mark := by
    intro L q t s u ht hs hm hu hL hq hru hold hne hr
    have hma := meets_at g (tile_in g ht) s
    have hneg : L.getD u 0 = -1 := by rw [hold, h0 u hu, lab_low g hlow hru]
    refine Ev.step (fun k => by simp only [road_Parts.l3]; rfl) (Ev.pos (by omega) (Ev.bindc (joined_eq g (tile_in g ht) hs) (Ev.pos (decide_eq_true (show 0 ≤ meets W H A (t : Int) s by omega)) (Ev.bindc (beyond_eq A Y (g.on (tile_in g ht))) ?_))))
    rw [show bey W H (t : Int) s = (u : Int) by omega, wrap_in (x := s + 1) (by omega) (by omega), rdN, hneg, Int.toNat_natCast]
    exact Ev.pos (by omega) (Ev.pos (by omega) (Ev.pos (by omega) (Ev.pos (by omega) hr)))

theorem road_l1 (g : Good W H A Y) : ∀ (n i : Nat) (L : List Int), i + n = A.length → L.length = A.length → (∀ j, j < A.length → L.getD j 0 = lab W H A i j) → Ev (fun k => road_Parts.l1 k L A (A.length : Int) (i : Int) W H A Y) (parts W H A, 0)
  | 0, i, L, h, hl, hL => by
    obtain rfl : i = A.length := by omega
    refine Ev.step (fun k => by simp only [road_Parts.l1]; rfl) (Ev.neg (by omega) (Ev.const ?_))
    rw [list_ext (L := L) (R := parts W H A) (by rw [parts_len]; exact hl) (fun j hj => by rw [parts_at (by omega)]; exact hL j (by omega))]
  | n + 1, i, L, h, hl, hL => by
    have ha := area g.hW g.hH
    have hA := g.hA
    have hi : i < A.length := by omega
    have skip : rd A (i : Int) = 0 ∨ low W H A i < i → ∀ q, q = true → Ev (fun k => road_Parts.j2 k L (i : Int) A (A.length : Int) (i : Int) q W H A Y) (parts W H A, 0) := by
      intro hs q hq
      refine Ev.step (fun k => by simp only [road_Parts.j2]; rfl) (Ev.pos hq ?_)
      rw [wrap_in (x := (i : Int) + 1) (by omega) (by omega)]
      exact road_l1 g n (i + 1) L (by omega) hl (fun j hj => by rw [lab_skip g hs]; exact hL j hj)
    refine Ev.step (fun k => by simp only [road_Parts.l1]; rfl) (Ev.pos (by omega) (Ev.pos (by omega) (Ev.pos (by omega) ?_)))
    by_cases a0 : rd A (i : Int) = 0
    · exact Ev.pos a0 (skip (.inl a0) _ rfl)
    refine Ev.neg a0 (Ev.pos (by omega) ?_)
    rw [rdN, hL i hi]
    have hle := low_le W H A i
    by_cases hlow : low W H A i < i
    · exact skip (.inr hlow) _ (decide_eq_true (by unfold lab; rw [if_pos ⟨a0, hlow⟩]; omega))
    have hlow : low W H A i = i := by omega
    rw [lab_low g hlow .refl]
    refine Ev.step (fun k => by simp only [road_Parts.j2]; rfl) (Ev.neg (by decide) (Ev.pos (by omega) (Ev.pos (by omega) ?_)))
    rw [Int.toNat_natCast]
    have c1 := List.countP_le_length (p := fun x => x != (i : Int)) (l := L.set i (i : Int))
    rw [List.length_set] at c1
    have at_i : (L.set i (i : Int)).getD i 0 = (i : Int) := by rw [set_at, if_pos ⟨rfl, by omega⟩]
    refine flood2 g hi (road_floods g hi hlow hL (fun L' h1 h2 h3 => ?_)) (2 * A.length + 1) (L.set i (i : Int)) [(i : Int)] (by simp; omega) (by omega) ⟨by rw [List.length_set]; exact hl, fun j hj => ?_, fun y hy => ⟨i, List.mem_singleton.1 hy, .refl, at_i⟩, fun j hj hlj => ?_, at_i⟩
    · refine road_l1 g n (i + 1) L' (by omega) h1 (fun j hj => ?_)
      by_cases hr : Reach W H A i j
      · rw [h3 j hr, lab_next g a0 hlow hr]
      · rcases h2 j hj with h | h
        · rw [h, hL j hj, lab_else g hr]
        · exact absurd h.2 hr
    · rw [set_at]
      by_cases e : i = j
      · subst e
        rw [if_pos ⟨rfl, by omega⟩]; exact .inr ⟨rfl, .refl⟩
      · rw [if_neg (fun h => e h.1)]; exact .inl rfl
    · by_cases e : i = j
      · subst e; exact .inl (List.mem_singleton.2 rfl)
      · have hjl := hj.lt g hi
        rw [set_at, if_neg (fun h => e h.1), hL j hjl, lab_low g hlow hj] at hlj
        omega
theorem road_l0 (g : Good W H A Y) : ∀ (n i : Nat) (L : List Int), i + n = A.length → L.length = A.length → (∀ j, j < i → L.getD j 0 = -1) → Ev (fun k => road_Parts.l0 k L (A.length : Int) (i : Int) W H A Y) (parts W H A, 0)
  | 0, i, L, h, hl, hL => by
    obtain rfl : i = A.length := by omega
    refine Ev.step (fun k => by simp only [road_Parts.l0]; rfl) (Ev.neg (by omega) ?_)
    refine road_l1 g A.length 0 L (by omega) hl (fun j hj => ?_)
    unfold lab
    rw [hL j hj, if_neg (by omega)]
  | n + 1, i, L, h, hl, hL => by
    have ha := area g.hW g.hH
    have hA := g.hA
    refine Ev.step (fun k => by simp only [road_Parts.l0]; rfl) (Ev.pos (by omega) (Ev.pos (by omega) (Ev.pos (by omega) ?_)))
    rw [wrap_in (x := (i : Int) + 1) (by omega) (by omega), Int.toNat_natCast]
    refine road_l0 g n (i + 1) (L.set i (-1)) (by omega) (by rw [List.length_set]; exact hl) (fun j hj => ?_)
    rw [set_at]
    by_cases e : i = j
    · subst e; rw [if_pos ⟨rfl, by omega⟩]
    · rw [if_neg (fun h => e h.1)]; exact hL j (by omega)
theorem Parts_ev (hA : A.length ≤ 4000) (hY : Y.length ≤ 4000) : Ev (fun k => road_Parts.f k W H A Y) (if vcode W H A Y = 0 then (parts W H A, 0) else ([], vcode W H A Y)) := by
  unfold road_Parts.f
  refine Ev.bind (validate_ev hA hY) ?_
  by_cases h : vcode W H A Y = 0
  · refine Ev.eq (Ev.pos h (Ev.pos (by omega) (Ev.pos (by omega) (Ev.bindc rfl ?_)))) (if_pos h).symm
    rw [Int.toNat_natCast, List.length_replicate]
    exact road_l0 (good_of h) A.length 0 _ (by omega) (by simp) (fun j hj => by omega)
  · exact Ev.eq (Ev.neg h (Ev.now _)) (if_neg h).symm
end

end Go.Proofs.Ytbdekjjdojbokaa.Pure
