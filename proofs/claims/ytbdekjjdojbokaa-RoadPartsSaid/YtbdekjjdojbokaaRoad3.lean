/- What the functions of layer 4 (streets) come to, in plain words: which tiles hang together; a flood over joined tiles, whichever of the tiles that wait is taken next. No conditions. -/
import Derived.Test.YtbdekjjdojbokaaPx0
import Derived.Test.YtbdekjjdojbokaaRoad0
import Derived.Deep.LoopGhost
namespace Go.Proofs.Ytbdekjjdojbokaa.Pure
set_option linter.unusedVariables false
set_option linter.unusedSimpArgs false
open Go.RowKit Go.Proofs.YtbdekjjdojbokaaW.PrintWords Go.Proofs.Ytbdekjjdojbokaa.P Go.Proofs.Ytbdekjjdojbokaa

section
variable {W H : Int} {A Y : List Int}
/-- Two tiles are joined. -/
def Link (W H : Int) (A : List Int) (t u : Nat) : Prop := t < A.length ∧ ∃ s : Int, (0 ≤ s ∧ s ≤ 3) ∧ meets W H A (t : Int) s = (u : Int)
inductive Reach (W H : Int) (A : List Int) (i : Nat) : Nat → Prop
  | refl : Reach W H A i i
  | step {u v : Nat} : Reach W H A i u → Link W H A u v → Reach W H A i v
theorem tile_in (g : Good W H A Y) {j : Nat} (h : j < A.length) : 0 ≤ (j : Int) ∧ (j : Int) < W * H := by have := g.hA; omega
theorem Link.back (g : Good W H A Y) {t u : Nat} (h : Link W H A t u) : Link W H A u t := by
  obtain ⟨ht, s, hs, hm⟩ := h
  have hm0 : 0 ≤ meets W H A (t : Int) s := by omega
  have h1 := meets_at g (tile_in g ht) s
  have h2 := meets_back g (tile_in g ht) hs hm0
  rw [hm] at h2
  exact ⟨by have := g.hA; omega, opp s, (opp_at hs).1, h2⟩
theorem Link.lt (g : Good W H A Y) {t u : Nat} (h : Link W H A t u) : u < A.length := (h.back g).1
theorem Link.arm {t u : Nat} (h : Link W H A t u) : rd A (t : Int) ≠ 0 := by
  obtain ⟨ht, s, hs, hm⟩ := h
  exact meets_arm (W := W) (H := H) hs (by omega)
theorem Reach.trans {i j k : Nat} (h : Reach W H A i j) (h' : Reach W H A j k) : Reach W H A i k := by
  induction h' with
  | refl => exact h
  | step _ l ih => exact ih.step l
theorem Reach.symm (g : Good W H A Y) {i j : Nat} (h : Reach W H A i j) : Reach W H A j i := by
  induction h with
  | refl => exact .refl
  | step _ l ih => exact (Reach.step .refl (l.back g)).trans ih
theorem Reach.lt (g : Good W H A Y) {i j : Nat} (h : Reach W H A i j) (hi : i < A.length) : j < A.length := by
  cases h with
  | refl => exact hi
  | step _ l => exact l.lt g
theorem Reach.arm (g : Good W H A Y) {i j : Nat} (h : Reach W H A i j) (hij : i ≠ j) : rd A (j : Int) ≠ 0 := by
  cases h with
  | refl => exact absurd rfl hij
  | step _ l => exact (l.back g).arm
theorem least_ex (W H : Int) (A : List Int) (j : Nat) : ∃ n, Reach W H A j n ∧ ∀ m, Reach W H A j m → n ≤ m := exists_least ⟨j, .refl⟩
/-- The least tile that a tile hangs together with. -/
noncomputable def low (W H : Int) (A : List Int) (j : Nat) : Nat := Classical.choose (least_ex W H A j)
theorem low_reach (W H : Int) (A : List Int) (j : Nat) : Reach W H A j (low W H A j) := (Classical.choose_spec (least_ex W H A j)).1
theorem low_least {j k : Nat} (h : Reach W H A j k) : low W H A j ≤ k := (Classical.choose_spec (least_ex W H A j)).2 k h
theorem low_le (W H : Int) (A : List Int) (j : Nat) : low W H A j ≤ j := low_least .refl
theorem low_eq (g : Good W H A Y) {i j : Nat} (h : Reach W H A i j) : low W H A i = low W H A j :=
  Nat.le_antisymm (low_least (h.trans (low_reach W H A j))) (low_least ((h.symm g).trans (low_reach W H A i)))
theorem reach_low (g : Good W H A Y) {i j : Nat} (h : low W H A j = i) : Reach W H A i j := by
  subst h
  exact (low_reach W H A j).symm g

theorem count_set (i : Int) : ∀ (L : List Int) (u : Nat), u < L.length → L.getD u 0 ≠ i → (L.set u i).countP (fun x => x != i) + 1 = L.countP (fun x => x != i)
  | [], u, h, _ => absurd h (by simp)
  | x :: L, 0, _, h => by
    have hx : x ≠ i := by simpa using h
    simp [List.countP_cons, hx]
  | x :: L, u + 1, hu, h => by
    have ih := count_set i L u (by simpa using hu) (by simpa using h)
    simp only [List.set_cons_succ, List.countP_cons]
    omega
theorem set_at (l : List Int) (i j : Nat) (v : Int) : (l.set i v).getD j 0 = if i = j ∧ j < l.length then v else l.getD j 0 := by
  rw [List.getD_eq_getElem?_getD, List.getElem?_set, List.getD_eq_getElem?_getD]
  by_cases h : i = j
  · rw [if_pos h]
    by_cases h2 : i < l.length
    · rw [if_pos h2, if_pos ⟨h, by omega⟩]; rfl
    · rw [if_neg h2, if_neg (by omega), List.getElem?_eq_none (by omega)]
  · rw [if_neg h, if_neg (fun hh => h hh.1)]

/-- The labels while tile i's part is flooded: L0 were the labels before; q are the tiles that wait; x is the tile that is at work (none: A.length). -/
structure Inv (W H : Int) (A : List Int) (i : Nat) (L0 L q : List Int) (x : Nat) : Prop where
  len : L.length = A.length
  old : ∀ j, j < A.length → L.getD j 0 = L0.getD j 0 ∨ (L.getD j 0 = (i : Int) ∧ Reach W H A i j)
  inq : ∀ y ∈ q, ∃ j : Nat, y = (j : Int) ∧ Reach W H A i j ∧ L.getD j 0 = (i : Int)
  cls : ∀ j, Reach W H A i j → L.getD j 0 = (i : Int) → (j : Int) ∈ q ∨ j = x ∨ ∀ u, Link W H A j u → L.getD u 0 = (i : Int)
  src : L.getD i 0 = (i : Int)
theorem Inv.full {i : Nat} {L0 L : List Int} (g : Good W H A Y) (h : Inv W H A i L0 L [] A.length) : ∀ {j}, Reach W H A i j → i < A.length → L.getD j 0 = (i : Int) := by
  intro j hj hi
  induction hj with
  | refl => exact h.src
  | step r l ih =>
    rcases h.cls _ r ih with h1 | h1 | h1
    · exact absurd h1 (by simp)
    · have := r.lt g hi; omega
    · exact h1 _ l

variable {α : Type} {i : Nat} {L0 : List Int} {r : α} {F2 : Nat → List Int → List Int → Option α} {F3 : Nat → List Int → List Int → Int → Int → Option α}
/-- What a flood's texts must do: one step at a time. -/
structure Floods (W H : Int) (A : List Int) (i : Nat) (L0 : List Int) (r : α) (F2 : Nat → List Int → List Int → Option α) (F3 : Nat → List Int → List Int → Int → Int → Option α) : Prop where
  take : ∀ L q, q ≠ [] → q.length ≤ 9000 → ∃ (t : Int) (q' : List Int), q'.length + 1 = q.length ∧ (∀ y, y ∈ q ↔ y = t ∨ y ∈ q') ∧ (Ev (fun k => F3 k L q' t 0) r → Ev (fun k => F2 k L q) r)
  fin : ∀ L, L.length = A.length → (∀ j, j < A.length → L.getD j 0 = L0.getD j 0 ∨ (L.getD j 0 = (i : Int) ∧ Reach W H A i j)) → (∀ j, Reach W H A i j → L.getD j 0 = (i : Int)) → Ev (fun k => F2 k L []) r
  turn : ∀ L q t, Ev (fun k => F2 k L q) r → Ev (fun k => F3 k L q t 4) r
  none : ∀ L q (t : Nat) (s : Int), t < A.length → (0 ≤ s ∧ s ≤ 3) → meets W H A (t : Int) s = -1 → Ev (fun k => F3 k L q (t : Int) (s + 1)) r → Ev (fun k => F3 k L q (t : Int) s) r
  done : ∀ L q (t : Nat) (s : Int) (u : Nat), t < A.length → (0 ≤ s ∧ s ≤ 3) → meets W H A (t : Int) s = (u : Int) → u < A.length → L.length = A.length → L.getD u 0 = (i : Int) → Ev (fun k => F3 k L q (t : Int) (s + 1)) r → Ev (fun k => F3 k L q (t : Int) s) r
  mark : ∀ L q (t : Nat) (s : Int) (u : Nat), t < A.length → (0 ≤ s ∧ s ≤ 3) → meets W H A (t : Int) s = (u : Int) → u < A.length → L.length = A.length → q.length ≤ 9000 → Reach W H A i u → L.getD u 0 = L0.getD u 0 → L.getD u 0 ≠ (i : Int) → Ev (fun k => F3 k (L.set u (i : Int)) (q ++ [(u : Int)]) (t : Int) (s + 1)) r → Ev (fun k => F3 k L q (t : Int) s) r
theorem flood3 (g : Good W H A Y) (hi : i < A.length) (F : Floods W H A i L0 r F2 F3) (t : Nat) (ht : Reach W H A i t) :
    ∀ (n : Nat) (s : Int) (L q : List Int), s + n = 4 → 0 ≤ s → 2 * L.countP (fun x => x != (i : Int)) + q.length ≤ 9000 → L.getD t 0 = (i : Int) → Inv W H A i L0 L q t → (∀ s' : Int, (0 ≤ s' ∧ s' < s) → ∀ u : Nat, meets W H A (t : Int) s' = (u : Int) → L.getD u 0 = (i : Int)) →
    (∀ L' q', 2 * L'.countP (fun x => x != (i : Int)) + q'.length ≤ 2 * L.countP (fun x => x != (i : Int)) + q.length → Inv W H A i L0 L' q' A.length → Ev (fun k => F2 k L' q') r) → Ev (fun k => F3 k L q (t : Int) s) r
  | 0, s, L, q, hs, h0, hB, hL, I, ts, K => by
    obtain rfl : s = 4 := by omega
    refine F.turn L q t (K L q (Nat.le_refl _) ⟨I.len, I.old, I.inq, fun j hj hl => ?_, I.src⟩)
    rcases I.cls j hj hl with h | h | h
    · exact .inl h
    · refine .inr (.inr fun u hu => ?_)
      subst h
      obtain ⟨_, s', hs', hm⟩ := hu
      exact ts s' ⟨hs'.1, by omega⟩ u hm
    · exact .inr (.inr h)
  | n + 1, s, L, q, hs, h0, hB, hL, I, ts, K => by
    have htl := ht.lt g hi
    have hm := meets_at g (tile_in g htl) s
    have hA := g.hA
    by_cases hneg : meets W H A (t : Int) s = -1
    · refine F.none L q t s htl ⟨h0, by omega⟩ hneg (flood3 g hi F t ht n (s + 1) L q (by omega) (by omega) hB hL I (fun s' hs' u hu => ?_) K)
      by_cases e : s' = s
      · subst e; omega
      · exact ts s' ⟨hs'.1, by omega⟩ u hu
    obtain ⟨u, hu⟩ : ∃ u : Nat, meets W H A (t : Int) s = (u : Int) := ⟨(meets W H A (t : Int) s).toNat, by omega⟩
    have hul : u < A.length := by omega
    have hlink : Link W H A t u := ⟨htl, s, ⟨h0, by omega⟩, hu⟩
    have hru : Reach W H A i u := ht.step hlink
    by_cases hd : L.getD u 0 = (i : Int)
    · refine F.done L q t s u htl ⟨h0, by omega⟩ hu hul I.len hd (flood3 g hi F t ht n (s + 1) L q (by omega) (by omega) hB hL I (fun s' hs' v hv => ?_) K)
      by_cases e : s' = s
      · subst e
        have : u = v := by omega
        rw [← this]; exact hd
      · exact ts s' ⟨hs'.1, by omega⟩ v hv
    have hold : L.getD u 0 = L0.getD u 0 := (I.old u hul).resolve_right (fun h => hd h.1)
    have hc := count_set (i : Int) L u (by rw [I.len]; exact hul) hd
    have keep : ∀ v, L.getD v 0 = (i : Int) → (L.set u (i : Int)).getD v 0 = (i : Int) := by
      intro v hv
      rw [set_at]
      split
      · rfl
      · exact hv
    have at_u : (L.set u (i : Int)).getD u 0 = (i : Int) := by rw [set_at, if_pos ⟨rfl, by rw [I.len]; exact hul⟩]
    refine F.mark L q t s u htl ⟨h0, by omega⟩ hu hul I.len (by omega) hru hold hd (flood3 g hi F t ht n (s + 1) (L.set u (i : Int)) (q ++ [(u : Int)]) (by omega) (by omega) (by simp; omega) (keep t hL) ⟨by rw [List.length_set]; exact I.len, ?_, ?_, ?_, keep i I.src⟩ (fun s' hs' v hv => ?_) (fun L' q' hm' I' => K L' q' (by simp at hm'; omega) I'))
    · intro j hj
      rw [set_at]
      by_cases e : u = j
      · rw [if_pos ⟨e, by rw [I.len]; exact hj⟩]
        subst e
        exact .inr ⟨rfl, hru⟩
      · rw [if_neg (fun h => e h.1)]
        exact I.old j hj
    · intro y hy
      rcases List.mem_append.1 hy with h | h
      · obtain ⟨j, e, hj, hl⟩ := I.inq y h
        exact ⟨j, e, hj, keep j hl⟩
      · exact ⟨u, List.mem_singleton.1 h, hru, at_u⟩
    · intro j hj hl
      by_cases e : u = j
      · subst e
        exact .inl (List.mem_append.2 (.inr (List.mem_singleton.2 rfl)))
      · rw [set_at, if_neg (fun h => e h.1)] at hl
        rcases I.cls j hj hl with h | h | h
        · exact .inl (List.mem_append.2 (.inl h))
        · exact .inr (.inl h)
        · exact .inr (.inr fun v hv => keep v (h v hv))
    · by_cases e : s' = s
      · subst e
        have : u = v := by omega
        rw [← this]; exact at_u
      · exact keep v (ts s' ⟨hs'.1, by omega⟩ v hv)
theorem flood2 (g : Good W H A Y) (hi : i < A.length) (F : Floods W H A i L0 r F2 F3) :
    ∀ (m : Nat) (L q : List Int), 2 * L.countP (fun x => x != (i : Int)) + q.length ≤ m → m ≤ 9000 → Inv W H A i L0 L q A.length → Ev (fun k => F2 k L q) r := by
  intro m
  induction m with
  | zero =>
    intro L q hm _ I
    obtain rfl : q = [] := List.length_eq_zero_iff.1 (by omega)
    exact F.fin L I.len I.old (fun j hj => I.full g hj hi)
  | succ m ih =>
    intro L q hm hB I
    by_cases hq : q = []
    · subst hq
      exact F.fin L I.len I.old (fun j hj => I.full g hj hi)
    obtain ⟨t, q', hl, hmem, hF⟩ := F.take L q hq (by omega)
    obtain ⟨t', rfl, hrt, hlt⟩ := I.inq t ((hmem t).2 (.inl rfl))
    refine hF ?_
    refine flood3 g hi F t' hrt 4 0 L q' (by omega) (by omega) (by omega) hlt ⟨I.len, I.old, fun y hy => I.inq y ((hmem y).2 (.inr hy)), fun j hj hl' => ?_, I.src⟩ (fun s' hs' => by omega) (fun L' q'' hm' I' => ih L' q'' (by omega) (by omega) I')
    rcases I.cls j hj hl' with h | h | h
    · rcases (hmem _).1 h with h | h
      · exact .inr (.inl (by omega))
      · exact .inl h
    · exact absurd (hj.lt g hi) (by omega)
    · exact .inr (.inr h)
end

end Go.Proofs.Ytbdekjjdojbokaa.Pure
