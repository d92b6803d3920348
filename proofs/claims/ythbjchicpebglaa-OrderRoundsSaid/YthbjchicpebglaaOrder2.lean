/- Layer 15: when a vehicle is due, and how late it is: the program's timetable and the reference's come to the same. No conditions. -/
import Derived.Test.YthbjchicpebglaaPSOrderTimes
import Derived.Test.YthbjchicpebglaaPSOrderLates
import Derived.Test.YthbjchicpebglaaOrder0
namespace Go.Proofs.Ythbjchicpebglaa.Pure
set_option linter.unusedVariables false
set_option linter.unusedSimpArgs false
open Go.RowKit Go.Proofs.YthbjchicpebglaaW.PrintWords Go.Proofs.Ythbjchicpebglaa.P Go.Proofs.Ythbjchicpebglaa

/-- The times of orders, counted from the list's begin, and the round behind them; none: not all are told. -/
def tt : List S33 → Int → Option (List Int × Int)
  | [], r => some ([], r)
  | x :: xs, r => if x.f0 = 2 then (tt xs r).map (fun p => (r :: p.1, p.2)) else if x.f7 = 0 ∨ x.f8 = 0 then none else (tt xs (r + x.f8 + x.f7)).map (fun p => ((r + x.f8) :: p.1, p.2))
/-- The answer, with what was there before. -/
def fin (s : Int) (acc : List Int) : Option (List Int × Int) → List Int × Int × Bool
  | none => ([], 0, false)
  | some (ts, R) => if R = 0 then ([], 0, false) else (acc ++ ts.map (s + ·), R, true)
theorem fin_map (s : Int) (acc : List Int) (t : Int) (o : Option (List Int × Int)) : fin s acc (o.map (fun p => (t :: p.1, p.2))) = fin s (acc ++ [s + t]) o := by
  cases o with
  | none => rfl
  | some p => obtain ⟨ts, R⟩ := p; simp [fin]

theorem tt_told : ∀ (xs : List S33) (r : Int) (ts : List Int) (R : Int), (∀ x ∈ xs, OkO x) → tt xs r = some (ts, R) → ts.length = xs.length ∧ r ≤ R ∧ R ≤ r + 2000000 * (xs.length : Int) ∧ ∀ t ∈ ts, r ≤ t ∧ t ≤ R
  | [], r, ts, R, _, h => by
    simp only [tt, Option.some.injEq, Prod.mk.injEq] at h
    obtain ⟨rfl, rfl⟩ := h
    simp
  | x :: xs, r, ts, R, hk, h => by
    have hx := hk x (by simp)
    have hxs : ∀ y ∈ xs, OkO y := fun y hy => hk y (by simp [hy])
    obtain ⟨_, _, _, _, _, _, h7, h8, _⟩ := hx
    unfold tt at h
    split at h
    · obtain ⟨⟨ts', R'⟩, h1, h2⟩ := Option.map_eq_some_iff.1 h
      simp only [Prod.mk.injEq] at h2
      obtain ⟨rfl, rfl⟩ := h2
      obtain ⟨e1, e2, e3, e4⟩ := tt_told xs r ts' R' hxs h1
      refine ⟨by simp [e1], e2, by simp only [List.length_cons]; omega, fun t ht => ?_⟩
      rcases List.mem_cons.1 ht with rfl | ht
      · omega
      · exact e4 t ht
    · split at h
      · simp at h
      · obtain ⟨⟨ts', R'⟩, h1, h2⟩ := Option.map_eq_some_iff.1 h
        simp only [Prod.mk.injEq] at h2
        obtain ⟨rfl, rfl⟩ := h2
        obtain ⟨e1, e2, e3, e4⟩ := tt_told xs _ ts' R' hxs h1
        refine ⟨by simp [e1], by omega, by simp only [List.length_cons]; omega, fun t ht => ?_⟩
        rcases List.mem_cons.1 ht with rfl | ht
        · omega
        · have := e4 t ht; omega

theorem drop_at (l : List S33) (i : Nat) (h : i < l.length) : l.drop i = l.getD i z33 :: l.drop (i + 1) := by
  rw [List.drop_eq_getElem_cons h]
  simp [List.getElem?_eq_getElem h]

theorem ref_times_ev {l : List S33} (h40 : l.length ≤ 40) (hk : AllOk l) {s : Int} (hs0 : 0 ≤ s) (hs1 : s ≤ 1600000) : ∀ d i (acc : List Int) (r : Int) (fl : Bool), i + d = l.length → acc.length = i → 0 ≤ r → r ≤ 2000000 * (i : Int) → (fl = true ↔ r ≠ 0) →
    Ev (fun k => hinterlandref15_times.l0 k l s acc r fl (i : Int)) (fin s acc (tt (l.drop i) r))
  | 0, i, acc, r, fl, h, ha, h0, h1, hf => by
    obtain rfl : i = l.length := by omega
    refine Ev.step (fun k => by simp only [hinterlandref15_times.l0]; rfl) ?_
    refine Ev.neg (by omega) ?_
    rw [List.drop_length]
    simp only [tt, fin]
    by_cases hr : r = 0
    · rw [if_pos hr]
      exact Ev.neg (fun h => hf.1 h hr) (Ev.now _)
    · rw [if_neg hr]
      refine Ev.pos (hf.2 hr) ?_
      simp only [List.map_nil, List.append_nil]
      exact Ev.now _
  | d + 1, i, acc, r, fl, h, ha, h0, h1, hf => by
    have hi : i < l.length := by omega
    obtain ⟨_, _, _, _, _, _, h7, h8, _⟩ := hk i (by omega) hi
    refine Ev.step (fun k => by simp only [hinterlandref15_times.l0]; rfl) ?_
    refine Ev.pos (by omega) (Ev.pos (by omega) ?_)
    rw [rdN, drop_at l i hi]
    unfold tt
    rw [wrap_in (x := s + r) (by omega) (by omega), wrap_in (x := (i : Int) + 1) (by omega) (by omega)]
    by_cases hj : (l.getD i z33).f0 = 2
    · refine Ev.pos hj (Ev.pos (by omega) ?_)
      rw [if_pos hj, fin_map]
      exact ref_times_ev h40 hk hs0 hs1 d (i + 1) (acc ++ [s + r]) r fl (by omega) (by simp [ha]) h0 (by omega) hf
    · rw [if_neg hj]
      refine Ev.neg hj ?_
      by_cases h7' : (l.getD i z33).f7 = 0
      · refine Ev.pos h7' ?_
        rw [if_pos (.inl h7')]
        exact Ev.now _
      · refine Ev.neg h7' ?_
        by_cases h8' : (l.getD i z33).f8 = 0
        · refine Ev.pos h8' ?_
          rw [if_pos (.inr h8')]
          exact Ev.now _
        · refine Ev.neg h8' (Ev.pos (by omega) ?_)
          rw [if_neg (by rintro (h | h) <;> contradiction), fin_map]
          rw [wrap_in (x := s + r + (l.getD i z33).f8) (by omega) (by omega), wrap_in (x := (l.getD i z33).f8 + (l.getD i z33).f7) (by omega) (by omega), wrap_in (x := r + ((l.getD i z33).f8 + (l.getD i z33).f7)) (by omega) (by omega)]
          have hne : r + (l.getD i z33).f8 + (l.getD i z33).f7 ≠ 0 := by omega
          have ih := ref_times_ev h40 hk hs0 hs1 d (i + 1) (acc ++ [s + (r + (l.getD i z33).f8)]) (r + (l.getD i z33).f8 + (l.getD i z33).f7) true (by omega) (by simp [ha]) (by omega) (by omega) ⟨fun _ => hne, fun _ => rfl⟩
          rw [show s + r + (l.getD i z33).f8 = s + (r + (l.getD i z33).f8) by omega, show r + ((l.getD i z33).f8 + (l.getD i z33).f7) = r + (l.getD i z33).f8 + (l.getD i z33).f7 by omega]
          exact ih

theorem order_times_ev {l : List S33} (h40 : l.length ≤ 40) (hk : AllOk l) {s : Int} (hs0 : 0 ≤ s) (hs1 : s ≤ 1600000) : ∀ d i (acc : List Int) (r : Int), i + d = l.length → acc.length = i → 0 ≤ r → r ≤ 2000000 * (i : Int) →
    Ev (fun k => order_timetable.l0 k s acc (s + r) l (l.length : Int) (i : Int)) (fin s acc (tt (l.drop i) r))
  | 0, i, acc, r, h, ha, h0, h1 => by
    obtain rfl : i = l.length := by omega
    refine Ev.step (fun k => by simp only [order_timetable.l0]; rfl) ?_
    refine Ev.neg (by omega) ?_
    rw [List.drop_length]
    simp only [tt, fin]
    by_cases hr : r = 0
    · rw [if_pos hr]
      exact Ev.pos (by omega) (Ev.now _)
    · rw [if_neg hr]
      refine Ev.neg (by omega) ?_
      rw [wrap_in (by omega) (by omega), show s + r - s = r by omega]
      simp only [List.map_nil, List.append_nil]
      exact Ev.now _
  | d + 1, i, acc, r, h, ha, h0, h1 => by
    have hi : i < l.length := by omega
    obtain ⟨_, _, _, _, _, _, h7, h8, _⟩ := hk i (by omega) hi
    refine Ev.step (fun k => by simp only [order_timetable.l0]; rfl) ?_
    refine Ev.pos (by omega) (Ev.pos (by omega) (Ev.pos (by omega) ?_))
    rw [rdN, drop_at l i hi]
    unfold tt
    rw [wrap_in (x := (i : Int) + 1) (by omega) (by omega)]
    by_cases hj : (l.getD i z33).f0 = 2
    · refine Ev.pos hj (Ev.pos (by omega) ?_)
      rw [if_pos hj, fin_map]
      exact order_times_ev h40 hk hs0 hs1 d (i + 1) (acc ++ [s + r]) r (by omega) (by simp [ha]) h0 (by omega)
    · rw [if_neg hj]
      refine Ev.neg hj ?_
      by_cases h7' : (l.getD i z33).f7 = 0
      · refine Ev.pos h7' ?_
        rw [if_pos (.inl h7')]
        exact Ev.now _
      · refine Ev.neg h7' ?_
        by_cases h8' : (l.getD i z33).f8 = 0
        · refine Ev.pos h8' ?_
          rw [if_pos (.inr h8')]
          exact Ev.now _
        · refine Ev.neg h8' (Ev.pos (by omega) ?_)
          rw [if_neg (by rintro (h | h) <;> contradiction), fin_map]
          rw [wrap_in (x := s + r + (l.getD i z33).f8) (by omega) (by omega), wrap_in (x := (l.getD i z33).f8 + (l.getD i z33).f7) (by omega) (by omega), wrap_in (x := s + r + _) (by omega) (by omega)]
          have ih := order_times_ev h40 hk hs0 hs1 d (i + 1) (acc ++ [s + (r + (l.getD i z33).f8)]) (r + (l.getD i z33).f8 + (l.getD i z33).f7) (by omega) (by simp [ha]) (by omega) (by omega)
          rw [show s + r + (l.getD i z33).f8 = s + (r + (l.getD i z33).f8) by omega, show s + r + ((l.getD i z33).f8 + (l.getD i z33).f7) = s + (r + (l.getD i z33).f8 + (l.getD i z33).f7) by omega]
          exact ih

/-- The times of a right list. -/
def timesOf (l : List S33) (s : Int) : List Int × Int × Bool := fin s [] (tt l 0)
theorem ref_times_at {l : List S33} (h40 : l.length ≤ 40) (hk : AllOk l) {s : Int} (hs0 : 0 ≤ s) (hs1 : s ≤ 1600000) : Ev (fun k => hinterlandref15_times.f k l s) (timesOf l s) := by
  unfold hinterlandref15_times.f timesOf
  exact ref_times_ev h40 hk hs0 hs1 l.length 0 [] 0 false (by omega) rfl (by omega) (by omega) (by simp)
theorem order_times_at {l : List S33} (h40 : l.length ≤ 40) (hk : AllOk l) {s : Int} (hs0 : 0 ≤ s) (hs1 : s ≤ 1600000) : Ev (fun k => order_timetable.f k l s) (timesOf l s) := by
  unfold order_timetable.f timesOf
  have h := order_times_ev h40 hk hs0 hs1 l.length 0 [] 0 (by omega) rfl (by omega) (by omega)
  rw [Int.add_zero] at h
  exact h
open Classical in
noncomputable def timesAns (l : List S33) (s : Int) : List Int × Int × Bool × Int :=
  if vcode l = 0 then (if 0 ≤ s ∧ s ≤ 1600000 then ((timesOf l s).1, (timesOf l s).2.1, (timesOf l s).2.2, 0) else ([], 0, false, 1)) else ([], 0, false, vcode l)
theorem ref_Times_ev (l : List S33) (s : Int) : Ev (fun k => hinterlandref15_Times.f k l s) (timesAns l s) := by
  unfold hinterlandref15_Times.f timesAns
  refine Ev.bind (ref_validate_ev l) ?_
  by_cases h : vcode l = 0
  · obtain ⟨h40, hk, ho⟩ := vcode_zero.1 h
    refine Ev.pos h (Ev.bindc (out_eq _ _) ?_)
    by_cases hs : 0 ≤ s ∧ s ≤ 1600000
    · simp only [h, hs, and_self, if_true]
      exact Ev.neg (by simp) (Ev.bind (ref_times_at h40 hk hs.1 hs.2) (Ev.now _))
    · simp only [h, hs, if_true, if_false]
      exact Ev.pos (by simp) (Ev.now _)
  · refine Ev.neg h ?_
    simp only [h, if_false]
    exact Ev.now _
theorem order_Times_ev (l : List S33) (s : Int) : Ev (fun k => order_Times.f k l s) (timesAns l s) := by
  unfold order_Times.f timesAns
  refine Ev.bind (order_validate_ev l) ?_
  by_cases h : vcode l = 0
  · obtain ⟨h40, hk, ho⟩ := vcode_zero.1 h
    refine Ev.pos h (Ev.bindc (within_eq _ _) ?_)
    by_cases hs : 0 ≤ s ∧ s ≤ 1600000
    · simp only [h, hs, and_self, if_true]
      exact Ev.pos (by simp) (Ev.bind (order_times_at h40 hk hs.1 hs.2) (Ev.now _))
    · simp only [h, hs, if_true, if_false]
      exact Ev.neg (by simp) (Ev.now _)
  · refine Ev.neg h ?_
    simp only [h, if_false]
    exact Ev.now _

theorem same_ints_ev (l : List Int) (hl : l.length ≤ 9223372036854775807) : Ev (fun k => hinterlandsame_List_int.f k l l) true := by
  unfold hinterlandsame_List_int.f
  refine Ev.pos (by trivial) ?_
  refine Ev.scan_all (g := fun k i => hinterlandsame_List_int.l0 k l l i) (n := l.length) (p := fun _ => True) ?_ ?_ l.length 0 (by omega) (fun _ _ _ => trivial)
  · refine Ev.step (fun k => by simp only [hinterlandsame_List_int.l0]; rfl) ?_
    exact Ev.neg (by omega) (Ev.now _)
  · intro i hi _ r hr
    refine Ev.step (fun k => by simp only [hinterlandsame_List_int.l0]; rfl) ?_
    refine Ev.pos (by omega) (Ev.pos (by omega) (Ev.pos (by omega) (Ev.pos (by trivial) ?_)))
    rw [wrap_in (by omega) (by omega)]
    exact hr

/-! how late -/
theorem tt_all {l : List S33} (hk : AllOk l) {ts : List Int} {R : Int} (h : tt l 0 = some (ts, R)) : ts.length = l.length ∧ 0 ≤ R ∧ R ≤ 2000000 * (l.length : Int) ∧ ∀ t ∈ ts, 0 ≤ t ∧ t ≤ R := by
  have := tt_told l 0 ts R (fun x hx => by
    obtain ⟨i, hi, e⟩ := List.mem_iff_getElem.1 hx
    have := hk i (by omega) hi
    simpa [List.getElem?_eq_getElem hi, e] using this) h
  simpa using this
/-- By how much, in the round. -/
def lateBy (d R : Int) : Int := if d ≥ R then d % R else d
open Classical in
noncomputable def lateAns (l : List S33) (b a n : Int) : Int × Bool × Int :=
  if vcode l = 0 then (if 0 ≤ a ∧ a < (l.length : Int) then (if (0 ≤ b ∧ b ≤ 1600000) ∧ (0 ≤ n ∧ n ≤ 1600000) then
    (match tt l 0 with
    | none => (0, false, 0)
    | some (ts, R) => if R = 0 then (0, false, 0) else (lateBy (n - (b + ts.getD a.toNat 0)) R, true, 0)) else (0, false, 1)) else (0, false, 2)) else (0, false, vcode l)
theorem rd_map {ts : List Int} {s : Int} {a : Int} (h0 : 0 ≤ a) (h1 : a < (ts.length : Int)) : rd ([] ++ ts.map (s + ·)) a = s + ts.getD a.toNat 0 := by
  unfold rd
  have : a.toNat < ts.length := by omega
  simp [List.getElem?_eq_getElem this, List.getElem?_map]
theorem tm_late {d R : Int} (hR : 0 < R) (hd : 0 ≤ d) : Int.tmod d R = d % R := Int.tmod_eq_emod_of_nonneg hd
theorem mem_getD {ts : List Int} {i : Nat} (h : i < ts.length) : ts.getD i 0 ∈ ts := by
  simp [List.getElem?_eq_getElem h]
theorem lateAns_bad {l : List S33} (h : vcode l ≠ 0) (b a n : Int) : lateAns l b a n = (0, false, vcode l) := by
  unfold lateAns; rw [if_neg h]
theorem lateAns_none {l : List S33} (h : vcode l = 0) {a : Int} (ha : ¬ (0 ≤ a ∧ a < (l.length : Int))) (b n : Int) : lateAns l b a n = (0, false, 2) := by
  unfold lateAns; rw [if_pos h, if_neg ha]
theorem lateAns_arg {l : List S33} (h : vcode l = 0) {a : Int} (ha : 0 ≤ a ∧ a < (l.length : Int)) {b n : Int} (hb : ¬ ((0 ≤ b ∧ b ≤ 1600000) ∧ (0 ≤ n ∧ n ≤ 1600000))) : lateAns l b a n = (0, false, 1) := by
  unfold lateAns; rw [if_pos h, if_pos ha, if_neg hb]
theorem lateAns_untold {l : List S33} (h : vcode l = 0) {a : Int} (ha : 0 ≤ a ∧ a < (l.length : Int)) {b n : Int} (hb : (0 ≤ b ∧ b ≤ 1600000) ∧ (0 ≤ n ∧ n ≤ 1600000)) (ht : tt l 0 = none ∨ ∃ ts, tt l 0 = some (ts, 0)) : lateAns l b a n = (0, false, 0) := by
  unfold lateAns; rw [if_pos h, if_pos ha, if_pos hb]
  rcases ht with ht | ⟨ts, ht⟩
  · rw [ht]
  · rw [ht]; simp
theorem lateAns_told {l : List S33} (h : vcode l = 0) {a : Int} (ha : 0 ≤ a ∧ a < (l.length : Int)) {b n : Int} (hb : (0 ≤ b ∧ b ≤ 1600000) ∧ (0 ≤ n ∧ n ≤ 1600000)) {ts : List Int} {R : Int} (ht : tt l 0 = some (ts, R)) (hR : R ≠ 0) : lateAns l b a n = (lateBy (n - (b + ts.getD a.toNat 0)) R, true, 0) := by
  unfold lateAns; rw [if_pos h, if_pos ha, if_pos hb, ht]
  simp [hR]
theorem timesOf_untold {l : List S33} (s : Int) (ht : tt l 0 = none ∨ ∃ ts, tt l 0 = some (ts, 0)) : timesOf l s = ([], 0, false) := by
  unfold timesOf
  rcases ht with ht | ⟨ts, ht⟩ <;> rw [ht] <;> simp [fin]
theorem timesOf_told {l : List S33} (s : Int) {ts : List Int} {R : Int} (ht : tt l 0 = some (ts, R)) (hR : R ≠ 0) : timesOf l s = ([] ++ ts.map (s + ·), R, true) := by
  unfold timesOf
  rw [ht]
  simp only [fin]
  rw [if_neg hR]
theorem told_or (l : List S33) : (tt l 0 = none ∨ ∃ ts, tt l 0 = some (ts, 0)) ∨ ∃ ts R, tt l 0 = some (ts, R) ∧ R ≠ 0 := by
  cases ht : tt l 0 with
  | none => exact .inl (.inl rfl)
  | some p =>
    obtain ⟨ts, R⟩ := p
    by_cases hR : R = 0
    · subst hR; exact .inl (.inr ⟨ts, rfl⟩)
    · exact .inr ⟨ts, R, rfl, hR⟩
theorem order_late_ev (l : List S33) (b a n : Int) : Ev (fun k => order_Late.f k l b a n) (lateAns l b a n) := by
  unfold order_Late.f
  refine Ev.bind (order_validate_ev l) ?_
  by_cases h : vcode l = 0
  · obtain ⟨h40, hk, ho⟩ := vcode_zero.1 h
    refine Ev.pos h (Ev.bindc (within_eq _ _) ?_)
    by_cases h0 : l.length = 0
    · rw [lateAns_none h (by omega)]
      refine Ev.neg (fun h => ?_) (Ev.now _)
      have := of_decide_eq_true h
      rw [wrap_in (by omega) (by omega)] at this
      omega
    rw [wrap_in (by omega) (by omega)]
    by_cases ha : 0 ≤ a ∧ a < (l.length : Int)
    · refine Ev.pos (decide_eq_true (by omega)) (Ev.bindc (within_eq _ _) ?_)
      by_cases hb : 0 ≤ b ∧ b ≤ 1600000
      · refine Ev.pos (decide_eq_true hb) (Ev.bindc (within_eq _ _) ?_)
        by_cases hn : 0 ≤ n ∧ n ≤ 1600000
        · refine Ev.pos (decide_eq_true hn) (Ev.bind (order_times_at h40 hk hb.1 hb.2) ?_)
          rcases told_or l with hu | ⟨ts, R, ht, hR⟩
          · rw [timesOf_untold b hu, lateAns_untold h ha ⟨hb, hn⟩ hu]
            exact Ev.neg (by simp) (Ev.now _)
          · obtain ⟨e1, e2, e3, e4⟩ := tt_all hk ht
            have hm := e4 _ (mem_getD (ts := ts) (i := a.toNat) (by omega))
            rw [timesOf_told b ht hR, lateAns_told h ha ⟨hb, hn⟩ ht hR]
            dsimp only
            refine Ev.pos rfl (Ev.pos ha.1 (Ev.pos (by simp; omega) ?_))
            rw [rd_map ha.1 (by omega), wrap_in (by omega) (by omega)]
            unfold lateBy
            by_cases hp : n - (b + ts.getD a.toNat 0) > 0
            · refine Ev.pos hp (Ev.neg hR ?_)
              rw [tm_late (by omega) (by omega)]
              by_cases hq : n - (b + ts.getD a.toNat 0) ≥ R
              · rw [if_pos hq]; exact Ev.now _
              · rw [if_neg hq, Int.emod_eq_of_lt (by omega) (by omega)]; exact Ev.now _
            · rw [if_neg (show ¬ n - (b + ts.getD a.toNat 0) ≥ R by omega)]
              exact Ev.neg hp (Ev.now _)
        · rw [lateAns_arg h ha (fun h => hn h.2)]
          exact Ev.neg (fun h => hn (of_decide_eq_true h)) (Ev.now _)
      · rw [lateAns_arg h ha (fun h => hb h.1)]
        exact Ev.neg (fun h => hb (of_decide_eq_true h)) (Ev.now _)
    · rw [lateAns_none h ha]
      exact Ev.neg (fun h => ha (by have := of_decide_eq_true h; omega)) (Ev.now _)
  · rw [lateAns_bad h]
    exact Ev.neg h (Ev.now _)
theorem ref_late_ev (l : List S33) (b a n : Int) : Ev (fun k => hinterlandref15_Late.f k l b a n) (lateAns l b a n) := by
  unfold hinterlandref15_Late.f
  refine Ev.bind (ref_validate_ev l) ?_
  have out0 : Ev (fun k => hinterlandref15_Late.j0 k l b a n true) (0, false, 2) := by
    refine Ev.step (fun k => by simp only [hinterlandref15_Late.j0]; rfl) ?_
    exact Ev.pos (by trivial) (Ev.now _)
  have out1 : Ev (fun k => hinterlandref15_Late.j1 k l b a n true) (0, false, 1) := by
    refine Ev.step (fun k => by simp only [hinterlandref15_Late.j1]; rfl) ?_
    exact Ev.pos (by trivial) (Ev.now _)
  by_cases h : vcode l = 0
  · obtain ⟨h40, hk, ho⟩ := vcode_zero.1 h
    refine Ev.pos h ?_
    by_cases ha : 0 ≤ a ∧ a < (l.length : Int)
    · refine Ev.neg (by omega) ?_
      rw [show decide (a ≥ (l.length : Int)) = false from decide_eq_false (by omega)]
      refine Ev.step (fun k => by simp only [hinterlandref15_Late.j0]; rfl) ?_
      refine Ev.neg (by simp) (Ev.bindc (out_eq _ _) ?_)
      by_cases hb : 0 ≤ b ∧ b ≤ 1600000
      · refine Ev.neg (fun h => (of_decide_eq_true h) hb) (Ev.bindc (out_eq _ _) ?_)
        by_cases hn : 0 ≤ n ∧ n ≤ 1600000
        · rw [show decide (¬ (0 ≤ n ∧ n ≤ 1600000)) = false from decide_eq_false (fun h => h hn)]
          refine Ev.step (fun k => by simp only [hinterlandref15_Late.j1]; rfl) ?_
          refine Ev.neg (by simp) (Ev.bind (ref_times_at h40 hk hb.1 hb.2) ?_)
          rcases told_or l with hu | ⟨ts, R, ht, hR⟩
          · rw [timesOf_untold b hu, lateAns_untold h ha ⟨hb, hn⟩ hu]
            exact Ev.neg (by simp) (Ev.now _)
          · obtain ⟨e1, e2, e3, e4⟩ := tt_all hk ht
            have hm := e4 _ (mem_getD (ts := ts) (i := a.toNat) (by omega))
            rw [timesOf_told b ht hR, lateAns_told h ha ⟨hb, hn⟩ ht hR]
            dsimp only
            refine Ev.pos rfl (Ev.pos ha.1 (Ev.pos (by simp; omega) ?_))
            rw [rd_map ha.1 (by omega), wrap_in (by omega) (by omega)]
            unfold lateBy
            by_cases hq : n - (b + ts.getD a.toNat 0) ≥ R
            · refine Ev.pos hq (Ev.neg hR ?_)
              rw [if_pos hq, tm_late (by omega) (by omega)]
              exact Ev.now _
            · exact Ev.eq (Ev.neg hq (Ev.now _)) (by rw [if_neg hq])
        · rw [lateAns_arg h ha (fun h => hn h.2), show decide (¬ (0 ≤ n ∧ n ≤ 1600000)) = true from decide_eq_true hn]
          exact out1
      · rw [lateAns_arg h ha (fun h => hb h.1)]
        exact Ev.pos (decide_eq_true hb) out1
    · rw [lateAns_none h ha]
      by_cases hn : a < 0
      · exact Ev.pos hn out0
      · refine Ev.neg hn ?_
        rw [show decide (a ≥ (l.length : Int)) = true from decide_eq_true (by omega)]
        exact out0
  · rw [lateAns_bad h]
    exact Ev.neg h (Ev.now _)

end Go.Proofs.Ythbjchicpebglaa.Pure
