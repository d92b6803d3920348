/- Layer 15: the first order from a place on that is no jump: the program's walk of a counted length and the reference's walk with marks come to the same. No conditions. -/
import Derived.Test.YthbjchicpebglaaPSOrderNexts
import Derived.Test.YthbjchicpebglaaOrder0
namespace Go.Proofs.Ythbjchicpebglaa.Pure
set_option linter.unusedVariables false
set_option linter.unusedSimpArgs false
open Go.RowKit Go.Proofs.YthbjchicpebglaaW.PrintWords Go.Proofs.Ythbjchicpebglaa.P Go.Proofs.Ythbjchicpebglaa

/-- Does the test of a jump hold? -/
def holdsB (x : S33) (b0 b1 b2 b3 : Int) : Bool :=
  if x.f4 = 1 then decide (x.f5 ≤ b0) else if x.f4 = 2 then decide (x.f5 ≤ b1) else if x.f4 = 3 then decide (b2 < x.f5) else if x.f4 = 4 then decide (x.f5 ≤ b3) else true
theorem order_holds_eq (x : S33) (b0 b1 b2 b3 : Int) (h : OkO x) : order_holds.f x.f0 x.f1 x.f2 x.f3 x.f4 x.f5 x.f6 x.f7 x.f8 b0 b1 b2 b3 = some (holdsB x b0 b1 b2 b3) := by
  obtain ⟨_, _, _, _, h4, _⟩ := h
  unfold order_holds.f holdsB
  by_cases e0 : x.f4 = 0
  · simp [e0]
  · rw [if_neg e0]
    by_cases e1 : x.f4 = 1
    · simp [e1]
    by_cases e2 : x.f4 = 2
    · simp [e2]
    by_cases e3 : x.f4 = 3
    · simp [e3]
    have e4 : x.f4 = 4 := by omega
    simp [e4]
theorem ref_holds_eq (x : S33) (b0 b1 b2 b3 : Int) : hinterlandref15_holds.f x.f0 x.f1 x.f2 x.f3 x.f4 x.f5 x.f6 x.f7 x.f8 b0 b1 b2 b3 = some (holdsB x b0 b1 b2 b3) := by
  unfold hinterlandref15_holds.f holdsB
  repeat' split
  all_goals first | rfl | simp_all

section
variable (l : List S33) (b0 b1 b2 b3 : Int)
/-- The place behind a jump. -/
def nx (i : Nat) : Nat := if holdsB (l.getD i z33) b0 b1 b2 b3 = true then (l.getD i z33).f6.toNat else if i + 1 < l.length then i + 1 else 0
/-- The first place that is no jump, within a number of steps. -/
def firstIn : Nat → Nat → Int × Bool
  | 0, _ => (0, false)
  | d + 1, a => if (l.getD a z33).f0 = 2 then firstIn d (nx l b0 b1 b2 b3 a) else ((a : Int), true)
end

theorem nx_lt {l : List S33} (b0 b1 b2 b3 : Int) (ho : AllTo l) {i : Nat} (hi : i < l.length) : nx l b0 b1 b2 b3 i < l.length := by
  unfold nx
  have := ho i (by omega) hi
  split
  · omega
  · split <;> omega
theorem firstIn_true {l : List S33} {b0 b1 b2 b3 : Int} (ho : AllTo l) : ∀ d a r, a < l.length → firstIn l b0 b1 b2 b3 d a = (r, true) → ∃ m : Nat, r = m ∧ m < l.length ∧ (l.getD m z33).f0 ≠ 2
  | 0, a, r, _, h => by simp [firstIn] at h
  | d + 1, a, r, ha, h => by
    unfold firstIn at h
    by_cases e : (l.getD a z33).f0 = 2
    · rw [if_pos e] at h
      exact firstIn_true ho d _ r (nx_lt _ _ _ _ ho ha) h
    · rw [if_neg e] at h
      injection h with h1 h2
      exact ⟨a, h1.symm, ha, e⟩
theorem firstIn_ring {l : List S33} {b0 b1 b2 b3 : Int} {S : Nat → Prop} (hS : ∀ x, S x → (l.getD x z33).f0 = 2 ∧ S (nx l b0 b1 b2 b3 x)) : ∀ d a, S a → firstIn l b0 b1 b2 b3 d a = (0, false)
  | 0, _, _ => rfl
  | d + 1, a, h => by
    unfold firstIn
    rw [if_pos (hS a h).1]
    exact firstIn_ring hS d _ (hS a h).2

theorem tmod_next (l : List S33) (i : Nat) (hi : i < l.length) (h40 : l.length ≤ 40) : Int.tmod (wrap64 ((i : Int) + 1)) (l.length : Int) = ((if i + 1 < l.length then i + 1 else 0 : Nat) : Int) := by
  rw [wrap_in (by omega) (by omega)]
  rw [Int.tmod_eq_emod_of_nonneg (by omega)]
  split
  · rw [Int.emod_eq_of_lt (by omega) (by omega)]; omega
  · have : (i : Int) + 1 = l.length := by omega
    rw [this, Int.emod_self]; rfl

theorem follow_ev {l : List S33} (h40 : l.length ≤ 40) (hk : AllOk l) (ho : AllTo l) (b0 b1 b2 b3 : Int) : ∀ d t a, t + d = l.length + 1 → a < l.length →
    Ev (fun k => order_follow.l0 k l (a : Int) ((l.length : Int) + 1) (t : Int) b0 b1 b2 b3) (firstIn l b0 b1 b2 b3 d a)
  | 0, t, a, h, ha => by
    refine Ev.step (fun k => by simp only [order_follow.l0]; rfl) ?_
    exact Ev.neg (by omega) (Ev.now _)
  | d + 1, t, a, h, ha => by
    refine Ev.step (fun k => by simp only [order_follow.l0]; rfl) ?_
    refine Ev.pos (by omega) (Ev.pos (by omega) (Ev.pos (by omega) ?_))
    rw [rdN]
    unfold firstIn
    by_cases e : (l.getD a z33).f0 = 2
    · refine Ev.pos e ?_
      rw [if_pos e]
      refine Ev.bindc (order_holds_eq _ _ _ _ _ (hk a (by omega) ha)) ?_
      have ih := follow_ev h40 hk ho b0 b1 b2 b3 d (t + 1) (nx l b0 b1 b2 b3 a) (by omega) (nx_lt _ _ _ _ ho ha)
      have ht := ho a (by omega) ha
      unfold nx at ih
      rw [wrap_in (x := (t : Int) + 1) (by omega) (by omega)]
      by_cases hh : holdsB (l.getD a z33) b0 b1 b2 b3 = true
      · refine Ev.pos hh ?_
        unfold nx
        rw [if_pos hh] at ih ⊢
        rw [Int.toNat_of_nonneg ht.1] at ih
        exact ih
      · refine Ev.neg hh (Ev.neg (by omega) ?_)
        unfold nx
        rw [if_neg hh] at ih ⊢
        rw [tmod_next l a ha h40]
        exact ih
    · refine Ev.neg e ?_
      rw [if_neg e]
      exact Ev.now _

theorem rdOf_nat (s : List Bool) (a : Nat) : rdOf false s (a : Int) = s.getD a false := by unfold rdOf; simp

theorem find_ev {l : List S33} (h40 : l.length ≤ 40) (hk : AllOk l) (ho : AllTo l) (b0 b1 b2 b3 : Int) (R : Int × Bool) : ∀ d a (s : List Bool), s.length = l.length → s.count true + d = l.length → a < l.length →
    (∀ x, s.getD x false = true → (l.getD x z33).f0 = 2) → (∀ x, s.getD x false = true → s.getD (nx l b0 b1 b2 b3 x) false = true ∨ nx l b0 b1 b2 b3 x = a) →
    R = firstIn l b0 b1 b2 b3 (d + 1) a → Ev (fun k => hinterlandref15_find.l0 k l (a : Int) s b0 b1 b2 b3) R := by
  intro d
  induction d with
  | zero =>
    intro a s hs hc ha h1 h2 hR
    -- all places are marked
    have hall : s.getD a false = true := by
      have : s.count true = s.length := by omega
      have h := List.count_eq_length.1 this
      have ha' : a < s.length := by omega
      have := h (s[a]) (List.getElem_mem ha')
      simp [List.getElem?_eq_getElem ha', ← this]
    refine Ev.step (fun k => by simp only [hinterlandref15_find.l0]; rfl) ?_
    refine Ev.pos (by omega) (Ev.pos (by omega) ?_)
    rw [rdOf_nat]
    refine Ev.pos hall ?_
    rw [hR, firstIn_ring (S := fun x => s.getD x false = true) (fun x hx => ⟨h1 x hx, by
      rcases h2 x hx with h | h
      · exact h
      · show s.getD _ false = true
        rw [h]; exact hall⟩) _ _ hall]
    exact Ev.now _
  | succ d ih =>
    intro a s hs hc ha h1 h2 hR
    refine Ev.step (fun k => by simp only [hinterlandref15_find.l0]; rfl) ?_
    refine Ev.pos (by omega) (Ev.pos (by omega) ?_)
    rw [rdOf_nat, rdN]
    by_cases hsa : s.getD a false = true
    · refine Ev.pos hsa ?_
      rw [hR, firstIn_ring (S := fun x => s.getD x false = true) (fun x hx => ⟨h1 x hx, by
        rcases h2 x hx with h | h
        · exact h
        · show s.getD _ false = true
          rw [h]; exact hsa⟩) _ _ hsa]
      exact Ev.now _
    · refine Ev.neg hsa (Ev.pos (by omega) ?_)
      unfold firstIn at hR
      by_cases e : (l.getD a z33).f0 = 2
      · rw [if_pos e] at hR
        refine Ev.pos e ?_
        refine Ev.bindc rfl ?_
        refine Ev.bindc (ref_holds_eq _ _ _ _ _) ?_
        have ha' : a < s.length := by omega
        have hsa' : s[a] = false := by
          simp [List.getElem?_eq_getElem ha'] at hsa
          exact hsa
        have hcnt : (s.set a true).count true = s.count true + 1 := by
          rw [List.count_set (by omega)]
          simp [hsa']
        have hget : ∀ x, (s.set a true).getD x false = true ↔ (s.getD x false = true ∨ x = a) := by
          intro x
          by_cases hx : x = a
          · subst hx
            simp [List.getElem?_set, ha']
          · simp [List.getElem?_set, Ne.symm hx, hx]
        have ih' := ih (nx l b0 b1 b2 b3 a) (s.set a true) (by simpa using hs) (by omega) (nx_lt _ _ _ _ ho ha)
          (fun x hx => by
            rcases (hget x).1 hx with h | h
            · exact h1 x h
            · rw [h]; exact e)
          (fun x hx => by
            rcases (hget x).1 hx with h | h
            · rcases h2 x h with h' | h'
              · exact .inl ((hget _).2 (.inl h'))
              · exact .inl ((hget _).2 (.inr h'))
            · exact .inr (by rw [h]))
          hR
        have ht := ho a (by omega) ha
        rw [Int.toNat_natCast]
        rw [wrap_in (x := (a : Int) + 1) (by omega) (by omega)]
        by_cases hh : holdsB (l.getD a z33) b0 b1 b2 b3 = true
        · refine Ev.pos hh ?_
          unfold nx at ih'
          rw [if_pos hh, Int.toNat_of_nonneg ht.1] at ih'
          exact ih'
        · refine Ev.neg hh ?_
          unfold nx at ih'
          rw [if_neg hh] at ih'
          by_cases hl : a + 1 < l.length
          · rw [if_pos hl] at ih'
            exact Ev.pos (by omega) (by simpa using ih')
          · rw [if_neg hl] at ih'
            exact Ev.neg (by omega) (by simpa using ih')
      · rw [if_neg e] at hR
        rw [hR]
        exact Ev.neg e (Ev.now _)

/-- What comes next, from a place on. -/
def nextOf (l : List S33) (a : Nat) (b0 b1 b2 b3 : Int) : Int × Bool := firstIn l b0 b1 b2 b3 (l.length + 1) a
theorem follow_at {l : List S33} (h40 : l.length ≤ 40) (hk : AllOk l) (ho : AllTo l) (b0 b1 b2 b3 : Int) (a : Nat) (ha : a < l.length) : Ev (fun k => order_follow.f k l (a : Int) b0 b1 b2 b3) (nextOf l a b0 b1 b2 b3) := by
  unfold order_follow.f
  rw [wrap_in (by omega) (by omega)]
  exact follow_ev h40 hk ho b0 b1 b2 b3 (l.length + 1) 0 a (by omega) ha
theorem find_at {l : List S33} (h40 : l.length ≤ 40) (hk : AllOk l) (ho : AllTo l) (b0 b1 b2 b3 : Int) (a : Nat) (ha : a < l.length) : Ev (fun k => hinterlandref15_find.f k l (a : Int) b0 b1 b2 b3) (nextOf l a b0 b1 b2 b3) := by
  unfold hinterlandref15_find.f
  refine Ev.pos (by omega) (Ev.pos (by omega) ?_)
  rw [Int.toNat_natCast]
  have hf : ∀ x, (List.replicate l.length false).getD x false = true → False := fun x h => by
    simp [List.getElem?_replicate] at h
    split at h <;> simp at h
  exact find_ev h40 hk ho b0 b1 b2 b3 _ l.length a _ (by simp) (by simp [List.count_replicate]) ha (fun x h => (hf x h).elim) (fun x h => (hf x h).elim) rfl

open Classical in
/-- Next's answer. -/
noncomputable def nextAns (l : List S33) (a b0 b1 b2 b3 : Int) : Int × Bool × Int :=
  if vcode l = 0 then (if l.length = 0 then (0, false, 0) else if 0 ≤ a ∧ a < (l.length : Int) then ((nextOf l a.toNat b0 b1 b2 b3).1, (nextOf l a.toNat b0 b1 b2 b3).2, 0) else (0, false, 2)) else (0, false, vcode l)
theorem order_check_ev (l : List S33) (a : Int) : Ev (fun k => order_check.f k l a) (if vcode l = 0 then (if l.length = 0 then 0 else if 0 ≤ a ∧ a < (l.length : Int) then 0 else 2) else vcode l) := by
  unfold order_check.f
  refine Ev.bind (order_validate_ev l) ?_
  by_cases h : vcode l = 0
  · obtain ⟨h40, hk, ho⟩ := vcode_zero.1 h
    by_cases h0 : l.length = 0
    · exact Ev.eq (Ev.pos h (Ev.neg (by omega) (Ev.now _))) (by rw [if_pos h, if_pos h0])
    · by_cases ha : 0 ≤ a ∧ a < (l.length : Int)
      · refine Ev.eq (Ev.pos h (Ev.pos (by omega) (Ev.bindc (within_eq _ _) (Ev.pos (decide_eq_true ?_) (Ev.now _))))) (by rw [if_pos h, if_neg h0, if_pos ha])
        rw [wrap_in (by omega) (by omega)]
        omega
      · refine Ev.eq (Ev.pos h (Ev.pos (by omega) (Ev.bindc (within_eq _ _) (Ev.neg (fun h => ha ?_) (Ev.now _))))) (by rw [if_pos h, if_neg h0, if_neg ha])
        have := of_decide_eq_true h
        rw [wrap_in (by omega) (by omega)] at this
        omega
  · exact Ev.eq (Ev.neg h (Ev.now _)) (by rw [if_neg h])
theorem order_next_ev (l : List S33) (a b0 b1 b2 b3 : Int) : Ev (fun k => order_Next.f k l a b0 b1 b2 b3) (nextAns l a b0 b1 b2 b3) := by
  unfold order_Next.f
  refine Ev.bind (order_check_ev l a) ?_
  unfold nextAns
  by_cases h : vcode l = 0
  · obtain ⟨h40, hk, ho⟩ := vcode_zero.1 h
    by_cases h0 : l.length = 0
    · simp only [h, h0, if_true]
      exact Ev.now _
    · by_cases ha : 0 ≤ a ∧ a < (l.length : Int)
      · simp only [h, h0, ha, and_self, if_true, if_false]
        refine Ev.neg (by omega) ?_
        obtain ⟨n, rfl⟩ := Int.eq_ofNat_of_zero_le ha.1
        exact Ev.bind (follow_at h40 hk ho b0 b1 b2 b3 n (by omega)) (Ev.now _)
      · simp only [h, h0, ha, if_true, if_false]
        exact Ev.neg (by omega) (Ev.now _)
  · simp only [h, if_false]
    exact Ev.now _
theorem ref_next_ev (l : List S33) (a b0 b1 b2 b3 : Int) : Ev (fun k => hinterlandref15_Next.f k l a b0 b1 b2 b3) (nextAns l a b0 b1 b2 b3) := by
  unfold hinterlandref15_Next.f
  refine Ev.bind (ref_validate_ev l) ?_
  unfold nextAns
  by_cases h : vcode l = 0
  · obtain ⟨h40, hk, ho⟩ := vcode_zero.1 h
    refine Ev.pos h ?_
    by_cases h0 : l.length = 0
    · simp only [h, h0, if_true]
      exact Ev.pos (by omega) (Ev.now _)
    · refine Ev.neg (by omega) ?_
      by_cases ha : 0 ≤ a ∧ a < (l.length : Int)
      · simp only [h, h0, ha, and_self, if_true, if_false]
        refine Ev.neg (by omega) (Ev.neg (by omega) ?_)
        obtain ⟨n, rfl⟩ := Int.eq_ofNat_of_zero_le ha.1
        exact Ev.bind (find_at h40 hk ho b0 b1 b2 b3 n (by omega)) (Ev.now _)
      · simp only [h, h0, ha, if_true, if_false]
        by_cases hn : a < 0
        · exact Ev.pos hn (Ev.now _)
        · exact Ev.neg hn (Ev.pos (by omega) (Ev.now _))
  · refine Ev.neg h ?_
    simp only [h, if_false]
    exact Ev.now _

end Go.Proofs.Ythbjchicpebglaa.Pure
