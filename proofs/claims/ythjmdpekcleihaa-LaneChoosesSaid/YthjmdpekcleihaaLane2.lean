/- Layer 17: rounds of marks over tiles and the sides through which they are entered, in plain words. No conditions. -/
import Derived.Test.YthjmdpekcleihaaPx0
import Derived.Test.YthjmdpekcleihaaLane1
namespace Go.Proofs.Ythjmdpekcleihaa.Pure
set_option linter.unusedVariables false
set_option linter.unusedSimpArgs false
open Go.RowKit Go.Proofs.YthjmdpekcleihaaW.PrintWords Go.Proofs.Ythjmdpekcleihaa.P Go.Proofs.Ythjmdpekcleihaa

def cd (x : S116) : Nat := 4 * x.f0.toNat + x.f1.toNat
def OkX (W H : Int) (x : S116) : Prop := (0 ≤ x.f0 ∧ x.f0 < W * H) ∧ (0 ≤ x.f1 ∧ x.f1 ≤ 3)
theorem cd_inj {W H : Int} {x y : S116} (hx : OkX W H x) (hy : OkX W H y) (h : cd x = cd y) : x = y := by
 obtain ⟨⟨a1,a2⟩,⟨a3,a4⟩⟩:=hx
 obtain ⟨⟨b1,b2⟩,⟨b3,b4⟩⟩:=hy
 unfold cd at h
 cases x with
 | mk x0 x1 =>
  cases y with
  | mk y0 y1 =>
   dsimp only at *
   obtain rfl : x0 = y0:=by omega
   obtain rfl : x1 = y1:=by omega
   rfl
def vis : List Bool → List S116 → List S116 → List Bool × List S116
 | M,T,[] => (M,T)
 | M,T,x :: xs => if M.getD (cd x) false = true then vis M T xs else vis (M.set (cd x) true) (T ++ [x]) xs
theorem vis_app : ∀ (xs ys : List S116) (M : List Bool) (T : List S116), vis M T (xs ++ ys) = vis (vis M T xs).1 (vis M T xs).2 ys
 | [],ys,M,T => rfl
 | x :: xs,ys,M,T => by
  simp only [List.cons_append,vis]
  split
  ·exact vis_app xs ys M T
  ·exact vis_app xs ys _ _
theorem set_at (M : List Bool) (c d : Nat) : (M.set c true).getD d false = if c = d ∧ d < M.length then true else M.getD d false := by
 rw [List.getD_eq_getElem?_getD,List.getElem?_set,List.getD_eq_getElem?_getD]
 by_cases h : c = d
 ·rw [if_pos h]
  by_cases h2 : c < M.length
  ·rw [if_pos h2,if_pos ⟨h,by omega⟩];rfl
  ·rw [if_neg h2,if_neg (by omega),List.getElem?_eq_none (by omega)]
 ·rw [if_neg h,if_neg (fun hh => h hh.1)]
theorem count_set : ∀ (M : List Bool) (c : Nat), c < M.length → M.getD c false = false → (M.set c true).count false + 1 = M.count false
 | [],c,h,_ => by simp at h
 | b :: M,0,h,hb => by
  have : b = false:=by simpa using hb
  subst this
  simp
 | b :: M,c + 1,h,hb => by
  have ih:=count_set M c (by simpa using h) (by simpa using hb)
  simp only [List.set_cons_succ,List.count_cons]
  omega
theorem vis_len : ∀ (xs : List S116) (M : List Bool) (T : List S116), (vis M T xs).1.length = M.length
 | [],M,T => rfl
 | x :: xs,M,T => by
  unfold vis
  split
  ·exact vis_len xs M T
  ·rw [vis_len xs];simp
section
variable {W H : Int}
theorem cd_lt {M : List Bool} {x : S116} (hM : (M.length : Int) = 4 * (W * H)) (h : OkX W H x) : cd x < M.length := by
 obtain ⟨⟨a1,a2⟩,⟨a3,a4⟩⟩:=h
 unfold cd
 omega
theorem vis_count : ∀ (xs : List S116) (M : List Bool) (T : List S116), (M.length : Int) = 4 * (W * H) → (∀ x ∈ xs, OkX W H x) → (vis M T xs).2.length + (vis M T xs).1.count false = T.length + M.count false
 | [],M,T,_,_ => rfl
 | x :: xs,M,T,hM,h => by
  have hx:=h x (by simp)
  unfold vis
  by_cases c : M.getD (cd x) false = true
  ·rw [if_pos c];exact vis_count xs M T hM (fun y hy => h y (by simp [hy]))
  ·rw [if_neg c,vis_count xs _ _ (by simpa using hM) (fun y hy => h y (by simp [hy]))]
   have:=count_set M (cd x) (cd_lt hM hx) (by simpa using c)
   rw [List.length_append,List.length_singleton]
   omega
theorem vis_ok : ∀ (xs : List S116) (M : List Bool) (T : List S116), (∀ x ∈ T, OkX W H x) → (∀ x ∈ xs, OkX W H x) → ∀ x ∈ (vis M T xs).2, OkX W H x
 | [],M,T,hT,_,x,hx => hT x hx
 | y :: xs,M,T,hT,h,x,hx => by
  unfold vis at hx
  split at hx
  ·exact vis_ok xs M T hT (fun z hz => h z (by simp [hz])) x hx
  ·refine vis_ok xs _ _ (fun z hz => ?_) (fun z hz => h z (by simp [hz])) x hx
   rcases List.mem_append.1 hz with hz | hz
   ·exact hT z hz
   ·rw [List.mem_singleton.1 hz];exact h y (by simp)
theorem vis_keeps : ∀ (xs : List S116) (M : List Bool) (T : List S116) (x : S116), x ∈ T → x ∈ (vis M T xs).2
 | [],M,T,x,h => h
 | y :: xs,M,T,x,h => by
  unfold vis
  split
  ·exact vis_keeps xs M T x h
  ·exact vis_keeps xs _ _ x (by simp [h])
theorem vis_mem : ∀ (xs : List S116) (M : List Bool) (T : List S116), (M.length : Int) = 4 * (W * H) → (∀ x ∈ xs, OkX W H x) → ∀ x ∈ xs, M.getD (cd x) false = true ∨ x ∈ (vis M T xs).2
 | [],M,T,_,_,x,hx => by simp at hx
 | y :: xs,M,T,hM,h,x,hx => by
  have hy:=h y (by simp)
  unfold vis
  by_cases c : M.getD (cd y) false = true
  ·rw [if_pos c]
   rcases List.mem_cons.1 hx with e | hx
   ·rw [e];exact .inl c
   ·exact vis_mem xs M T hM (fun z hz => h z (by simp [hz])) x hx
  ·rw [if_neg c]
   rcases List.mem_cons.1 hx with e | hx
   ·exact .inr (vis_keeps xs _ _ x (by simp [e]))
   ·rcases vis_mem xs (M.set (cd y) true) (T ++ [y]) (by simpa using hM) (fun z hz => h z (by simp [hz])) x hx with k | k
    ·rw [set_at] at k
     by_cases e : cd y = cd x ∧ cd x < M.length
     ·exact .inr (vis_keeps xs _ _ x (by rw [cd_inj hy (h x (by simp [hx])) e.1];simp))
     ·rw [if_neg e] at k;exact .inl k
    ·exact .inr k
theorem vis_from : ∀ (xs : List S116) (M : List Bool) (T : List S116) (x : S116), x ∈ (vis M T xs).2 → x ∈ T ∨ x ∈ xs
 | [],M,T,x,h => .inl h
 | y :: xs,M,T,x,h => by
  unfold vis at h
  split at h
  ·rcases vis_from xs M T x h with k | k
   ·exact .inl k
   ·exact .inr (by simp [k])
  ·rcases vis_from xs _ _ x h with k | k
   ·rcases List.mem_append.1 k with k | k
    ·exact .inl k
    ·rw [List.mem_singleton.1 k];exact .inr (by simp)
   ·exact .inr (by simp [k])
theorem vis_marks : ∀ (xs : List S116) (M : List Bool) (T : List S116) (d : Nat), (vis M T xs).1.getD d false = true → M.getD d false = true ∨ ∃ y ∈ xs, cd y = d
 | [],M,T,d,h => .inl h
 | y :: xs,M,T,d,h => by
  unfold vis at h
  split at h
  ·rcases vis_marks xs M T d h with k | ⟨z,k1,k2⟩
   ·exact .inl k
   ·exact .inr ⟨z,by simp [k1],k2⟩
  ·rcases vis_marks xs _ _ d h with k | ⟨z,k1,k2⟩
   ·rw [set_at] at k
    by_cases e : cd y = d ∧ d < M.length
    ·exact .inr ⟨y,by simp,e.1⟩
    ·rw [if_neg e] at k;exact .inl k
   ·exact .inr ⟨z,by simp [k1],k2⟩
end
section
variable (W H : Int) (A Y : List Int)
def tgs (t : Int) (s : List Int) : List S116 := s.map (fun y => ⟨bey W H t y, opp y⟩)
def tg : List S116 → List S116
 | [] => []
 | x :: xs => tgs W H x.f0 (outs W H A Y x.f0 x.f1) ++ tg xs
open Classical in
noncomputable def lv (g : Int) : Nat → List Bool → List S116 → Int → Int
 | 0,_,_,_ => -1
 | f + 1,M,q,n => if q = [] then -1 else if ∃ x ∈ q,x.f0 = g then n else lv g f (vis M [] (tg W H A Y q)).1 (vis M [] (tg W H A Y q)).2 (n + 1)
noncomputable def farv (t s g : Int) : Int :=
 lv W H A Y g (4 * (W * H).toNat + 1) ((List.replicate (4 * (W * H).toNat) false).set (cd ⟨bey W H t s,opp s⟩) true) [⟨bey W H t s,opp s⟩] 1
end
section
variable {W H : Int} {A Y : List Int}
theorem tgs_ok {t : Int} {s : List Int} (h : Good W H A Y) (ht : 0 ≤ t ∧ t < W * H) (hs : ∀ y ∈ s, (0 ≤ y ∧ y ≤ 3) ∧ may W H A Y t y = true) : ∀ x ∈ tgs W H t s, OkX W H x := by
 intro x hx
 unfold tgs at hx
 obtain ⟨y,hy,rfl⟩:=List.mem_map.1 hx
 have hy:=hs y hy
 exact ⟨may_at h ht hy.2,(opp_at hy.1).1⟩
theorem tg_ok (h : Good W H A Y) : ∀ q : List S116, (∀ x ∈ q, OkX W H x) → ∀ x ∈ tg W H A Y q, OkX W H x
 | [],_,x,hx => by simp [tg] at hx
 | y :: q,hq,x,hx => by
  have hy:=hq y (by simp)
  unfold tg at hx
  rcases List.mem_append.1 hx with k | k
  ·exact tgs_ok h hy.1 (fun z hz => outs_mem hy.2.2 hz) x k
  ·exact tg_ok h q (fun z hz => hq z (by simp [hz])) x k
end
end Go.Proofs.Ythjmdpekcleihaa.Pure
