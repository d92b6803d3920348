/- Plain words on tiles that hang together, whatever joins them, and on how a flood labels them. No conditions. -/
import Derived.Test.YtiencnnkphipoaaWaterL
namespace Go.Proofs.Ytiencnnkphipoaa.Pure
set_option linter.unusedVariables false
set_option linter.unusedSimpArgs false
open Go.RowKit Go.Proofs.YtiencnnkphipoaaW.PrintWords

theorem exists_least {p : Nat → Prop} (h : ∃ n, p n) : ∃ n, p n ∧ ∀ m, p m → n ≤ m := by
 obtain ⟨n,hn⟩:=h
 induction n using Nat.strongRecOn with
 | ind n ih =>
  by_cases hc : ∃ m,m < n ∧ p m
  ·obtain ⟨m,h1,h2⟩:=hc;exact ih m h1 h2
  ·exact ⟨n,hn,fun m hm => Classical.byContradiction fun hl => hc ⟨m,by omega,hm⟩⟩
structure Net (n : Nat) (mt : Nat → Int → Int) (wt : Nat → Bool) : Prop where
 at_ : ∀ t,t < n → ∀ s : Int,-1 ≤ mt t s ∧ mt t s < (n : Int)
 back : ∀ t,t < n → ∀ s : Int,0 ≤ s ∧ s ≤ 3 → 0 ≤ mt t s → mt (mt t s).toNat (Int.tmod (s + 2) 4) = (t : Int)
 arm : ∀ t,t < n → ∀ s : Int,0 ≤ s ∧ s ≤ 3 → 0 ≤ mt t s → wt t = true
section
variable {n : Nat} {mt : Nat → Int → Int} {wt : Nat → Bool}
def Link (n : Nat) (mt : Nat → Int → Int) (t u : Nat) : Prop := t < n ∧ ∃ s : Int, (0 ≤ s ∧ s ≤ 3) ∧ mt t s = (u : Int)
inductive Reach (n : Nat) (mt : Nat → Int → Int) (i : Nat) : Nat → Prop
 | refl : Reach n mt i i
 | step {u v : Nat} : Reach n mt i u → Link n mt u v → Reach n mt i v
theorem Link.back (g : Net n mt wt) {t u : Nat} (h : Link n mt t u) : Link n mt u t := by
 obtain ⟨ht,s,hs,hm⟩:=h
 have h1:=g.at_ t ht s
 have h2:=g.back t ht s hs (by omega)
 rw [hm,Int.toNat_natCast] at h2
 exact ⟨by omega,Int.tmod (s + 2) 4,(back2 hs).1,h2⟩
theorem Link.lt (g : Net n mt wt) {t u : Nat} (h : Link n mt t u) : u < n := (h.back g).1
theorem Link.arm (g : Net n mt wt) {t u : Nat} (h : Link n mt t u) : wt t = true := by
 obtain ⟨ht,s,hs,hm⟩:=h
 exact g.arm t ht s hs (by omega)
theorem Reach.trans {i j k : Nat} (h : Reach n mt i j) (h' : Reach n mt j k) : Reach n mt i k := by
 induction h' with
 | refl => exact h
 | step _ l ih => exact ih.step l
theorem Reach.symm (g : Net n mt wt) {i j : Nat} (h : Reach n mt i j) : Reach n mt j i := by
 induction h with
 | refl => exact .refl
 | step _ l ih => exact (Reach.step .refl (l.back g)).trans ih
theorem Reach.lt (g : Net n mt wt) {i j : Nat} (h : Reach n mt i j) (hi : i < n) : j < n := by
 cases h with
 | refl => exact hi
 | step _ l => exact l.lt g
theorem Reach.arm (g : Net n mt wt) {i j : Nat} (h : Reach n mt i j) (hij : i ≠ j) : wt j = true := by
 cases h with
 | refl => exact absurd rfl hij
 | step _ l => exact (l.back g).arm g
theorem least_ex (n : Nat) (mt : Nat → Int → Int) (j : Nat) : ∃ k, Reach n mt j k ∧ ∀ m, Reach n mt j m → k ≤ m := exists_least ⟨j, .refl⟩
noncomputable def low (n : Nat) (mt : Nat → Int → Int) (j : Nat) : Nat := Classical.choose (least_ex n mt j)
theorem low_reach (n : Nat) (mt : Nat → Int → Int) (j : Nat) : Reach n mt j (low n mt j) := (Classical.choose_spec (least_ex n mt j)).1
theorem low_least {j k : Nat} (h : Reach n mt j k) : low n mt j ≤ k := (Classical.choose_spec (least_ex n mt j)).2 k h
theorem low_le (n : Nat) (mt : Nat → Int → Int) (j : Nat) : low n mt j ≤ j := low_least .refl
theorem low_eq (g : Net n mt wt) {i j : Nat} (h : Reach n mt i j) : low n mt i = low n mt j :=
 Nat.le_antisymm (low_least (h.trans (low_reach n mt j))) (low_least ((h.symm g).trans (low_reach n mt i)))
theorem reach_low (g : Net n mt wt) {i j : Nat} (h : low n mt j = i) : Reach n mt i j := by
 subst h
 exact (low_reach n mt j).symm g
theorem count_set (i : Int) : ∀ (L : List Int) (u : Nat), u < L.length → L.getD u 0 ≠ i → (L.set u i).countP (fun x => x != i) + 1 = L.countP (fun x => x != i)
 | [],u,h,_ => absurd h (by simp)
 | x :: L,0,_,h => by
  have hx : x ≠ i:=by simpa using h
  simp [List.countP_cons,hx]
 | x :: L,u + 1,hu,h => by
  have ih:=count_set i L u (by simpa using hu) (by simpa using h)
  simp only [List.set_cons_succ,List.countP_cons]
  omega
structure Inv (n : Nat) (mt : Nat → Int → Int) (i : Nat) (L0 L q : List Int) (x : Nat) : Prop where
 len : L.length = n
 old : ∀ j,j < n → L.getD j 0 = L0.getD j 0 ∨ (L.getD j 0 = (i : Int) ∧ Reach n mt i j)
 inq : ∀ y ∈ q,∃ j : Nat,y = (j : Int) ∧ Reach n mt i j ∧ L.getD j 0 = (i : Int)
 cls : ∀ j,Reach n mt i j → L.getD j 0 = (i : Int) → (j : Int) ∈ q ∨ j = x ∨ ∀ u,Link n mt j u → L.getD u 0 = (i : Int)
 src : L.getD i 0 = (i : Int)
theorem Inv.full {i : Nat} {L0 L : List Int} (g : Net n mt wt) (h : Inv n mt i L0 L [] n) : ∀ {j}, Reach n mt i j → i < n → L.getD j 0 = (i : Int) := by
 intro j hj hi
 induction hj with
 | refl => exact h.src
 | step r l ih =>
  rcases h.cls _ r ih with h1 | h1 | h1
  ·exact absurd h1 (by simp)
  ·have:=r.lt g hi;omega
  ·exact h1 _ l
variable {i : Nat} {L0 : List Int} {P2 : List Int → List Int → Prop} {P3 : List Int → List Int → Int → Int → Prop}
structure Floods (n : Nat) (mt : Nat → Int → Int) (i : Nat) (L0 : List Int) (P2 : List Int → List Int → Prop) (P3 : List Int → List Int → Int → Int → Prop) : Prop where
 take : ∀ L q,q ≠ [] → q.length ≤ 9000 → ∃ (t : Int) (q' : List Int),q'.length + 1 = q.length ∧ (∀ y,y ∈ q ↔ y = t ∨ y ∈ q') ∧ (P3 L q' t 0 → P2 L q)
 fin : ∀ L,L.length = n → (∀ j,j < n → L.getD j 0 = L0.getD j 0 ∨ (L.getD j 0 = (i : Int) ∧ Reach n mt i j)) → (∀ j,Reach n mt i j → L.getD j 0 = (i : Int)) → P2 L []
 turn : ∀ L q t,P2 L q → P3 L q t 4
 none : ∀ L q (t : Nat) (s : Int),t < n → (0 ≤ s ∧ s ≤ 3) → mt t s = -1 → P3 L q (t : Int) (s + 1) → P3 L q (t : Int) s
 done : ∀ L q (t : Nat) (s : Int) (u : Nat),t < n → (0 ≤ s ∧ s ≤ 3) → mt t s = (u : Int) → u < n → L.length = n → L.getD u 0 = (i : Int) → P3 L q (t : Int) (s + 1) → P3 L q (t : Int) s
 mark : ∀ L q (t : Nat) (s : Int) (u : Nat),t < n → (0 ≤ s ∧ s ≤ 3) → mt t s = (u : Int) → u < n → L.length = n → q.length ≤ 9000 → Reach n mt i u → L.getD u 0 = L0.getD u 0 → L.getD u 0 ≠ (i : Int) → P3 (L.set u (i : Int)) (q ++ [(u : Int)]) (t : Int) (s + 1) → P3 L q (t : Int) s
theorem flood3 (g : Net n mt wt) (hi : i < n) (F : Floods n mt i L0 P2 P3) (t : Nat) (ht : Reach n mt i t) :
  ∀ (d : Nat) (s : Int) (L q : List Int),s + d = 4 → 0 ≤ s → 2 * L.countP (fun x => x != (i : Int)) + q.length ≤ 9000 → L.getD t 0 = (i : Int) → Inv n mt i L0 L q t → (∀ s' : Int,(0 ≤ s' ∧ s' < s) → ∀ u : Nat,mt t s' = (u : Int) → L.getD u 0 = (i : Int)) →
  (∀ L' q',2 * L'.countP (fun x => x != (i : Int)) + q'.length ≤ 2 * L.countP (fun x => x != (i : Int)) + q.length → Inv n mt i L0 L' q' n → P2 L' q') → P3 L q (t : Int) s
 | 0,s,L,q,hs,h0,hB,hL,I,ts,K => by
  obtain rfl : s = 4:=by omega
  refine F.turn L q t (K L q (Nat.le_refl _) ⟨I.len,I.old,I.inq,fun j hj hl => ?_,I.src⟩)
  rcases I.cls j hj hl with h | h | h
  ·exact .inl h
  ·refine .inr (.inr fun u hu => ?_)
   subst h
   obtain ⟨_,s',hs',hm⟩:=hu
   exact ts s' ⟨hs'.1,by omega⟩ u hm
  ·exact .inr (.inr h)
 | d + 1,s,L,q,hs,h0,hB,hL,I,ts,K => by
  have htl:=ht.lt g hi
  have hm:=g.at_ t htl s
  by_cases hneg : mt t s = -1
  ·refine F.none L q t s htl ⟨h0,by omega⟩ hneg (flood3 g hi F t ht d (s + 1) L q (by omega) (by omega) hB hL I (fun s' hs' u hu => ?_) K)
   by_cases e : s' = s
   ·subst e;omega
   ·exact ts s' ⟨hs'.1,by omega⟩ u hu
  obtain ⟨u,hu⟩ : ∃ u : Nat,mt t s = (u : Int):=⟨(mt t s).toNat,by omega⟩
  have hul : u < n:=by omega
  have hlink : Link n mt t u:=⟨htl,s,⟨h0,by omega⟩,hu⟩
  have hru : Reach n mt i u:=ht.step hlink
  by_cases hd : L.getD u 0 = (i : Int)
  ·refine F.done L q t s u htl ⟨h0,by omega⟩ hu hul I.len hd (flood3 g hi F t ht d (s + 1) L q (by omega) (by omega) hB hL I (fun s' hs' v hv => ?_) K)
   by_cases e : s' = s
   ·subst e
    have : u = v:=by omega
    rw [← this];exact hd
   ·exact ts s' ⟨hs'.1,by omega⟩ v hv
  have hold : L.getD u 0 = L0.getD u 0:=(I.old u hul).resolve_right (fun h => hd h.1)
  have hc:=count_set (i : Int) L u (by rw [I.len];exact hul) hd
  have keep : ∀ v,L.getD v 0 = (i : Int) → (L.set u (i : Int)).getD v 0 = (i : Int):=by
   intro v hv
   rw [set_at]
   split
   ·rfl
   ·exact hv
  have at_u : (L.set u (i : Int)).getD u 0 = (i : Int):=by rw [set_at,if_pos ⟨rfl,by rw [I.len];exact hul⟩]
  refine F.mark L q t s u htl ⟨h0,by omega⟩ hu hul I.len (by omega) hru hold hd (flood3 g hi F t ht d (s + 1) (L.set u (i : Int)) (q ++ [(u : Int)]) (by omega) (by omega) (by simp;omega) (keep t hL) ⟨by rw [List.length_set];exact I.len,?_,?_,?_,keep i I.src⟩ (fun s' hs' v hv => ?_) (fun L' q' hm' I' => K L' q' (by simp at hm';omega) I'))
  ·intro j hj
   rw [set_at]
   by_cases e : u = j
   ·rw [if_pos ⟨e,by rw [I.len];exact hj⟩]
    subst e
    exact .inr ⟨rfl,hru⟩
   ·rw [if_neg (fun h => e h.1)]
    exact I.old j hj
  ·intro y hy
   rcases List.mem_append.1 hy with h | h
   ·obtain ⟨j,e,hj,hl⟩:=I.inq y h
    exact ⟨j,e,hj,keep j hl⟩
   ·exact ⟨u,List.mem_singleton.1 h,hru,at_u⟩
  ·intro j hj hl
   by_cases e : u = j
   ·subst e
    exact .inl (List.mem_append.2 (.inr (List.mem_singleton.2 rfl)))
   ·rw [set_at,if_neg (fun h => e h.1)] at hl
    rcases I.cls j hj hl with h | h | h
    ·exact .inl (List.mem_append.2 (.inl h))
    ·exact .inr (.inl h)
    ·exact .inr (.inr fun v hv => keep v (h v hv))
  ·by_cases e : s' = s
   ·subst e
    have : u = v:=by omega
    rw [← this];exact at_u
   ·exact keep v (ts s' ⟨hs'.1,by omega⟩ v hv)
theorem flood2 (g : Net n mt wt) (hi : i < n) (F : Floods n mt i L0 P2 P3) :
  ∀ (m : Nat) (L q : List Int),2 * L.countP (fun x => x != (i : Int)) + q.length ≤ m → m ≤ 9000 → Inv n mt i L0 L q n → P2 L q:=by
 intro m
 induction m with
 | zero =>
  intro L q hm _ I
  obtain rfl : q = []:=List.length_eq_zero_iff.1 (by omega)
  exact F.fin L I.len I.old (fun j hj => I.full g hj hi)
 | succ m ih =>
  intro L q hm hB I
  by_cases hq : q = []
  ·subst hq
   exact F.fin L I.len I.old (fun j hj => I.full g hj hi)
  obtain ⟨t,q',hl,hmem,hF⟩:=F.take L q hq (by omega)
  obtain ⟨t',rfl,hrt,hlt⟩:=I.inq t ((hmem t).2 (.inl rfl))
  refine hF ?_
  refine flood3 g hi F t' hrt 4 0 L q' (by omega) (by omega) (by omega) hlt ⟨I.len,I.old,fun y hy => I.inq y ((hmem y).2 (.inr hy)),fun j hj hl' => ?_,I.src⟩ (fun s' hs' => by omega) (fun L' q'' hm' I' => ih L' q'' (by omega) (by omega) I')
  rcases I.cls j hj hl' with h | h | h
  ·rcases (hmem _).1 h with h | h
   ·exact .inr (.inl (by omega))
   ·exact .inl h
  ·exact absurd (hj.lt g hi) (by omega)
  ·exact .inr (.inr h)
end
section
variable {n : Nat} {mt : Nat → Int → Int} {wt : Nat → Bool}
open Classical in
noncomputable def lab (n : Nat) (mt : Nat → Int → Int) (wt : Nat → Bool) (i j : Nat) : Int := if wt j = true ∧ low n mt j < i then (low n mt j : Int) else -1
noncomputable def parts (n : Nat) (mt : Nat → Int → Int) (wt : Nat → Bool) : List Int := (List.range n).map fun j => lab n mt wt n j
theorem parts_len (n : Nat) (mt : Nat → Int → Int) (wt : Nat → Bool) : (parts n mt wt).length = n := by unfold parts; simp
theorem parts_at {j : Nat} (hj : j < n) : (parts n mt wt).getD j 0 = lab n mt wt n j := by
 unfold parts
 simp [hj]
theorem lab_skip (g : Net n mt wt) {i : Nat} (h : ¬ wt i = true ∨ low n mt i < i) (j : Nat) : lab n mt wt (i + 1) j = lab n mt wt i j := by
 unfold lab
 by_cases hj : wt j = true ∧ low n mt j = i
 ·have hr:=reach_low g hj.2
  rcases h with h | h
  ·by_cases e : j = i
   ·subst e;exact absurd hj.1 h
   ·exact absurd ((hr.symm g).arm g e) h
  ·have:=low_eq g hr
   omega
 ·by_cases h0 : wt j = true ∧ low n mt j < i
  ·rw [if_pos h0,if_pos ⟨h0.1,by omega⟩]
  ·rw [if_neg h0,if_neg (fun h' => by
    by_cases e : low n mt j = i
    ·exact hj ⟨h'.1,e⟩
    ·exact h0 ⟨h'.1,by omega⟩)]
theorem lab_low (g : Net n mt wt) {i j : Nat} (hi : low n mt i = i) (h : Reach n mt i j) : lab n mt wt i j = -1 := by
 unfold lab
 rw [if_neg]
 have:=low_eq g h
 omega
theorem lab_next (g : Net n mt wt) {i j : Nat} (ha : wt i = true) (hi : low n mt i = i) (h : Reach n mt i j) : lab n mt wt (i + 1) j = (i : Int) := by
 have:=low_eq g h
 have hne : wt j = true:=by
  by_cases e : i = j
  ·subst e;exact ha
  ·exact h.arm g e
 unfold lab
 rw [if_pos ⟨hne,by omega⟩,← this,hi]
theorem lab_else (g : Net n mt wt) {i j : Nat} (h : ¬ Reach n mt i j) : lab n mt wt (i + 1) j = lab n mt wt i j := by
 unfold lab
 have hn : low n mt j ≠ i:=fun e => h (reach_low g e)
 by_cases h0 : wt j = true ∧ low n mt j < i
 ·rw [if_pos h0,if_pos ⟨h0.1,by omega⟩]
 ·rw [if_neg h0,if_neg (fun h' => h0 ⟨h'.1,by omega⟩)]
open Classical in
noncomputable def rlab (n : Nat) (mt : Nat → Int → Int) (wt : Nat → Bool) (i j : Nat) : Int := if ¬ wt j = true then -1 else if low n mt j < i then (low n mt j : Int) else (j : Int)
theorem rlab_skip (g : Net n mt wt) {i : Nat} (h : ¬ wt i = true ∨ low n mt i < i) (j : Nat) : rlab n mt wt (i + 1) j = rlab n mt wt i j := by
 unfold rlab
 by_cases a0 : ¬ wt j = true
 ·rw [if_pos a0,if_pos a0]
 rw [if_neg a0,if_neg a0]
 by_cases hj : low n mt j = i
 ·have hr:=reach_low g hj
  rcases h with h | h
  ·by_cases e : j = i
   ·subst e;exact absurd h a0
   ·exact absurd ((hr.symm g).arm g e) h
  ·have:=low_eq g hr
   omega
 ·by_cases h0 : low n mt j < i
  ·rw [if_pos h0,if_pos (by omega)]
  ·rw [if_neg h0,if_neg (by omega)]
theorem rlab_low (g : Net n mt wt) {i j : Nat} (ha : wt i = true) (hi : low n mt i = i) (h : Reach n mt i j) : rlab n mt wt i j = (j : Int) := by
 have:=low_eq g h
 have hne : ¬ ¬ wt j = true:=by
  by_cases e : i = j
  ·subst e;exact fun q => q ha
  ·exact fun q => q (h.arm g e)
 unfold rlab
 rw [if_neg hne,if_neg (by omega)]
theorem rlab_next (g : Net n mt wt) {i j : Nat} (ha : wt i = true) (hi : low n mt i = i) (h : Reach n mt i j) : rlab n mt wt (i + 1) j = (i : Int) := by
 have:=low_eq g h
 have hne : ¬ ¬ wt j = true:=by
  by_cases e : i = j
  ·subst e;exact fun q => q ha
  ·exact fun q => q (h.arm g e)
 unfold rlab
 rw [if_neg hne,if_pos (by omega),← this,hi]
theorem rlab_else (g : Net n mt wt) {i j : Nat} (h : ¬ Reach n mt i j) : rlab n mt wt (i + 1) j = rlab n mt wt i j := by
 unfold rlab
 have hn : low n mt j ≠ i:=fun e => h (reach_low g e)
 by_cases a0 : ¬ wt j = true
 ·rw [if_pos a0,if_pos a0]
 rw [if_neg a0,if_neg a0]
 by_cases h0 : low n mt j < i
 ·rw [if_pos h0,if_pos (by omega)]
 ·rw [if_neg h0,if_neg (by omega)]
theorem rlab_end {j : Nat} (hj : j < n) : rlab n mt wt n j = lab n mt wt n j := by
 unfold rlab lab
 have:=low_le n mt j
 by_cases a0 : ¬ wt j = true
 ·rw [if_pos a0,if_neg (fun h => a0 h.1)]
 ·rw [if_neg a0,if_pos (by omega),if_pos ⟨Classical.byContradiction a0,by omega⟩]
end
end Go.Proofs.Ytiencnnkphipoaa.Pure
