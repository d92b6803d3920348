/- Layer 17: streets, how far a goal is, right lanes, a truck that comes and one that leaves; the program and the reference. No conditions. -/
import Derived.Test.YthjmdpekcleihaaPx0
import Derived.Test.YthjmdpekcleihaaPx2
import Derived.Test.YthjmdpekcleihaaPx3
import Derived.Test.YthjmdpekcleihaaPx4
import Derived.Test.YthjmdpekcleihaaPx5
import Derived.Test.YthjmdpekcleihaaPx6
import Derived.Test.YthjmdpekcleihaaPx7
import Derived.Test.YthjmdpekcleihaaPx10
import Derived.Test.YthjmdpekcleihaaPx11
import Derived.Test.YthjmdpekcleihaaPx12
import Derived.Test.YthjmdpekcleihaaWWords
import Derived.Test.YthjmdpekcleihaaVOpen
namespace Go.Proofs.Ythjmdpekcleihaa.Pure
set_option linter.unusedVariables false
set_option linter.unusedSimpArgs false
open Go.RowKit Go.Proofs.YthjmdpekcleihaaW.PrintWords Go.Proofs.Ythjmdpekcleihaa.P Go.Proofs.Ythjmdpekcleihaa
theorem wrap_in {x:Int} (h0:-9223372036854775808 ≤ x) (h1:x ≤ 9223372036854775807):wrap64 x = x := by unfold wrap64; omega
theorem Ev.pos {α:Type} {c:Prop} [Decidable c] {a b:Nat → Option α} {r:α} (h:c) (k:Ev a r):Ev (fun n => if c then a n else b n) r := by
 obtain ⟨K,k⟩:=k
 exact ⟨K,fun n hn=>by show (if c then a n else b n) = some r;rw [if_pos h];exact k n hn⟩
theorem Ev.neg {α:Type} {c:Prop} [Decidable c] {a b:Nat → Option α} {r:α} (h:¬ c) (k:Ev b r):Ev (fun n => if c then a n else b n) r := by
 obtain ⟨K,k⟩:=k
 exact ⟨K,fun n hn=>by show (if c then a n else b n) = some r;rw [if_neg h];exact k n hn⟩
theorem Ev.both {α:Type} {c:Prop} [Decidable c] {a b:Nat → Option α} {r s:α} (ha:c → Ev a r) (hb:¬ c → Ev b s):Ev (fun n => if c then a n else b n) (if c then r else s) := by
 by_cases h:c
 ·rw [if_pos h];exact Ev.pos h (ha h)
 ·rw [if_neg h];exact Ev.neg h (hb h)
theorem Ev.bindc {α β:Type} {o:Option α} {f:Nat → α → Option β} {a:α} {r:β} (h:o = some a) (k:Ev (fun n => f n a) r):Ev (fun n => o.bind (f n)) r := by
 subst h
 exact k
theorem Ev.eq {α:Type} {g:Nat → Option α} {r s:α} (h:Ev g r) (e:r = s):Ev g s := e ▸ h
theorem Ev.scan_all {β:Type} {g:Nat → Int → Option β} {n:Nat} {p:Nat → Prop} {fin:β} (hend:Ev (fun k => g k (n:Int)) fin)
  (hgood:∀ i,i < n → p i → ∀ r,Ev (fun k=>g k ((i:Int) + 1)) r → Ev (fun k=>g k (i:Int)) r) :
  ∀ d i,i + d = n → (∀ j,i ≤ j → j < n → p j) → Ev (fun k=>g k (i:Int)) fin
 | 0,i,h,_=>by
  obtain rfl:i = n:=by omega
  exact hend
 | d + 1,i,h,hp=>by
  have ih:=Ev.scan_all hend hgood d (i + 1) (by omega) (fun j h1 h2=>hp j (by omega) h2)
  exact hgood i (by omega) (hp i (by omega) (by omega)) _ (by simpa using ih)
theorem Ev.scan_some {β:Type} {g:Nat → Int → Option β} {n:Nat} {p:Nat → Prop} {bad:β}
  (hgood:∀ i,i < n → p i → ∀ r,Ev (fun k=>g k ((i:Int) + 1)) r → Ev (fun k=>g k (i:Int)) r)
  (hbad:∀ i,i < n → ¬ p i → Ev (fun k=>g k (i:Int)) bad) :
  ∀ d i,i + d = n → (∃ j,i ≤ j ∧ j < n ∧ ¬ p j) → Ev (fun k=>g k (i:Int)) bad
 | 0,i,h,⟨j,h1,h2,_⟩=>by omega
 | d + 1,i,h,⟨j,h1,h2,h3⟩=>by
  by_cases hp:p i
  ·have hij:i ≠ j:=fun e=>h3 (e ▸ hp)
   have ih:=Ev.scan_some hgood hbad d (i + 1) (by omega) ⟨j,by omega,h2,h3⟩
   exact hgood i (by omega) hp _ (by simpa using ih)
  ·exact hbad i (by omega) hp
theorem Ev.rounds {α:Type} {g:Nat → Option α} {r:α} (h:Ev g r):∃ k,g k = some r := by
 obtain ⟨K,h⟩:=h
 exact ⟨K,h K (Nat.le_refl _)⟩
theorem rdN (l:List Int) (i:Nat):rd l (i:Int) = l.getD i 0 := by unfold rd; simp
theorem not_all {p:Nat → Prop} {n:Nat} (h:¬ ∀ j,0 ≤ j → j < n → p j):∃ j,0 ≤ j ∧ j < n ∧ ¬ p j := by
 apply Classical.byContradiction
 intro hc
 exact h fun j h1 h2=>Classical.byContradiction fun h3=>hc ⟨j,h1,h2,h3⟩
def Shape (W H : Int) (A Y : List Int) : Prop := (4 ≤ W ∧ W ≤ 32) ∧ (4 ≤ H ∧ H ≤ 32) ∧ (A.length : Int) = W * H ∧ (Y.length : Int) = W * H
def ArmAt (A : List Int) (j : Nat) : Prop := 0 ≤ A.getD j 0 ∧ A.getD j 0 ≤ 15
def WayAt (Y : List Int) (j : Nat) : Prop := 0 ≤ Y.getD j 0 ∧ Y.getD j 0 ≤ 2
def OneAt (A Y : List Int) (j : Nat) : Prop := Y.getD j 0 = 0 ∨ A.getD j 0 = 5 ∨ A.getD j 0 = 10
def Arms (A : List Int) : Prop := ∀ j, 0 ≤ j → j < A.length → ArmAt A j
def Wayz (Y : List Int) : Prop := ∀ j, 0 ≤ j → j < Y.length → WayAt Y j
def Ones (A Y : List Int) : Prop := ∀ j, 0 ≤ j → j < Y.length → OneAt A Y j
open Classical in
noncomputable def vcode (W H : Int) (A Y : List Int) : Int := if Shape W H A Y then (if Arms A ∧ Wayz Y then (if Ones A Y then 0 else 9) else 1) else 1
theorem vcode_zero {W H:Int} {A Y:List Int}:vcode W H A Y = 0 ↔ Shape W H A Y ∧ Arms A ∧ Wayz Y ∧ Ones A Y := by
 unfold vcode
 by_cases h1:Shape W H A Y
 ·by_cases h2:Arms A ∧ Wayz Y
  ·by_cases h3:Ones A Y
   ·simp [h1,h2,h3]
   ·simp [h1,h2,h3]
  ·rw [if_pos h1,if_neg h2];exact ⟨fun h=>absurd h (by decide),fun h=>absurd ⟨h.2.1,h.2.2.1⟩ h2⟩
 ·simp [h1]
theorem area {W H:Int} (hW:4 ≤ W ∧ W ≤ 32) (hH:4 ≤ H ∧ H ≤ 32):16 ≤ W * H ∧ W * H ≤ 1024 := by
 constructor
 ·have:=Int.mul_le_mul hW.1 hH.1 (by decide) (by omega);omega
 ·have:=Int.mul_le_mul hW.2 hH.2 (by omega) (by decide);omega
section
variable {W H : Int} {A Y : List Int}
theorem validate_ev (hA:A.length ≤ 4000) (hY:Y.length ≤ 4000):Ev (fun k => road_Validate.f k W H A Y) (vcode W H A Y) := by
 unfold road_Validate.f
 have bad:¬ Shape W H A Y → ∀ q,q = true → Ev (fun k=>road_Validate.j0 k q W H A Y) (vcode W H A Y):=by
  intro h q hq
  refine Ev.eq (Ev.step (fun k=>by simp only [road_Validate.j0];rfl) (Ev.pos hq (Ev.now _))) (if_neg h).symm
 by_cases w0:W < 4
 ·exact Ev.pos w0 (bad (fun h=>by have:=h.1;omega) _ rfl)
 refine Ev.neg w0 ?_
 by_cases w1:W > 32
 ·exact Ev.pos w1 (bad (fun h=>by have:=h.1;omega) _ rfl)
 refine Ev.neg w1 ?_
 by_cases h0:H < 4
 ·exact Ev.pos h0 (bad (fun h=>by have:=h.2.1;omega) _ rfl)
 refine Ev.neg h0 ?_
 by_cases h1:H > 32
 ·exact Ev.pos h1 (bad (fun h=>by have:=h.2.1;omega) _ rfl)
 refine Ev.neg h1 ?_
 have ha:=area (W:=W) (H:=H) ⟨by omega,by omega⟩ ⟨by omega,by omega⟩
 rw [wrap_in (x:=W * H) (by omega) (by omega)]
 by_cases l1:(A.length:Int) = W * H
 rotate_left
 ·exact Ev.neg l1 (bad (fun h=>l1 h.2.2.1) _ rfl)
 refine Ev.pos l1 ?_
 by_cases l2:(Y.length:Int) = W * H
 rotate_left
 ·exact bad (fun h=>l2 h.2.2.2) _ (bne_iff_ne.2 l2)
 have hs:Shape W H A Y:=⟨⟨by omega,by omega⟩,⟨by omega,by omega⟩,l1,l2⟩
 refine Ev.eq ?_ (if_pos hs).symm
 rw [show ((Y.length:Int) != W * H) = false from bne_eq_false_iff_eq.2 l2]
 refine Ev.step (fun k=>by simp only [road_Validate.j0];rfl) (Ev.neg (by simp) ?_)
 have end1:∀ r,Ev (fun k=>road_Validate.l1 k Y (Y.length:Int) (0:Int) W H A Y) r → Ev (fun k=>road_Validate.l0 k (A.length:Int) ((A.length:Nat):Int) W H A Y) r:=by
  intro r hr
  exact Ev.step (fun k=>by simp only [road_Validate.l0];rfl) (Ev.neg (by omega) hr)
 have good1:∀ i,i < A.length → (ArmAt A i ∧ WayAt Y i) → ∀ r,Ev (fun k=>road_Validate.l0 k (A.length:Int) ((i:Int) + 1) W H A Y) r → Ev (fun k=>road_Validate.l0 k (A.length:Int) (i:Int) W H A Y) r:=by
  intro i hi ⟨p1,p2⟩ r hr
  unfold ArmAt at p1
  unfold WayAt at p2
  refine Ev.step (fun k=>by simp only [road_Validate.l0];rfl) ?_
  rw [rdN,rdN,wrap_in (x:=(i:Int) + 1) (by omega) (by omega)]
  exact Ev.pos (by omega) (Ev.pos (by omega) (Ev.pos (by omega) (Ev.neg (by omega) (Ev.neg (by omega) (Ev.pos (by omega) (Ev.neg (by omega) (Ev.neg (by omega) hr)))))))
 have bad1:∀ i,i < A.length → ¬ (ArmAt A i ∧ WayAt Y i) → Ev (fun k=>road_Validate.l0 k (A.length:Int) (i:Int) W H A Y) 1:=by
  intro i hi hp
  unfold ArmAt WayAt at hp
  refine Ev.step (fun k=>by simp only [road_Validate.l0];rfl) ?_
  rw [rdN,rdN]
  refine Ev.pos (by omega) (Ev.pos (by omega) (Ev.pos (by omega) ?_))
  by_cases q1:A.getD i 0 < 0
  ·exact Ev.pos q1 (Ev.now _)
  refine Ev.neg q1 ?_
  by_cases q2:A.getD i 0 > 15
  ·exact Ev.pos q2 (Ev.now _)
  refine Ev.neg q2 (Ev.pos (by omega) ?_)
  by_cases q3:Y.getD i 0 < 0
  ·exact Ev.pos q3 (Ev.now _)
  exact Ev.neg q3 (Ev.pos (by omega) (Ev.now _))
 have good2:∀ i,i < Y.length → OneAt A Y i → ∀ r,Ev (fun k=>road_Validate.l1 k Y (Y.length:Int) ((i:Int) + 1) W H A Y) r → Ev (fun k=>road_Validate.l1 k Y (Y.length:Int) (i:Int) W H A Y) r:=by
  intro i hi p r hr
  unfold OneAt at p
  refine Ev.step (fun k=>by simp only [road_Validate.l1];rfl) ?_
  rw [rdN,rdN,wrap_in (x:=(i:Int) + 1) (by omega) (by omega)]
  refine Ev.pos (by omega) (Ev.pos (by omega) (Ev.pos (by omega) ?_))
  by_cases q1:Y.getD i 0 = 0
  ·exact Ev.pos q1 hr
  refine Ev.neg q1 (Ev.pos (by omega) ?_)
  by_cases q2:A.getD i 0 = 5
  ·exact Ev.pos q2 hr
  exact Ev.neg q2 (Ev.pos (by omega) hr)
 have bad2:∀ i,i < Y.length → ¬ OneAt A Y i → Ev (fun k=>road_Validate.l1 k Y (Y.length:Int) (i:Int) W H A Y) 9:=by
  intro i hi p
  unfold OneAt at p
  refine Ev.step (fun k=>by simp only [road_Validate.l1];rfl) ?_
  rw [rdN,rdN]
  exact Ev.pos (by omega) (Ev.pos (by omega) (Ev.pos (by omega) (Ev.neg (by omega) (Ev.pos (by omega) (Ev.neg (by omega) (Ev.neg (by omega) (Ev.now _)))))))
 have end2:Ev (fun k=>road_Validate.l1 k Y (Y.length:Int) ((Y.length:Nat):Int) W H A Y) 0 :=
  Ev.step (fun k=>by simp only [road_Validate.l1];rfl) (Ev.neg (by omega) (Ev.now _))
 by_cases g1:Arms A ∧ Wayz Y
 ·refine Ev.eq ?_ (if_pos g1).symm
  refine Ev.scan_all (g:=fun k i=>road_Validate.l0 k (A.length:Int) i W H A Y) (end1 _ ?_) good1 A.length 0 (by omega) (fun j h1 h2=>⟨g1.1 j h1 h2,g1.2 j h1 (by omega)⟩)
  by_cases g2:Ones A Y
  ·exact Ev.eq (Ev.scan_all (g:=fun k i=>road_Validate.l1 k Y (Y.length:Int) i W H A Y) end2 good2 Y.length 0 (by omega) g2) (if_pos g2).symm
  ·exact Ev.eq (Ev.scan_some (g:=fun k i=>road_Validate.l1 k Y (Y.length:Int) i W H A Y) good2 bad2 Y.length 0 (by omega) (not_all g2)) (if_neg g2).symm
 ·refine Ev.eq (Ev.scan_some (g:=fun k i=>road_Validate.l0 k (A.length:Int) i W H A Y) good1 bad1 A.length 0 (by omega) (not_all fun h=>g1 ⟨fun j h1 h2=>(h j h1 h2).1,fun j h1 h2=>(h j h1 (by omega)).2⟩)) (if_neg g1).symm
end
def bey (W H t s : Int) : Int :=
 if s = 0 then (if t % W + 1 < W then t + 1 else -1)
 else if s = 1 then (if t / W + 1 < H then t + W else -1)
 else if s = 2 then (if 0 < t % W then t - 1 else -1)
 else (if 0 < t / W then t - W else -1)
structure On (W H t : Int) : Prop where
 hW:4 ≤ W ∧ W ≤ 32
 hH:4 ≤ H ∧ H ≤ 32
 ht:0 ≤ t ∧ t < W * H
section
variable {W H t s : Int}
theorem On.xy (h:On W H t):(0 ≤ t % W ∧ t % W < W) ∧ (0 ≤ t / W ∧ t / W < H) ∧ t / W * W + t % W = t ∧ 16 ≤ W * H ∧ W * H ≤ 1024 := by
 have hW:=h.hW
 have ht:=h.ht
 have ha:=area h.hW h.hH
 have h1:=Int.emod_nonneg t (show W ≠ 0 by omega)
 have h2:=Int.emod_lt_of_pos t (show 0 < W by omega)
 have h3:0 ≤ t / W:=Int.ediv_nonneg (by omega) (by omega)
 have h4:t / W < H:=Int.ediv_lt_of_lt_mul (by omega) (by rw [Int.mul_comm];omega)
 have h5:t / W * W + t % W = t:=by rw [Int.mul_comm];exact Int.mul_ediv_add_emod t W
 exact ⟨⟨h1,h2⟩,⟨h3,h4⟩,h5,ha⟩
theorem bey_at (h:On W H t) (s:Int):bey W H t s = -1 ∨ (0 ≤ bey W H t s ∧ bey W H t s < W * H) := by
 obtain ⟨⟨x0,x1⟩,⟨y0,y1⟩,e,a0,a1⟩:=h.xy
 have hW:=h.hW
 have hH:=h.hH
 have ht:=h.ht
 have m1:t / W * W ≤ (H - 1) * W:=Int.mul_le_mul_of_nonneg_right (by omega) (by omega)
 have m2:(H - 1) * W = W * H - W:=by rw [Int.sub_mul,Int.mul_comm H W];omega
 unfold bey
 by_cases s0:s = 0
 ·rw [if_pos s0]
  by_cases c:t % W + 1 < W
  ·rw [if_pos c];exact .inr ⟨by omega,by omega⟩
  ·rw [if_neg c];exact .inl rfl
 rw [if_neg s0]
 by_cases s1:s = 1
 ·rw [if_pos s1]
  by_cases c:t / W + 1 < H
  ·rw [if_pos c]
   have m3:(t / W + 1) * W ≤ (H - 1) * W:=Int.mul_le_mul_of_nonneg_right (by omega) (by omega)
   have m4:(t / W + 1) * W = t / W * W + W:=by rw [Int.add_mul];omega
   exact .inr ⟨by omega,by omega⟩
  ·rw [if_neg c];exact .inl rfl
 rw [if_neg s1]
 by_cases s2:s = 2
 ·rw [if_pos s2]
  by_cases c:0 < t % W
  ·rw [if_pos c];
   have m5:0 ≤ t / W * W:=Int.mul_nonneg y0 (by omega)
   exact .inr ⟨by omega,by omega⟩
  ·rw [if_neg c];exact .inl rfl
 rw [if_neg s2]
 by_cases c:0 < t / W
 ·rw [if_pos c]
  have m6:1 * W ≤ t / W * W:=Int.mul_le_mul_of_nonneg_right (by omega) (by omega)
  exact .inr ⟨by omega,by omega⟩
 ·rw [if_neg c];exact .inl rfl
theorem tdm (h:On W H t):Int.tmod t W = t % W ∧ Int.tdiv t W = t / W :=
 ⟨Int.tmod_eq_emod_of_nonneg h.ht.1,Int.tdiv_eq_ediv_of_nonneg h.ht.1⟩
def opp (s : Int) : Int := Int.tmod (wrap64 (s + 2)) 4
theorem opp_at (hs:0 ≤ s ∧ s ≤ 3):(0 ≤ opp s ∧ opp s ≤ 3) ∧ opp (opp s) = s := by
 rcases (by omega:s = 0 ∨ s = 1 ∨ s = 2 ∨ s = 3) with h | h | h | h <;> subst h <;> decide +kernel
end
def has (a s : Int) : Bool := Go.bits .and .i64 (shr .i64 a s) 1 == 1
def meets (W H : Int) (A : List Int) (t s : Int) : Int := if 0 ≤ bey W H t s ∧ has (rd A t) s = true ∧ has (rd A (bey W H t s)) (opp s) = true then bey W H t s else -1
structure Good (W H : Int) (A Y : List Int) : Prop where
 hW:4 ≤ W ∧ W ≤ 32
 hH:4 ≤ H ∧ H ≤ 32
 hA:(A.length:Int) = W * H
 hY:(Y.length:Int) = W * H
 arms:Arms A
 ways:Wayz Y
 ones:Ones A Y
theorem good_of {W H:Int} {A Y:List Int} (h:vcode W H A Y = 0):Good W H A Y := by
 have h:=vcode_zero.1 h
 exact ⟨h.1.1,h.1.2.1,h.1.2.2.1,h.1.2.2.2,h.2.1,h.2.2.1,h.2.2.2⟩
section
variable {W H t s : Int} {A Y : List Int}
theorem Good.on (h:Good W H A Y) (ht:0 ≤ t ∧ t < W * H):On W H t := ⟨h.hW,h.hH,ht⟩
theorem Good.arm (h:Good W H A Y) (ht:0 ≤ t ∧ t < W * H):0 ≤ rd A t ∧ rd A t ≤ 15 := h.arms t.toNat (by omega) (by have := h.hA; omega)
theorem meets_at (h:Good W H A Y) (ht:0 ≤ t ∧ t < W * H) (s:Int):meets W H A t s = -1 ∨ (0 ≤ meets W H A t s ∧ meets W H A t s < W * H ∧ meets W H A t s = bey W H t s) := by
 unfold meets
 have hb:=bey_at (h.on ht) s
 by_cases c:0 ≤ bey W H t s ∧ has (rd A t) s = true ∧ has (rd A (bey W H t s)) (opp s) = true
 ·rw [if_pos c];exact .inr ⟨by omega,by omega,rfl⟩
 ·rw [if_neg c];exact .inl rfl
def lets (w s : Int) : Bool := decide (w = 0 ∨ (w = 1 ∧ s < 2) ∨ (w = 2 ∧ s ≥ 2))
def may (W H : Int) (A Y : List Int) (t s : Int) : Bool := decide (0 ≤ meets W H A t s) && lets (rd Y t) s && lets (rd Y (bey W H t s)) s
def sel (W H : Int) (A Y : List Int) (t f : Int) : Nat → List Int
 | 0=>[]
 | i + 1=>if (i:Int) = f then sel W H A Y t f i else if may W H A Y t i = true then sel W H A Y t f i ++ [(i:Int)] else sel W H A Y t f i
def outs (W H : Int) (A Y : List Int) (t f : Int) : List Int := if sel W H A Y t f 4 = [] ∧ 0 ≤ f ∧ may W H A Y t f = true then [f] else sel W H A Y t f 4
theorem sel_len (f:Int):∀ i,(sel W H A Y t f i).length ≤ i
 | 0=>Nat.le_refl _
 | i + 1=>by
  have ih:=sel_len f i
  unfold sel
  repeat' split
  all_goals first | omega | (simp;omega)
theorem sel_mem (f:Int):∀ i x,x ∈ sel W H A Y t f i → (0 ≤ x ∧ x < i) ∧ may W H A Y t x = true
 | 0,x,h=>by simp [sel] at h
 | i + 1,x,h=>by
  have ih:=sel_mem f i x
  unfold sel at h
  split at h
  ·have:=ih h;exact ⟨by omega,this.2⟩
  ·split at h
   ·rcases List.mem_append.1 h with h | h
    ·have:=ih h;exact ⟨by omega,this.2⟩
    ·obtain rfl:=List.mem_singleton.1 h
     exact ⟨by omega,by assumption⟩
   ·have:=ih h;exact ⟨by omega,this.2⟩
theorem outs_mem {f x:Int} (hf:f ≤ 3) (hx:x ∈ outs W H A Y t f):(0 ≤ x ∧ x ≤ 3) ∧ may W H A Y t x = true := by
 unfold outs at hx
 split at hx
 ·rename_i c
  obtain rfl:=List.mem_singleton.1 hx
  exact ⟨⟨c.2.1,hf⟩,c.2.2⟩
 ·have:=sel_mem f 4 x hx
  exact ⟨by omega,this.2⟩
theorem outs_len (f:Int):(outs W H A Y t f).length ≤ 4 := by
 unfold outs
 split
 ·simp
 ·exact sel_len f 4
end
section
variable {W H t s : Int} {A Y : List Int}
theorem within_eq (a b:Int):lane_within.f a b = some (decide (0 ≤ a ∧ a ≤ b)) := by
 unfold lane_within.f
 by_cases h:a ≥ 0
 ·rw [if_pos h];congr 1;apply decide_eq_decide.2;omega
 ·rw [if_neg h];congr 1;symm;apply decide_eq_false;omega
def bside (W t s : Int) : Int := if s = 0 then t + 1 else if s = 1 then t + W else if s = 2 then t - 1 else t - W
theorem bside_bey (h:0 ≤ bey W H t s):bside W t s = bey W H t s := by
 unfold bside
 unfold bey at h ⊢
 repeat' split
 all_goals first | rfl | (simp_all;done) | omega
theorem beside_eq (h:On W H t) (hs:0 ≤ s ∧ s ≤ 3):lane_beside.f W H t s = some (bside W t s,decide (0 ≤ bey W H t s)) := by
 obtain ⟨⟨x0,x1⟩,⟨y0,y1⟩,e,a0,a1⟩:=h.xy
 have hW:=h.hW
 have hH:=h.hH
 have ht:=h.ht
 have m5:0 ≤ t / W * W:=Int.mul_nonneg y0 (by omega)
 have m4:(t / W + 1) * W = t / W * W + W:=by rw [Int.add_mul];omega
 have m7:(t / W - 1) * W = t / W * W - W:=by rw [Int.sub_mul];omega
 have m6:1 ≤ t / W → W ≤ t / W * W:=fun h=>by
  have:=Int.mul_le_mul_of_nonneg_right h (show 0 ≤ W by omega)
  omega
 unfold lane_beside.f bside bey
 rw [(tdm h).1,(tdm h).2,wrap_in (x:=t % W + 1) (by omega) (by omega),wrap_in (x:=t % W - 1) (by omega) (by omega),wrap_in (x:=t / W) (by omega) (by omega),wrap_in (x:=t / W + 1) (by omega) (by omega),wrap_in (x:=t / W - 1) (by omega) (by omega),m4,m7,wrap_in (x:=t / W * W) (by omega) (by omega),wrap_in (x:=t / W * W + W) (by omega) (by omega),wrap_in (x:=t / W * W - W) (by omega) (by omega),wrap_in (x:=t / W * W + (t % W + 1)) (by omega) (by omega),wrap_in (x:=t / W * W + (t % W - 1)) (by omega) (by omega),wrap_in (x:=t / W * W + W + t % W) (by omega) (by omega),wrap_in (x:=t / W * W - W + t % W) (by omega) (by omega),if_neg (by omega)]
 have fin:∀ (x y:Int) (p q:Bool),x = y → p = q → (some (x,p):Option (Int × Bool)) = some (y,q):=fun x y p q h1 h2=>by rw [h1,h2]
 rcases (by omega:s = 0 ∨ s = 1 ∨ s = 2 ∨ s = 3) with c | c | c | c
 ·subst c
  simp only [if_pos]
  rw [if_pos (by omega)]
  by_cases c1:t % W + 1 < W
  ·rw [if_pos c1,if_pos (by omega),if_pos c1]
   exact fin _ _ _ _ (by omega) (by rw [decide_eq_true (by omega),decide_eq_true (by omega)])
  ·rw [if_neg c1,if_neg c1]
   exact fin _ _ _ _ (by omega) (by decide)
 ·subst c
  simp only [if_neg (show ¬ (1:Int) = 0 by decide),if_pos]
  rw [if_pos (by omega),if_pos (by omega),if_pos (by omega)]
  by_cases c1:t / W + 1 < H
  ·rw [if_pos c1]
   exact fin _ _ _ _ (by omega) (by rw [decide_eq_true (by omega),decide_eq_true (by omega)])
  ·rw [if_neg c1]
   exact fin _ _ _ _ (by omega) (by rw [decide_eq_false (by omega)];decide)
 ·subst c
  simp only [if_neg (show ¬ (2:Int) = 0 by decide),if_neg (show ¬ (2:Int) = 1 by decide),if_pos]
  by_cases c1:0 < t % W
  ·rw [if_pos (by omega),if_pos (by omega),if_pos (by omega),if_pos c1]
   exact fin _ _ _ _ (by omega) (by rw [decide_eq_true (by omega),decide_eq_true (by omega)])
  ·rw [if_neg (by omega),if_neg c1]
   exact fin _ _ _ _ (by omega) (by decide)
 ·subst c
  simp only [if_neg (show ¬ (3:Int) = 0 by decide),if_neg (show ¬ (3:Int) = 1 by decide),if_neg (show ¬ (3:Int) = 2 by decide)]
  rw [if_pos (by omega),if_pos (by omega)]
  by_cases c1:0 < t / W
  ·have:=m6 (by omega)
   rw [if_pos (by omega),if_pos c1]
   exact fin _ _ _ _ (by omega) (by rw [decide_eq_true (by omega),decide_eq_true (by omega)])
  ·rw [if_neg (by omega),if_neg c1]
   exact fin _ _ _ _ (by omega) (by decide)
theorem joined_eq (h:Good W H A Y) (ht:0 ≤ t ∧ t < W * H) (hs:0 ≤ s ∧ s ≤ 3):lane_joined.f W H A Y t s = some (bside W t s,decide (0 ≤ meets W H A t s)) := by
 unfold lane_joined.f
 rw [beside_eq (h.on ht) hs,Option.bind_some]
 have hb:=bey_at (h.on ht) s
 have hA:=h.hA
 have ho:=(opp_at hs).1
 unfold meets
 dsimp only
 by_cases c0:0 ≤ bey W H t s
 rotate_left
 ·rw [if_neg (by simpa using c0),if_neg (by omega)];rfl
 rw [if_pos (decide_eq_true c0),if_pos ht.1,if_pos (by omega),if_pos hs.1,bside_bey c0]
 by_cases c1:has (rd A t) s = true
 rotate_left
 ·rw [if_neg (fun h=>c1 (beq_iff_eq.2 h)),if_neg (fun h=>c1 h.2.1)];rfl
 rw [if_pos (beq_iff_eq.1 c1),if_pos c0,if_pos (by omega),if_pos (show 0 ≤ Int.tmod (wrap64 (s + 2)) 4 from ho.1)]
 show some (bey W H t s,has (rd A (bey W H t s)) (opp s)) = _
 by_cases c2:has (rd A (bey W H t s)) (opp s) = true
 ·rw [c2,if_pos ⟨c0,c1,rfl⟩,decide_eq_true c0]
 ·rw [if_neg (fun h=>c2 h.2.2),Bool.eq_false_iff.2 c2];rfl
theorem lets_eq {w:Int} (hw:0 ≤ w ∧ w ≤ 2) (s:Int):lane_lets.f w s = some (lets w s) := by
 unfold lane_lets.f lets
 rcases (by omega:w = 0 ∨ w = 1 ∨ w = 2) with e | e | e
 ·subst e;simp
 ·subst e;simp
 ·subst e
  simp
  by_cases c:s < 2
  ·first | (simp [c];done) | (simp [c];omega)
  ·first | (simp [c];done) | (simp [c];omega)
theorem Good.way (h:Good W H A Y) (ht:0 ≤ t ∧ t < W * H):0 ≤ rd Y t ∧ rd Y t ≤ 2 := h.ways t.toNat (by omega) (by have := h.hY; omega)
theorem may_eq (h:Good W H A Y) (ht:0 ≤ t ∧ t < W * H) (hs:0 ≤ s ∧ s ≤ 3):lane_may.f W H A Y t s = some (may W H A Y t s) := by
 unfold lane_may.f may
 rw [joined_eq h ht hs,Option.bind_some]
 have hY:=h.hY
 dsimp only
 by_cases c0:0 ≤ meets W H A t s
 rotate_left
 ·rw [decide_eq_false c0,if_neg (by simp)];rfl
 have hm:=meets_at h ht s
 have hb:0 ≤ bey W H t s:=by omega
 rw [decide_eq_true c0,if_pos rfl,if_pos ht.1,if_pos (by omega),lets_eq (h.way ht),Option.bind_some,bside_bey hb]
 by_cases c1:lets (rd Y t) s = true
 ·rw [if_pos c1,if_pos (by omega),if_pos (by omega),lets_eq (h.way ⟨by omega,by omega⟩),Option.bind_some,c1];simp
 ·rw [if_neg c1,Bool.eq_false_iff.2 c1];rfl
theorem leaves_ev (h:Good W H A Y) (ht:0 ≤ t ∧ t < W * H) {f:Int} (hf:f ≤ 3):Ev (fun k => lane_leaves.f k W H A Y t f) (outs W H A Y t f) := by
 unfold lane_leaves.f
 have go:∀ n i:Nat,i + n = 4 → Ev (fun k=>lane_leaves.l0 k t f (sel W H A Y t f i) (i:Int) W H A Y) (outs W H A Y t f):=by
  intro n
  induction n with
  | zero =>
   intro i hi
   obtain rfl:i = 4:=by omega
   refine Ev.step (fun k=>by simp only [lane_leaves.l0];rfl) (Ev.neg (by omega) ?_)
   unfold outs
   by_cases c:sel W H A Y t f 4 = []
   ·refine Ev.pos (by rw [c];rfl) ?_
    by_cases c0:f ≥ 0
    ·refine Ev.pos c0 (Ev.bindc (may_eq h ht ⟨c0,hf⟩) ?_)
     by_cases c1:may W H A Y t f = true
     ·refine Ev.eq (Ev.pos c1 (Ev.pos (by have:=sel_len (W:=W) (H:=H) (A:=A) (Y:=Y) (t:=t) f 4;omega) (Ev.now _))) ?_
      rw [if_pos ⟨c,c0,c1⟩,c];rfl
     ·exact Ev.eq (Ev.neg c1 (Ev.now _)) (if_neg (fun h=>c1 h.2.2)).symm
    ·exact Ev.eq (Ev.neg c0 (Ev.now _)) (if_neg (fun h=>c0 h.2.1)).symm
   ·exact Ev.eq (Ev.neg (by simpa using c) (Ev.now _)) (if_neg (fun h=>c h.1)).symm
  | succ n ih =>
   intro i hi
   have ih:=ih (i + 1) (by omega)
   rw [show ((i + 1:Nat):Int) = (i:Int) + 1 from by omega] at ih
   unfold sel at ih
   refine Ev.step (fun k=>by simp only [lane_leaves.l0];rfl) (Ev.pos (by omega) ?_)
   rw [wrap_in (x:=(i:Int) + 1) (by omega) (by omega)]
   by_cases c:(i:Int) = f
   ·rw [if_pos c] at ih
    exact Ev.pos c ih
   ·rw [if_neg c] at ih
    refine Ev.neg c (Ev.bindc (may_eq h ht ⟨by omega,by omega⟩) ?_)
    by_cases c1:may W H A Y t i = true
    ·rw [if_pos c1] at ih
     exact Ev.pos c1 (Ev.pos (by have:=sel_len (W:=W) (H:=H) (A:=A) (Y:=Y) (t:=t) f i;omega) ih)
    ·rw [if_neg c1] at ih
     exact Ev.neg c1 ih
 exact go 4 0 (by omega)
theorem may_at (h:Good W H A Y) (ht:0 ≤ t ∧ t < W * H) {x:Int} (hm:may W H A Y t x = true):0 ≤ bey W H t x ∧ bey W H t x < W * H := by
 unfold may at hm
 have hm2:0 ≤ meets W H A t x:=by
  simp only [Bool.and_eq_true,decide_eq_true_eq] at hm
  exact hm.1.1
 have:=meets_at h ht x
 omega
end
def cd (x : S116) : Nat := 4 * x.f0.toNat + x.f1.toNat
def OkX (W H : Int) (x : S116) : Prop := (0 ≤ x.f0 ∧ x.f0 < W * H) ∧ (0 ≤ x.f1 ∧ x.f1 ≤ 3)
theorem cd_inj {W H:Int} {x y:S116} (hx:OkX W H x) (hy:OkX W H y) (h:cd x = cd y):x = y := by
 obtain ⟨⟨a1,a2⟩,⟨a3,a4⟩⟩:=hx
 obtain ⟨⟨b1,b2⟩,⟨b3,b4⟩⟩:=hy
 unfold cd at h
 cases x with
 | mk x0 x1 =>
  cases y with
  | mk y0 y1 =>
   dsimp only at *
   obtain rfl:x0 = y0:=by omega
   obtain rfl:x1 = y1:=by omega
   rfl
def vis : List Bool → List S116 → List S116 → List Bool × List S116
 | M,T,[]=>(M,T)
 | M,T,x :: xs=>if M.getD (cd x) false = true then vis M T xs else vis (M.set (cd x) true) (T ++ [x]) xs
theorem vis_app:∀ (xs ys:List S116) (M:List Bool) (T:List S116),vis M T (xs ++ ys) = vis (vis M T xs).1 (vis M T xs).2 ys
 | [],ys,M,T=>rfl
 | x :: xs,ys,M,T=>by
  simp only [List.cons_append,vis]
  split
  ·exact vis_app xs ys M T
  ·exact vis_app xs ys _ _
theorem set_at (M:List Bool) (c d:Nat):(M.set c true).getD d false = if c = d ∧ d < M.length then true else M.getD d false := by
 rw [List.getD_eq_getElem?_getD,List.getElem?_set,List.getD_eq_getElem?_getD]
 by_cases h:c = d
 ·rw [if_pos h]
  by_cases h2:c < M.length
  ·rw [if_pos h2,if_pos ⟨h,by omega⟩];rfl
  ·rw [if_neg h2,if_neg (by omega),List.getElem?_eq_none (by omega)]
 ·rw [if_neg h,if_neg (fun hh=>h hh.1)]
theorem count_set:∀ (M:List Bool) (c:Nat),c < M.length → M.getD c false = false → (M.set c true).count false + 1 = M.count false
 | [],c,h,_=>by simp at h
 | b :: M,0,h,hb=>by
  have:b = false:=by simpa using hb
  subst this
  simp
 | b :: M,c + 1,h,hb=>by
  have ih:=count_set M c (by simpa using h) (by simpa using hb)
  simp only [List.set_cons_succ,List.count_cons]
  omega
theorem vis_len:∀ (xs:List S116) (M:List Bool) (T:List S116),(vis M T xs).1.length = M.length
 | [],M,T=>rfl
 | x :: xs,M,T=>by
  unfold vis
  split
  ·exact vis_len xs M T
  ·rw [vis_len xs];simp
section
variable {W H : Int}
theorem cd_lt {M:List Bool} {x:S116} (hM:(M.length:Int) = 4 * (W * H)) (h:OkX W H x):cd x < M.length := by
 obtain ⟨⟨a1,a2⟩,⟨a3,a4⟩⟩:=h
 unfold cd
 omega
theorem vis_count:∀ (xs:List S116) (M:List Bool) (T:List S116),(M.length:Int) = 4 * (W * H) → (∀ x ∈ xs,OkX W H x) → (vis M T xs).2.length + (vis M T xs).1.count false = T.length + M.count false
 | [],M,T,_,_=>rfl
 | x :: xs,M,T,hM,h=>by
  have hx:=h x (by simp)
  unfold vis
  by_cases c:M.getD (cd x) false = true
  ·rw [if_pos c];exact vis_count xs M T hM (fun y hy=>h y (by simp [hy]))
  ·rw [if_neg c,vis_count xs _ _ (by simpa using hM) (fun y hy=>h y (by simp [hy]))]
   have:=count_set M (cd x) (cd_lt hM hx) (by simpa using c)
   rw [List.length_append,List.length_singleton]
   omega
theorem vis_ok:∀ (xs:List S116) (M:List Bool) (T:List S116),(∀ x ∈ T,OkX W H x) → (∀ x ∈ xs,OkX W H x) → ∀ x ∈ (vis M T xs).2,OkX W H x
 | [],M,T,hT,_,x,hx=>hT x hx
 | y :: xs,M,T,hT,h,x,hx=>by
  unfold vis at hx
  split at hx
  ·exact vis_ok xs M T hT (fun z hz=>h z (by simp [hz])) x hx
  ·refine vis_ok xs _ _ (fun z hz=>?_) (fun z hz=>h z (by simp [hz])) x hx
   rcases List.mem_append.1 hz with hz | hz
   ·exact hT z hz
   ·rw [List.mem_singleton.1 hz];exact h y (by simp)
theorem vis_keeps:∀ (xs:List S116) (M:List Bool) (T:List S116) (x:S116),x ∈ T → x ∈ (vis M T xs).2
 | [],M,T,x,h=>h
 | y :: xs,M,T,x,h=>by
  unfold vis
  split
  ·exact vis_keeps xs M T x h
  ·exact vis_keeps xs _ _ x (by simp [h])
theorem vis_mem:∀ (xs:List S116) (M:List Bool) (T:List S116),(M.length:Int) = 4 * (W * H) → (∀ x ∈ xs,OkX W H x) → ∀ x ∈ xs,M.getD (cd x) false = true ∨ x ∈ (vis M T xs).2
 | [],M,T,_,_,x,hx=>by simp at hx
 | y :: xs,M,T,hM,h,x,hx=>by
  have hy:=h y (by simp)
  unfold vis
  by_cases c:M.getD (cd y) false = true
  ·rw [if_pos c]
   rcases List.mem_cons.1 hx with e | hx
   ·rw [e];exact .inl c
   ·exact vis_mem xs M T hM (fun z hz=>h z (by simp [hz])) x hx
  ·rw [if_neg c]
   rcases List.mem_cons.1 hx with e | hx
   ·exact .inr (vis_keeps xs _ _ x (by simp [e]))
   ·rcases vis_mem xs (M.set (cd y) true) (T ++ [y]) (by simpa using hM) (fun z hz=>h z (by simp [hz])) x hx with k | k
    ·rw [set_at] at k
     by_cases e:cd y = cd x ∧ cd x < M.length
     ·exact .inr (vis_keeps xs _ _ x (by rw [cd_inj hy (h x (by simp [hx])) e.1];simp))
     ·rw [if_neg e] at k;exact .inl k
    ·exact .inr k
theorem vis_from:∀ (xs:List S116) (M:List Bool) (T:List S116) (x:S116),x ∈ (vis M T xs).2 → x ∈ T ∨ x ∈ xs
 | [],M,T,x,h=>.inl h
 | y :: xs,M,T,x,h=>by
  unfold vis at h
  split at h
  ·rcases vis_from xs M T x h with k | k
   ·exact .inl k
   ·exact .inr (by simp [k])
  ·rcases vis_from xs _ _ x h with k | k
   ·rcases List.mem_append.1 k with k | k
    ·exact .inl k
    ·rw [List.mem_singleton.1 k];exact .inr (by simp)
   ·exact .inr (by simp [k])
theorem vis_marks:∀ (xs:List S116) (M:List Bool) (T:List S116) (d:Nat),(vis M T xs).1.getD d false = true → M.getD d false = true ∨ ∃ y ∈ xs,cd y = d
 | [],M,T,d,h=>.inl h
 | y :: xs,M,T,d,h=>by
  unfold vis at h
  split at h
  ·rcases vis_marks xs M T d h with k | ⟨z,k1,k2⟩
   ·exact .inl k
   ·exact .inr ⟨z,by simp [k1],k2⟩
  ·rcases vis_marks xs _ _ d h with k | ⟨z,k1,k2⟩
   ·rw [set_at] at k
    by_cases e:cd y = d ∧ d < M.length
    ·exact .inr ⟨y,by simp,e.1⟩
    ·rw [if_neg e] at k;exact .inl k
   ·exact .inr ⟨z,by simp [k1],k2⟩
end
section
variable (W H : Int) (A Y : List Int)
def tgs (t : Int) (s : List Int) : List S116 := s.map (fun y => ⟨bey W H t y, opp y⟩)
def tg : List S116 → List S116
 | []=>[]
 | x :: xs=>tgs W H x.f0 (outs W H A Y x.f0 x.f1) ++ tg xs
open Classical in
noncomputable def lv (g : Int) : Nat → List Bool → List S116 → Int → Int
 | 0,_,_,_=>-1
 | f + 1,M,q,n=>if q = [] then -1 else if ∃ x ∈ q,x.f0 = g then n else lv g f (vis M [] (tg W H A Y q)).1 (vis M [] (tg W H A Y q)).2 (n + 1)
noncomputable def farv (t s g : Int) : Int :=
 lv W H A Y g (4 * (W * H).toNat + 1) ((List.replicate (4 * (W * H).toNat) false).set (cd ⟨bey W H t s,opp s⟩) true) [⟨bey W H t s,opp s⟩] 1
end
section
variable {W H : Int} {A Y : List Int}
theorem tgs_ok {t:Int} {s:List Int} (h:Good W H A Y) (ht:0 ≤ t ∧ t < W * H) (hs:∀ y ∈ s,(0 ≤ y ∧ y ≤ 3) ∧ may W H A Y t y = true):∀ x ∈ tgs W H t s,OkX W H x := by
 intro x hx
 unfold tgs at hx
 obtain ⟨y,hy,rfl⟩:=List.mem_map.1 hx
 have hy:=hs y hy
 exact ⟨may_at h ht hy.2,(opp_at hy.1).1⟩
theorem tg_ok (h:Good W H A Y):∀ q:List S116,(∀ x ∈ q,OkX W H x) → ∀ x ∈ tg W H A Y q,OkX W H x
 | [],_,x,hx=>by simp [tg] at hx
 | y :: q,hq,x,hx=>by
  have hy:=hq y (by simp)
  unfold tg at hx
  rcases List.mem_append.1 hx with k | k
  ·exact tgs_ok h hy.1 (fun z hz=>outs_mem hy.2.2 hz) x k
  ·exact tg_ok h q (fun z hz=>hq z (by simp [hz])) x k
end
def Rel (W H : Int) (m : List (Int × Int)) (M : List Bool) : Prop := ∀ x, OkX W H x → mqHas (x.f0, x.f1) m = M.getD (cd x) false
section
variable {W H : Int} {A Y : List Int}
theorem vis_one (M:List Bool) (q:List S116) (x:S116) (xs:List S116):vis M q (x :: xs) = vis (vis M q [x]).1 (vis M q [x]).2 xs := vis_app [x] xs M q
theorem e_ok (h:Good W H A Y) {t y g:Int} (ht:0 ≤ t ∧ t < W * H) (hy:0 ≤ y ∧ y ≤ 3) (hb:0 ≤ bey W H t y ∧ bey W H t y < W * H) {m:List (Int × Int)} {M:List Bool} {q:List S116} (hM:(M.length:Int) = 4 * (W * H)) (hr:Rel W H m M) (hq:q.length ≤ 100000) :
  ∃ m',lane_far.e W H t y g m q = some (m',(vis M q [⟨bey W H t y,opp y⟩]).2,bey W H t y == g) ∧ Rel W H m' (vis M q [⟨bey W H t y,opp y⟩]).1:=by
 have hx:OkX W H ⟨bey W H t y,opp y⟩:=⟨hb,(opp_at hy).1⟩
 unfold lane_far.e
 rw [beside_eq (h.on ht) hy,Option.bind_some]
 dsimp only
 rw [bside_bey hb.1,show Int.tmod (wrap64 (y + 2)) 4 = opp y from rfl]
 have hh:=hr _ hx
 dsimp only at hh
 rw [hh]
 unfold vis
 by_cases c:M.getD (cd ⟨bey W H t y,opp y⟩) false = true
 ·rw [if_pos c,if_pos c]
  exact ⟨m,rfl,hr⟩
 ·rw [if_neg c,if_neg c,if_pos (by omega)]
  refine ⟨_,rfl,fun x hx'=>?_⟩
  unfold mqPut
  rw [hh,if_neg c]
  simp only [vis]
  rw [set_at]
  have hx2:=hr x hx'
  unfold mqHas at hx2 ⊢
  by_cases e:x = ⟨bey W H t y,opp y⟩
  ·rw [if_pos ⟨by rw [e],cd_lt hM hx'⟩,e];simp
  ·rw [if_neg (fun k=>e (cd_inj hx' hx k.1.symm)),← hx2]
   have:¬ ((x.f0,x.f1) = (bey W H t y,opp y)):=fun k=>by
    cases x with
    | mk a b =>
     simp only [Prod.mk.injEq] at k
     exact e (by rw [k.1,k.2])
   simp [this]
theorem dropN {α:Type} (l:List α) (j:Nat) (d:α) (h:j < l.length):l.drop j = l.getD j d :: l.drop (j + 1) := by
 rw [List.drop_eq_getElem_cons h,List.getD_eq_getElem?_getD,List.getElem?_eq_getElem h];rfl
theorem mem_at {α:Type} (l:List α) (j:Nat) (d:α) (h:j < l.length):l.getD j d ∈ l := by
 rw [List.getD_eq_getElem?_getD,List.getElem?_eq_getElem h]
 exact List.getElem_mem h
theorem rdX (l:List S116) (i:Nat):rd_T116 l (i:Int) = l.getD i z116 := by unfold rd_T116; simp
theorem far_l2 (h:Good W H A Y) {g n r:Int} {w:List S116} {i:Nat} {x:S116} (hi:rd_T116 w (i:Int) = x) (hx:OkX W H x) {s:List Int} (hs:∀ y ∈ s,(0 ≤ y ∧ y ≤ 3) ∧ may W H A Y x.f0 y = true) (hsl:s.length ≤ 4) :
  ∀ d j,j + d = s.length → ∀ m M q,Rel W H m M → (M.length:Int) = 4 * (W * H) → q.length + M.count false ≤ 4096 →
   ((∃ z ∈ tgs W H x.f0 (s.drop j),z.f0 = g) → r = n) →
   ((¬ ∃ z ∈ tgs W H x.f0 (s.drop j),z.f0 = g) → ∀ m',Rel W H m' (vis M q (tgs W H x.f0 (s.drop j))).1 → Ev (fun k=>lane_far.l1 k W H A Y g n w (wrap64 ((i:Int) + 1)) (vis M q (tgs W H x.f0 (s.drop j))).2 m') r) →
   Ev (fun k=>lane_far.l2 k W H A Y g n w (i:Int) s (j:Int) q m) r
 | 0,j,hj,m,M,q,hr,hM,hq,hy,hn=>by
  have e:s.drop j = []:=List.drop_of_length_le (by omega)
  rw [e] at hn
  exact Ev.step (fun k=>by simp only [lane_far.l2];rfl) (Ev.neg (by omega) (hn (by simp [tgs]) m hr))
 | d + 1,j,hj,m,M,q,hr,hM,hq,hy,hn=>by
  have hjl:j < s.length:=by omega
  have hsj:=hs _ (mem_at s j 0 hjl)
  have hb:=may_at h hx.1 hsj.2
  obtain ⟨m1,he,hr1⟩:=e_ok h (g:=g) (q:=q) hx.1 hsj.1 hb hM hr (by omega)
  have hc:=vis_count (W:=W) (H:=H) [⟨bey W H x.f0 (s.getD j 0),opp (s.getD j 0)⟩] M q hM (by intro z hz;rw [List.mem_singleton.1 hz];exact ⟨hb,(opp_at hsj.1).1⟩)
  rw [dropN s j 0 hjl] at hy hn
  simp only [tgs,List.map_cons] at hy hn
  rw [vis_one] at hn
  refine Ev.step (fun k=>by simp only [lane_far.l2];rfl) (Ev.pos (by omega) (Ev.pos (by omega) ?_))
  rw [hi,rdN]
  refine Ev.bindc he ?_
  by_cases c:bey W H x.f0 (s.getD j 0) = g
  ·rw [hy ⟨_,List.mem_cons_self,c⟩]
   exact Ev.pos (beq_iff_eq.2 c) (Ev.now _)
  ·refine Ev.neg (fun k=>c (beq_iff_eq.1 k)) ?_
   rw [wrap_in (x:=(j:Int) + 1) (by omega) (by omega),show (j:Int) + 1 = ((j + 1:Nat):Int) by omega]
   dsimp only
   refine far_l2 h hi hx hs hsl d (j + 1) (by omega) m1 _ _ hr1 (by rw [vis_len];exact hM) (by omega) (fun ⟨z,k1,k2⟩=>hy ⟨z,List.mem_cons_of_mem _ k1,k2⟩) (fun hnn=>hn ?_)
   rintro ⟨z,k1,k2⟩
   rcases List.mem_cons.1 k1 with k | k
   ·rw [k] at k2;exact c k2
   ·exact hnn ⟨z,k,k2⟩
theorem far_l1 (h:Good W H A Y) {g n r:Int} {w:List S116} (hw:∀ x ∈ w,OkX W H x) (hwl:w.length ≤ 100000) :
  ∀ d i,i + d = w.length → ∀ m M q,Rel W H m M → (M.length:Int) = 4 * (W * H) → q.length + M.count false ≤ 4096 →
   ((∃ z ∈ tg W H A Y (w.drop i),z.f0 = g) → r = n) →
   ((¬ ∃ z ∈ tg W H A Y (w.drop i),z.f0 = g) → ∀ m',Rel W H m' (vis M q (tg W H A Y (w.drop i))).1 → Ev (fun k=>lane_far.l0 k W H A Y g (wrap64 (n + 1)) (vis M q (tg W H A Y (w.drop i))).2 m') r) →
   Ev (fun k=>lane_far.l1 k W H A Y g n w (i:Int) q m) r
 | 0,i,hi,m,M,q,hr,hM,hq,hy,hn=>by
  have e:w.drop i = []:=List.drop_of_length_le (by omega)
  rw [e] at hn
  exact Ev.step (fun k=>by simp only [lane_far.l1];rfl) (Ev.neg (by omega) (hn (by simp [tg]) m hr))
 | d + 1,i,hi,m,M,q,hr,hM,hq,hy,hn=>by
  have hil:i < w.length:=by omega
  have hx:=hw _ (mem_at w i z116 hil)
  have hos:∀ y ∈ outs W H A Y (w.getD i z116).f0 (w.getD i z116).f1,(0 ≤ y ∧ y ≤ 3) ∧ may W H A Y (w.getD i z116).f0 y = true:=fun y k=>outs_mem hx.2.2 k
  have hc:=vis_count (W:=W) (H:=H) (tgs W H (w.getD i z116).f0 (outs W H A Y (w.getD i z116).f0 (w.getD i z116).f1)) M q hM (tgs_ok h hx.1 hos)
  rw [dropN w i z116 hil] at hy hn
  simp only [tg] at hy hn
  rw [vis_app] at hn
  refine Ev.step (fun k=>by simp only [lane_far.l1];rfl) (Ev.pos (by omega) (Ev.pos (by omega) ?_))
  rw [rdX]
  refine Ev.bind (leaves_ev h hx.1 hx.2.2) ?_
  refine far_l2 h (rdX w i) hx hos (outs_len _) (outs W H A Y (w.getD i z116).f0 (w.getD i z116).f1).length 0 (by omega) m M q hr hM hq (fun ⟨z,k1,k2⟩=>hy ⟨z,List.mem_append_left _ k1,k2⟩) (fun hnn m1 hr1=>?_)
  rw [List.drop_zero] at hnn hr1
  rw [List.drop_zero,wrap_in (x:=(i:Int) + 1) (by omega) (by omega),show (i:Int) + 1 = ((i + 1:Nat):Int) by omega]
  refine far_l1 h hw hwl d (i + 1) (by omega) m1 _ _ hr1 (by rw [vis_len];exact hM) (by omega) (fun ⟨z,k1,k2⟩=>hy ⟨z,List.mem_append_right _ k1,k2⟩) (fun hnn2=>hn ?_)
  rintro ⟨z,k1,k2⟩
  rcases List.mem_append.1 k1 with k | k
  ·exact hnn ⟨z,k,k2⟩
  ·exact hnn2 ⟨z,k,k2⟩
theorem far_l0 (h:Good W H A Y) {g:Int}:∀ (f:Nat) (n:Int) m M q,Rel W H m M → (M.length:Int) = 4 * (W * H) → q.length + M.count false ≤ 4097 → (∀ x ∈ q,OkX W H x) → (∀ x,OkX W H x → M.getD (cd x) false = true → x.f0 ≠ g) → (∀ x ∈ q,x.f0 ≠ g) →
  (q = [] ∨ M.count false < f) → M.count false ≤ 4096 → 0 ≤ n → n + f ≤ 10000 → Ev (fun k=>lane_far.l0 k W H A Y g (n + 1) q m) (lv W H A Y g f M q n)
 | 0,n,m,M,q,hr,hM,hq,hok,hMg,hqg,hC,hB,h0,h1=>by
  obtain rfl:q = []:=hC.elim id (fun k=>absurd k (Nat.not_lt_zero _))
  exact Ev.step (fun k=>by simp only [lane_far.l0];rfl) (Ev.neg (by simp) (Ev.now _))
 | f + 1,n,m,M,q,hr,hM,hq,hok,hMg,hqg,hC,hB,h0,h1=>by
  unfold lv
  by_cases e:q = []
  ·rw [if_pos e]
   subst e
   exact Ev.step (fun k=>by simp only [lane_far.l0];rfl) (Ev.neg (by simp) (Ev.now _))
  rw [if_neg e,if_neg (fun ⟨x,k1,k2⟩=>hqg x k1 k2)]
  have hC2:M.count false < f + 1:=hC.elim (fun k=>absurd k e) id
  have hto:=tg_ok h q hok
  have hc:=vis_count (W:=W) (H:=H) (tg W H A Y q) M [] hM hto
  rw [List.length_nil] at hc
  have hlen:0 < q.length:=List.length_pos_iff.2 e
  refine Ev.step (fun k=>by simp only [lane_far.l0];rfl) (Ev.pos (by omega) ?_)
  have hnil:∀ z,z ∈ ([]:List S116) → OkX W H z:=fun z hz=>by simp at hz
  refine far_l1 h hok (by omega) q.length 0 (by omega) m M [] hr hM (by simpa using hB) (fun ⟨z,k1,k2⟩=>?_) (fun hnn m1 hr1=>?_)
  ·rw [List.drop_zero] at k1
   have hz:=hto z k1
   have hzT:z ∈ (vis M [] (tg W H A Y q)).2:=(vis_mem _ M [] hM hto z k1).elim (fun k=>absurd k2 (hMg z hz k)) id
   have hpos:0 < (vis M [] (tg W H A Y q)).2.length:=List.length_pos_of_mem hzT
   obtain ⟨f',rfl⟩:∃ f',f = f' + 1:=⟨f - 1,by omega⟩
   unfold lv
   rw [if_neg (fun k=>by rw [k] at hpos;simp at hpos),if_pos ⟨z,hzT,k2⟩]
  ·rw [List.drop_zero] at hnn hr1
   rw [List.drop_zero,wrap_in (x:=n + 1 + 1) (by omega) (by omega)]
   refine far_l0 h f (n + 1) m1 _ _ hr1 (by rw [vis_len];exact hM) (by omega) (vis_ok _ M [] hnil hto) (fun x hx k k2=>?_) (fun x k k2=>?_) ?_ (by omega) (by omega) (by omega)
   ·rcases vis_marks _ M [] _ k with k | ⟨y,hy,k3⟩
    ·exact hMg x hx k k2
    ·rw [← cd_inj (hto y hy) hx k3] at k2
     exact hnn ⟨y,hy,k2⟩
   ·rcases vis_from _ M [] x k with k | k
    ·simp at k
    ·exact hnn ⟨x,k,k2⟩
   ·by_cases e2:(vis M [] (tg W H A Y q)).2 = []
    ·exact .inl e2
    ·have:=List.length_pos_iff.2 e2
     exact .inr (by omega)
theorem far_ev (h:Good W H A Y) {t s g:Int} (ht:0 ≤ t ∧ t < W * H) (hs:0 ≤ s ∧ s ≤ 3) (hb:0 ≤ bey W H t s ∧ bey W H t s < W * H):Ev (fun k => lane_far.f k W H A Y t s g) (farv W H A Y t s g) := by
 have ha:=area h.hW h.hH
 obtain ⟨N,hN⟩:∃ N,N = 4 * (W * H).toNat:=⟨_,rfl⟩
 have hx:OkX W H ⟨bey W H t s,opp s⟩:=⟨hb,(opp_at hs).1⟩
 have hM:((List.replicate N false).length:Int) = 4 * (W * H):=by rw [List.length_replicate];omega
 have hr0:Rel W H [] (List.replicate N false):=fun x _=>by
  unfold mqHas
  rw [List.getD_eq_getElem?_getD,List.getElem?_replicate]
  split <;> rfl
 obtain ⟨m1,he,hr1⟩:=e_ok h (g:=g) ht hs hb hM hr0 (q:=[]) (by simp)
 have hf:(List.replicate N false).getD (cd ⟨bey W H t s,opp s⟩) false = false:=by
  rw [List.getD_eq_getElem?_getD,List.getElem?_replicate]
  split <;> rfl
 have hv:vis (List.replicate N false) [] [⟨bey W H t s,opp s⟩] = ((List.replicate N false).set (cd ⟨bey W H t s,opp s⟩) true,[⟨bey W H t s,opp s⟩]):=by
  unfold vis
  rw [hf,if_neg (by simp)]
  rfl
 rw [hv] at he hr1
 have hc:=count_set (List.replicate N false) (cd ⟨bey W H t s,opp s⟩) (cd_lt hM hx) hf
 rw [List.count_replicate_self] at hc
 unfold lane_far.f farv
 rw [← hN]
 refine Ev.bindc he ?_
 by_cases c:bey W H t s = g
 ·refine Ev.eq (Ev.pos (beq_iff_eq.2 c) (Ev.now _)) ?_
  unfold lv
  rw [if_neg (by simp),if_pos ⟨_,List.mem_singleton.2 rfl,c⟩]
 ·refine Ev.neg (fun k=>c (beq_iff_eq.1 k)) ?_
  refine far_l0 h (N + 1) 1 m1 _ _ hr1 (by simpa using hM) (by simp;omega) (fun x k=>by rw [List.mem_singleton.1 k];exact hx) (fun x hx2 k=>?_) (fun x k=>by rw [List.mem_singleton.1 k];exact c) (.inr (by omega)) (by omega) (by omega) (by omega)
  rw [set_at] at k
  by_cases e:cd ⟨bey W H t s,opp s⟩ = cd x ∧ cd x < (List.replicate N false).length
  ·rw [← cd_inj hx hx2 e.1];exact c
  ·rw [if_neg e,List.getD_eq_getElem?_getD,List.getElem?_replicate] at k
   split at k <;> simp at k
def pick (fv : Int → Int) : List Int → Int → Int → Int
 | [],b,_=>b
 | s :: r,b,l=>if fv s ≥ 0 then (if l < 0 then pick fv r s (fv s) else if fv s < l then pick fv r s (fv s) else pick fv r b l) else pick fv r b l
noncomputable def chz (W H : Int) (A Y : List Int) (t f g : Int) : Int × Bool :=
 if outs W H A Y t f = [] then (0,false) else (pick (fun s=>farv W H A Y t s g) (outs W H A Y t f) ((outs W H A Y t f).getD 0 0) (-1),true)
theorem choose_ev (h:Good W H A Y) {t f g:Int} (ht:0 ≤ t ∧ t < W * H) (hf:f ≤ 3):Ev (fun k => lane_choose.f k W H A Y t f g) (chz W H A Y t f g) := by
 unfold lane_choose.f chz
 refine Ev.bind (leaves_ev h ht hf) ?_
 have hm:∀ y ∈ outs W H A Y t f,(0 ≤ y ∧ y ≤ 3) ∧ may W H A Y t y = true:=fun y k=>outs_mem hf k
 have hl:=outs_len (W:=W) (H:=H) (A:=A) (Y:=Y) (t:=t) f
 generalize outs W H A Y t f = l at hm hl
 by_cases e:l = []
 ·rw [if_pos e]
  exact Ev.pos (by rw [e];rfl) (Ev.now _)
 rw [if_neg e]
 have hp:=List.length_pos_iff.2 e
 refine Ev.neg (by omega) (Ev.pos (by omega) ?_)
 rw [show rd l 0 = l.getD 0 0 from rdN l 0]
 have go:∀ d i:Nat,i + d = l.length → ∀ b m:Int,Ev (fun k=>lane_choose.l0 k t g b m l (l.length:Int) (i:Int) W H A Y) (pick (fun s=>farv W H A Y t s g) (l.drop i) b m,true):=by
  intro d
  induction d with
  | zero =>
   intro i hi b m
   rw [List.drop_of_length_le (by omega)]
   exact Ev.step (fun k=>by simp only [lane_choose.l0];rfl) (Ev.neg (by omega) (Ev.now _))
  | succ d ih =>
   intro i hi b m
   have ih:=ih (i + 1) (by omega)
   rw [show ((i + 1:Nat):Int) = (i:Int) + 1 from by omega] at ih
   have hs:=hm _ (mem_at l i 0 (by omega))
   rw [dropN l i 0 (by omega)]
   unfold pick
   refine Ev.step (fun k=>by simp only [lane_choose.l0];rfl) (Ev.pos (by omega) (Ev.pos (by omega) (Ev.pos (by omega) ?_)))
   rw [rdN,wrap_in (x:=(i:Int) + 1) (by omega) (by omega)]
   refine Ev.bind (far_ev h ht hs.1 (may_at h ht hs.2)) ?_
   by_cases c:farv W H A Y t (l.getD i 0) g ≥ 0
   ·refine Ev.pos c ?_
    rw [if_pos c]
    by_cases c1:m < 0
    ·rw [if_pos c1];exact Ev.pos c1 (ih _ _)
    ·rw [if_neg c1]
     refine Ev.neg c1 ?_
     by_cases c2:farv W H A Y t (l.getD i 0) g < m
     ·rw [if_pos c2];exact Ev.pos c2 (ih _ _)
     ·rw [if_neg c2];exact Ev.neg c2 (ih _ _)
   ·rw [if_neg c];exact Ev.neg c (ih _ _)
 exact go l.length 0 (by omega) _ _
end
section
variable {W H t s : Int} {A Y : List Int}
theorem ref_beyond_eq (h:On W H t) (hs:0 ≤ s ∧ s ≤ 3) (A Y:List Int):hinterlandref17_beyond.f W H A Y t s = some (bside W t s) := by
 obtain ⟨_,_,e,a0,a1⟩:=h.xy
 have hW:=h.hW
 have ht:=h.ht
 unfold hinterlandref17_beyond.f bside
 rw [wrap_in (x:=t + 1) (by omega) (by omega),wrap_in (x:=t + W) (by omega) (by omega),wrap_in (x:=t - 1) (by omega) (by omega),wrap_in (x:=t - W) (by omega) (by omega)]
 repeat' split
 all_goals rfl
theorem ref_free_eq {w:Int} (hw:0 ≤ w ∧ w ≤ 2) (s:Int):hinterlandref17_free.f w s = some (lets w s) := by
 rw [← lets_eq hw]
 unfold hinterlandref17_free.f lane_lets.f
 rcases (by omega:w = 0 ∨ w = 1 ∨ w = 2) with e | e | e
 ·subst e;rfl
 ·subst e
  by_cases c:s < 2
  ·simp [c]
  ·simp [c]
 ·subst e
  by_cases c:s < 2
  ·first | (simp [c];done) | (simp [c];omega)
  ·first | (simp [c];done) | (simp [c];omega)
theorem ref_linked_ev (h:Good W H A Y) (ht:0 ≤ t ∧ t < W * H) (hs:0 ≤ s ∧ s ≤ 3):Ev (fun k => hinterlandref17_linked.f k W H A Y t s) (decide (0 ≤ meets W H A t s)) := by
 have hon:=h.on ht
 obtain ⟨⟨x0,x1⟩,⟨y0,y1⟩,e,a0,a1⟩:=hon.xy
 have hW:=h.hW
 have hH:=h.hH
 have hA:=h.hA
 have ho:=(opp_at hs).1
 have hb:=bey_at hon s
 have m5:0 ≤ t / W * W:=Int.mul_nonneg y0 (by omega)
 unfold hinterlandref17_linked.f
 refine Ev.neg (by omega) (Ev.pos ht.1 (Ev.pos (by omega) (Ev.pos hs.1 ?_)))
 rw [(tdm hon).1,(tdm hon).2,wrap_in (x:=t % W + 1) (by omega) (by omega),wrap_in (x:=t / W) (by omega) (by omega),wrap_in (x:=t / W + 1) (by omega) (by omega)]
 have out:∀ q,q = true → ¬ 0 ≤ meets W H A t s → Ev (fun k=>hinterlandref17_linked.j0 k t s q W H A Y) (decide (0 ≤ meets W H A t s)):=by
  intro q hq hm
  rw [decide_eq_false hm]
  exact Ev.step (fun k=>by simp only [hinterlandref17_linked.j0];rfl) (Ev.pos hq (Ev.now _))
 by_cases c1:has (rd A t) s = true
 rotate_left
 ·refine Ev.pos ?_ (out _ rfl ?_)
  ·have h01:∀ x:Int,Go.bits .and .i64 (shr .i64 x s) 1 = 0 ∨ Go.bits .and .i64 (shr .i64 x s) 1 = 1 ∨ True:=fun _=>.inr (.inr trivial)
   have ha:=h.arm ht
   have hall:∀ (a:Fin 16) (s:Fin 4),(Go.bits .and .i64 (shr .i64 ((a.val:Nat):Int) ((s.val:Nat):Int)) 1 == 1) = false → Go.bits .and .i64 (shr .i64 ((a.val:Nat):Int) ((s.val:Nat):Int)) 1 = 0:=by decide +kernel
   have:=hall ⟨(rd A t).toNat,by omega⟩ ⟨s.toNat,by omega⟩
   simp only [Int.toNat_of_nonneg ha.1,Int.toNat_of_nonneg hs.1] at this
   exact this (Bool.eq_false_iff.2 c1)
  ·unfold meets
   rw [if_neg (fun h=>c1 h.2.1)]
   omega
 have c1':Go.bits .and .i64 (shr .i64 (rd A t) s) 1 = 1:=beq_iff_eq.1 c1
 refine Ev.neg (by rw [c1'];decide) ?_
 have fin:∀ q,q = decide (¬ 0 ≤ bey W H t s) → Ev (fun k=>hinterlandref17_linked.j0 k t s q W H A Y) (decide (0 ≤ meets W H A t s)):=by
  intro q hq
  by_cases c0:0 ≤ bey W H t s
  rotate_left
  ·exact out q (by rw [hq];exact decide_eq_true c0) (by unfold meets;rw [if_neg (fun h=>c0 h.1)];omega)
  refine Ev.step (fun k=>by simp only [hinterlandref17_linked.j0];rfl) (Ev.neg (by rw [hq];simpa using c0) (Ev.bindc (ref_beyond_eq hon hs A Y) ?_))
  rw [bside_bey c0]
  refine Ev.pos c0 (Ev.pos (by omega) (Ev.pos (show 0 ≤ Int.tmod (wrap64 (s + 2)) 4 from ho.1) (Ev.eq (Ev.now _) ?_)))
  show has (rd A (bey W H t s)) (opp s) = _
  unfold meets
  by_cases c2:has (rd A (bey W H t s)) (opp s) = true
  ·rw [c2,if_pos ⟨c0,c1,rfl⟩,decide_eq_true c0]
  ·rw [if_neg (fun h=>c2 h.2.2),Bool.eq_false_iff.2 c2];rfl
 rcases (by omega:s = 0 ∨ s = 1 ∨ s = 2 ∨ s = 3) with c | c | c | c
 ·subst c
  refine Ev.pos rfl ?_
  by_cases c1:t % W + 1 = W
  ·refine Ev.pos c1 (fin _ ?_)
   unfold bey;rw [if_pos rfl,if_neg (by omega)];rfl
  ·refine Ev.neg c1 (Ev.neg (by decide) (Ev.neg (by decide) (Ev.neg (by decide) (fin _ ?_))))
   unfold bey;rw [if_pos rfl,if_pos (by omega)]
   symm;apply decide_eq_false;omega
 ·subst c
  refine Ev.neg (by decide) (Ev.pos rfl ?_)
  by_cases c1:t / W + 1 = H
  ·refine Ev.pos c1 (fin _ ?_)
   unfold bey;rw [if_neg (by decide),if_pos rfl,if_neg (by omega)];rfl
  ·refine Ev.neg c1 (Ev.neg (by decide) (Ev.neg (by decide) (fin _ ?_)))
   unfold bey;rw [if_neg (by decide),if_pos rfl,if_pos (by omega)]
   symm;apply decide_eq_false;omega
 ·subst c
  refine Ev.neg (by decide) (Ev.neg (by decide) (Ev.pos rfl ?_))
  by_cases c1:t % W = 0
  ·refine Ev.pos c1 (fin _ ?_)
   unfold bey;rw [if_neg (by decide),if_neg (by decide),if_pos rfl,if_neg (by omega)];rfl
  ·refine Ev.neg c1 (Ev.neg (by decide) (fin _ ?_))
   unfold bey;rw [if_neg (by decide),if_neg (by decide),if_pos rfl,if_pos (by omega)]
   symm;apply decide_eq_false;omega
 ·subst c
  refine Ev.neg (by decide) (Ev.neg (by decide) (Ev.neg (by decide) (Ev.pos rfl (fin _ ?_))))
  unfold bey;rw [if_neg (by decide),if_neg (by decide),if_neg (by decide)]
  by_cases c1:t / W = 0
  ·rw [if_neg (by omega),c1];rfl
  ·rw [if_pos (by omega),show (t / W == 0) = false from beq_eq_false_iff_ne.2 c1]
   have:=Int.mul_le_mul_of_nonneg_right (show 1 ≤ t / W by omega) (show 0 ≤ W by omega)
   symm;apply decide_eq_false;omega
theorem ref_joined_ev (h:Good W H A Y) (ht:0 ≤ t ∧ t < W * H) (hs:0 ≤ s ∧ s ≤ 3):Ev (fun k => hinterlandref17_joined.f k W H A Y t s) (may W H A Y t s) := by
 unfold hinterlandref17_joined.f may
 refine Ev.bind (ref_linked_ev h ht hs) ?_
 have hY:=h.hY
 by_cases c0:0 ≤ meets W H A t s
 rotate_left
 ·rw [decide_eq_false c0];exact Ev.neg (by simp) (Ev.now _)
 have hm:=meets_at h ht s
 have hb:0 ≤ bey W H t s:=by omega
 rw [decide_eq_true c0]
 refine Ev.pos rfl (Ev.pos ht.1 (Ev.pos (by omega) (Ev.bindc (ref_free_eq (h.way ht) s) ?_)))
 by_cases c1:lets (rd Y t) s = true
 ·refine Ev.pos c1 (Ev.bindc (ref_beyond_eq (h.on ht) hs A Y) ?_)
  rw [bside_bey hb]
  refine Ev.pos hb (Ev.pos (by omega) (Ev.bindc (ref_free_eq (h.way ⟨by omega,by omega⟩) s) (Ev.eq (Ev.now _) ?_)))
  rw [c1];simp
 ·refine Ev.eq (Ev.neg c1 (Ev.now _)) ?_
  rw [Bool.eq_false_iff.2 c1];rfl
theorem ref_leave_ev (h:Good W H A Y) (ht:0 ≤ t ∧ t < W * H) {f:Int} (hf:f ≤ 3):Ev (fun k => hinterlandref17_leave.f k W H A Y t f) (outs W H A Y t f) := by
 unfold hinterlandref17_leave.f
 have go:∀ n i:Nat,i + n = 4 → Ev (fun k=>hinterlandref17_leave.l0 k t f (sel W H A Y t f i) (i:Int) W H A Y) (outs W H A Y t f):=by
  intro n
  induction n with
  | zero =>
   intro i hi
   obtain rfl:i = 4:=by omega
   refine Ev.step (fun k=>by simp only [hinterlandref17_leave.l0];rfl) (Ev.neg (by omega) ?_)
   unfold outs
   by_cases c:sel W H A Y t f 4 = []
   ·refine Ev.pos (by rw [c];rfl) ?_
    by_cases c0:f ≥ 0
    ·refine Ev.pos c0 (Ev.bind (ref_joined_ev h ht ⟨c0,hf⟩) ?_)
     by_cases c1:may W H A Y t f = true
     ·refine Ev.eq (Ev.pos c1 (Ev.pos (by have:=sel_len (W:=W) (H:=H) (A:=A) (Y:=Y) (t:=t) f 4;omega) (Ev.now _))) ?_
      rw [if_pos ⟨c,c0,c1⟩,c];rfl
     ·exact Ev.eq (Ev.neg c1 (Ev.now _)) (if_neg (fun h=>c1 h.2.2)).symm
    ·exact Ev.eq (Ev.neg c0 (Ev.now _)) (if_neg (fun h=>c0 h.2.1)).symm
   ·exact Ev.eq (Ev.neg (by simpa using c) (Ev.now _)) (if_neg (fun h=>c h.1)).symm
  | succ n ih =>
   intro i hi
   have ih:=ih (i + 1) (by omega)
   rw [show ((i + 1:Nat):Int) = (i:Int) + 1 from by omega] at ih
   unfold sel at ih
   refine Ev.step (fun k=>by simp only [hinterlandref17_leave.l0];rfl) (Ev.pos (by omega) ?_)
   rw [wrap_in (x:=(i:Int) + 1) (by omega) (by omega)]
   by_cases c:(i:Int) = f
   ·rw [if_pos c] at ih
    exact Ev.pos c ih
   ·rw [if_neg c] at ih
    refine Ev.neg c (Ev.bind (ref_joined_ev h ht ⟨by omega,by omega⟩) ?_)
    by_cases c1:may W H A Y t i = true
    ·rw [if_pos c1] at ih
     exact Ev.pos c1 (Ev.pos (by have:=sel_len (W:=W) (H:=H) (A:=A) (Y:=Y) (t:=t) f i;omega) ih)
    ·rw [if_neg c1] at ih
     exact Ev.neg c1 ih
 exact go 4 0 (by omega)
end
section
variable {W H : Int} {A Y : List Int}
theorem side_eq (n:Int):hinterlandref04_side.f n = some (decide (4 ≤ n ∧ n ≤ 32)) := by
 unfold hinterlandref04_side.f
 by_cases h:n ≥ 4
 ·rw [if_pos h];congr 1;apply decide_eq_decide.2;omega
 ·rw [if_neg h,decide_eq_false (by omega)]
theorem straight_eq (n:Int):hinterlandref04_straight.f n = some (decide (n = 5 ∨ n = 10)) := by
 unfold hinterlandref04_straight.f
 by_cases h:n = 5
 ·rw [if_pos h,decide_eq_true (.inl h)]
 ·rw [if_neg h]
  by_cases h2:n = 10
  ·rw [decide_eq_true (.inr h2),h2];rfl
  ·rw [decide_eq_false (by omega),show (n == 10) = false from beq_eq_false_iff_ne.2 h2]
theorem ref_validate_ev (hA:A.length ≤ 4000) (hY:Y.length ≤ 4000):Ev (fun k => hinterlandref04_Validate.f k W H A Y) (vcode W H A Y) := by
 unfold hinterlandref04_Validate.f
 have bad:¬ Shape W H A Y → ∀ q,q = true → Ev (fun k=>hinterlandref04_Validate.j0 k q W H A Y) (vcode W H A Y):=by
  intro h q hq
  refine Ev.eq (Ev.step (fun k=>by simp only [hinterlandref04_Validate.j0];rfl) (Ev.pos hq (Ev.now _))) (if_neg h).symm
 refine Ev.bindc (side_eq _) ?_
 by_cases w0:4 ≤ W ∧ W ≤ 32
 rotate_left
 ·exact Ev.neg (fun h=>w0 (of_decide_eq_true h)) (bad (fun h=>w0 h.1) _ rfl)
 refine Ev.pos (decide_eq_true w0) (Ev.bindc (side_eq _) ?_)
 by_cases h0:4 ≤ H ∧ H ≤ 32
 rotate_left
 ·exact Ev.neg (fun h=>h0 (of_decide_eq_true h)) (bad (fun h=>h0 h.2.1) _ rfl)
 refine Ev.pos (decide_eq_true h0) ?_
 have ha:=area w0 h0
 rw [wrap_in (x:=W * H) (by omega) (by omega)]
 by_cases l1:(A.length:Int) = W * H
 rotate_left
 ·exact Ev.neg l1 (bad (fun h=>l1 h.2.2.1) _ rfl)
 refine Ev.pos l1 ?_
 by_cases l2:(Y.length:Int) = W * H
 rotate_left
 ·exact bad (fun h=>l2 h.2.2.2) _ (bne_iff_ne.2 l2)
 have hs:Shape W H A Y:=⟨w0,h0,l1,l2⟩
 refine Ev.eq ?_ (if_pos hs).symm
 rw [show ((Y.length:Int) != W * H) = false from bne_eq_false_iff_eq.2 l2]
 refine Ev.step (fun k=>by simp only [hinterlandref04_Validate.j0];rfl) (Ev.neg (by simp) ?_)
 have end0:∀ r,Ev (fun k=>hinterlandref04_Validate.l1 k Y (Y.length:Int) (0:Int) W H A Y) r → Ev (fun k=>hinterlandref04_Validate.l0 k A (A.length:Int) ((A.length:Nat):Int) W H A Y) r:=by
  intro r hr
  exact Ev.step (fun k=>by simp only [hinterlandref04_Validate.l0];rfl) (Ev.neg (by omega) hr)
 have end1:∀ r,Ev (fun k=>hinterlandref04_Validate.l2 k Y (Y.length:Int) (0:Int) W H A Y) r → Ev (fun k=>hinterlandref04_Validate.l1 k Y (Y.length:Int) ((Y.length:Nat):Int) W H A Y) r:=by
  intro r hr
  exact Ev.step (fun k=>by simp only [hinterlandref04_Validate.l1];rfl) (Ev.neg (by omega) hr)
 have end2:Ev (fun k=>hinterlandref04_Validate.l2 k Y (Y.length:Int) ((Y.length:Nat):Int) W H A Y) 0 :=
  Ev.step (fun k=>by simp only [hinterlandref04_Validate.l2];rfl) (Ev.neg (by omega) (Ev.now _))
 have good0:∀ i,i < A.length → ArmAt A i → ∀ r,Ev (fun k=>hinterlandref04_Validate.l0 k A (A.length:Int) ((i:Int) + 1) W H A Y) r → Ev (fun k=>hinterlandref04_Validate.l0 k A (A.length:Int) (i:Int) W H A Y) r:=by
  intro i hi p1 r hr
  unfold ArmAt at p1
  refine Ev.step (fun k=>by simp only [hinterlandref04_Validate.l0];rfl) ?_
  rw [rdN,wrap_in (x:=(i:Int) + 1) (by omega) (by omega)]
  exact Ev.pos (by omega) (Ev.pos (by omega) (Ev.pos (by omega) (Ev.neg (by omega) (Ev.neg (by omega) hr))))
 have bad0:∀ i,i < A.length → ¬ ArmAt A i → Ev (fun k=>hinterlandref04_Validate.l0 k A (A.length:Int) (i:Int) W H A Y) 1:=by
  intro i hi hp
  unfold ArmAt at hp
  refine Ev.step (fun k=>by simp only [hinterlandref04_Validate.l0];rfl) ?_
  rw [rdN]
  refine Ev.pos (by omega) (Ev.pos (by omega) (Ev.pos (by omega) ?_))
  by_cases q1:A.getD i 0 < 0
  ·exact Ev.pos q1 (Ev.now _)
  exact Ev.neg q1 (Ev.pos (by omega) (Ev.now _))
 have good1:∀ i,i < Y.length → WayAt Y i → ∀ r,Ev (fun k=>hinterlandref04_Validate.l1 k Y (Y.length:Int) ((i:Int) + 1) W H A Y) r → Ev (fun k=>hinterlandref04_Validate.l1 k Y (Y.length:Int) (i:Int) W H A Y) r:=by
  intro i hi p1 r hr
  unfold WayAt at p1
  refine Ev.step (fun k=>by simp only [hinterlandref04_Validate.l1];rfl) ?_
  rw [rdN,wrap_in (x:=(i:Int) + 1) (by omega) (by omega)]
  exact Ev.pos (by omega) (Ev.pos (by omega) (Ev.pos (by omega) (Ev.neg (by omega) (Ev.neg (by omega) hr))))
 have bad1:∀ i,i < Y.length → ¬ WayAt Y i → Ev (fun k=>hinterlandref04_Validate.l1 k Y (Y.length:Int) (i:Int) W H A Y) 1:=by
  intro i hi hp
  unfold WayAt at hp
  refine Ev.step (fun k=>by simp only [hinterlandref04_Validate.l1];rfl) ?_
  rw [rdN]
  refine Ev.pos (by omega) (Ev.pos (by omega) (Ev.pos (by omega) ?_))
  by_cases q1:Y.getD i 0 < 0
  ·exact Ev.pos q1 (Ev.now _)
  exact Ev.neg q1 (Ev.pos (by omega) (Ev.now _))
 have good2:∀ i,i < Y.length → OneAt A Y i → ∀ r,Ev (fun k=>hinterlandref04_Validate.l2 k Y (Y.length:Int) ((i:Int) + 1) W H A Y) r → Ev (fun k=>hinterlandref04_Validate.l2 k Y (Y.length:Int) (i:Int) W H A Y) r:=by
  intro i hi p r hr
  unfold OneAt at p
  refine Ev.step (fun k=>by simp only [hinterlandref04_Validate.l2];rfl) ?_
  rw [rdN,rdN,wrap_in (x:=(i:Int) + 1) (by omega) (by omega)]
  refine Ev.pos (by omega) (Ev.pos (by omega) (Ev.pos (by omega) ?_))
  by_cases q1:Y.getD i 0 = 0
  ·exact Ev.pos q1 hr
  exact Ev.neg q1 (Ev.pos (by omega) (Ev.bindc (straight_eq _) (Ev.pos (decide_eq_true (by omega)) hr)))
 have bad2:∀ i,i < Y.length → ¬ OneAt A Y i → Ev (fun k=>hinterlandref04_Validate.l2 k Y (Y.length:Int) (i:Int) W H A Y) 9:=by
  intro i hi p
  unfold OneAt at p
  refine Ev.step (fun k=>by simp only [hinterlandref04_Validate.l2];rfl) ?_
  rw [rdN,rdN]
  exact Ev.pos (by omega) (Ev.pos (by omega) (Ev.pos (by omega) (Ev.neg (by omega) (Ev.pos (by omega) (Ev.bindc (straight_eq _) (Ev.neg (fun h=>by have:=of_decide_eq_true h;omega) (Ev.now _)))))))
 by_cases g0:Arms A
 rotate_left
 ·exact Ev.eq (Ev.scan_some (g:=fun k i=>hinterlandref04_Validate.l0 k A (A.length:Int) i W H A Y) good0 bad0 A.length 0 (by omega) (not_all g0)) (if_neg (fun h=>g0 h.1)).symm
 refine Ev.scan_all (g:=fun k i=>hinterlandref04_Validate.l0 k A (A.length:Int) i W H A Y) (end0 _ ?_) good0 A.length 0 (by omega) g0
 by_cases g1:Wayz Y
 rotate_left
 ·exact Ev.eq (Ev.scan_some (g:=fun k i=>hinterlandref04_Validate.l1 k Y (Y.length:Int) i W H A Y) good1 bad1 Y.length 0 (by omega) (not_all g1)) (if_neg (fun h=>g1 h.2)).symm
 refine Ev.eq ?_ (if_pos ⟨g0,g1⟩).symm
 refine Ev.scan_all (g:=fun k i=>hinterlandref04_Validate.l1 k Y (Y.length:Int) i W H A Y) (end1 _ ?_) good1 Y.length 0 (by omega) g1
 by_cases g2:Ones A Y
 ·exact Ev.eq (Ev.scan_all (g:=fun k i=>hinterlandref04_Validate.l2 k Y (Y.length:Int) i W H A Y) end2 good2 Y.length 0 (by omega) g2) (if_pos g2).symm
 ·exact Ev.eq (Ev.scan_some (g:=fun k i=>hinterlandref04_Validate.l2 k Y (Y.length:Int) i W H A Y) good2 bad2 Y.length 0 (by omega) (not_all g2)) (if_neg g2).symm
end
section
variable {W H t s : Int}
end
section
variable {W H t s : Int} {A Y : List Int}
end
def cz (x : S116) : Int := (cd x : Nat)
section
variable {W H : Int} {A Y : List Int}
theorem cz_parts (h:Good W H A Y) {x:S116} (hx:OkX W H x):wrap64 (Int.tdiv (cz x) 4) = x.f0 ∧ Int.tmod (cz x) 4 = x.f1 ∧ 0 ≤ cz x ∧ cz x < 4 * (W * H) := by
 obtain ⟨⟨a1,a2⟩,⟨a3,a4⟩⟩:=hx
 have ha:=area h.hW h.hH
 have e:cz x = 4 * x.f0 + x.f1:=by unfold cz cd;omega
 rw [e,Int.tdiv_eq_ediv_of_nonneg (by omega),Int.tmod_eq_emod_of_nonneg (by omega),wrap_in (by omega) (by omega)]
 omega
theorem cz_of (h:Good W H A Y) {x:S116} (hx:OkX W H x):wrap64 (wrap64 (4 * x.f0) + x.f1) = cz x := by
 obtain ⟨⟨a1,a2⟩,⟨a3,a4⟩⟩:=hx
 have ha:=area h.hW h.hH
 rw [wrap_in (x:=4 * x.f0) (by omega) (by omega),wrap_in (by omega) (by omega)]
 unfold cz cd
 omega
theorem rd_map (q:List S116) (i:Nat) (h:i < q.length):rd (q.map cz) (i:Int) = cz (q.getD i z116) := by
 rw [rdN,List.getD_eq_getElem?_getD,List.getElem?_map,List.getElem?_eq_getElem h,List.getD_eq_getElem?_getD,List.getElem?_eq_getElem h]
 rfl
theorem rdB (M:List Bool) (c:Nat):rdOf false M (c:Int) = M.getD c false := by unfold rdOf; simp
theorem rfar_l2 (h:Good W H A Y) {g n r:Int} {w:List S116} {i:Nat} (hi:i < w.length) {x:S116} (hwx:w.getD i z116 = x) (hx:OkX W H x) {s:List Int} (hs:∀ y ∈ s,(0 ≤ y ∧ y ≤ 3) ∧ may W H A Y x.f0 y = true) (hsl:s.length ≤ 4) :
  ∀ d j,j + d = s.length → ∀ M q,(M.length:Int) = 4 * (W * H) → q.length + M.count false ≤ 4096 →
   Ev (fun k=>hinterlandref17_far.l1 k g (vis M q (tgs W H x.f0 (s.drop j))).1 (w.map cz) n ((vis M q (tgs W H x.f0 (s.drop j))).2.map cz) (wrap64 ((i:Int) + 1)) W H A Y) r →
   Ev (fun k=>hinterlandref17_far.l2 k g M (w.map cz) n (q.map cz) (i:Int) s (j:Int) W H A Y) r
 | 0,j,hj,M,q,hM,hq,hn=>by
  have e:s.drop j = []:=List.drop_of_length_le (by omega)
  rw [e] at hn
  exact Ev.step (fun k=>by simp only [hinterlandref17_far.l2];rfl) (Ev.neg (by omega) hn)
 | d + 1,j,hj,M,q,hM,hq,hn=>by
  have hjl:j < s.length:=by omega
  have hsj:=hs _ (mem_at s j 0 hjl)
  have hb:=may_at h hx.1 hsj.2
  have hz:OkX W H ⟨bey W H x.f0 (s.getD j 0),opp (s.getD j 0)⟩:=⟨hb,(opp_at hsj.1).1⟩
  have hc:=vis_count (W:=W) (H:=H) [⟨bey W H x.f0 (s.getD j 0),opp (s.getD j 0)⟩] M q hM (by intro z k;rw [List.mem_singleton.1 k];exact hz)
  have hp:=cz_parts h hz
  have hq4:=cz_parts h hx
  rw [dropN s j 0 hjl] at hn
  simp only [tgs,List.map_cons] at hn
  rw [vis_one] at hn
  have ih:=rfar_l2 h hi hwx hx hs hsl d (j + 1) (by omega) (vis M q [⟨bey W H x.f0 (s.getD j 0),opp (s.getD j 0)⟩]).1 (vis M q [⟨bey W H x.f0 (s.getD j 0),opp (s.getD j 0)⟩]).2 (by rw [vis_len];exact hM) (by omega) hn
  refine Ev.step (fun k=>by simp only [hinterlandref17_far.l2];rfl) (Ev.pos (by omega) (Ev.pos (by omega) (Ev.pos (by rw [List.length_map];omega) (Ev.pos (by omega) ?_))))
  rw [rd_map w i hi,hwx,hq4.1,rdN,show Int.tmod (wrap64 (s.getD j 0 + 2)) 4 = opp (s.getD j 0) from rfl,wrap_in (x:=(j:Int) + 1) (by omega) (by omega)]
  refine Ev.bindc (ref_beyond_eq (h.on hx.1) hsj.1 A Y) ?_
  have ez:=cz_of h hz
  dsimp only at ez
  rw [bside_bey hb.1,ez]
  refine Ev.pos hp.2.2.1 (Ev.pos (by omega) ?_)
  rw [show (j:Int) + 1 = ((j + 1:Nat):Int) by omega]
  unfold cz
  rw [rdB,Int.toNat_natCast]
  unfold vis at ih
  by_cases c:M.getD (cd ⟨bey W H x.f0 (s.getD j 0),opp (s.getD j 0)⟩) false = true
  ·rw [if_pos c] at ih
   exact Ev.pos c ih
  ·rw [if_neg c] at ih
   refine Ev.neg c (Ev.pos (by rw [List.length_map];omega) ?_)
   simp only [vis,List.map_append,List.map_cons,List.map_nil] at ih
   exact ih
open Classical in
theorem rfar_l1 (h:Good W H A Y) {g n r:Int} {w:List S116} (hw:∀ x ∈ w,OkX W H x) (hwl:w.length ≤ 100000) :
  ∀ d i,i + d = w.length → ∀ M q,(M.length:Int) = 4 * (W * H) → q.length + M.count false ≤ 4096 →
   ((∃ z ∈ w.drop i,z.f0 = g) → r = n) →
   ((¬ ∃ z ∈ w.drop i,z.f0 = g) → Ev (fun k=>hinterlandref17_far.l0 k g (vis M q (tg W H A Y (w.drop i))).1 ((vis M q (tg W H A Y (w.drop i))).2.map cz) (wrap64 (n + 1)) W H A Y) r) →
   Ev (fun k=>hinterlandref17_far.l1 k g M (w.map cz) n (q.map cz) (i:Int) W H A Y) r
 | 0,i,hi,M,q,hM,hq,hy,hn=>by
  have e:w.drop i = []:=List.drop_of_length_le (by omega)
  rw [e] at hn
  exact Ev.step (fun k=>by simp only [hinterlandref17_far.l1];rfl) (Ev.neg (by rw [List.length_map];omega) (hn (by simp)))
 | d + 1,i,hi,M,q,hM,hq,hy,hn=>by
  have hil:i < w.length:=by omega
  have hx:=hw _ (mem_at w i z116 hil)
  have hos:∀ y ∈ outs W H A Y (w.getD i z116).f0 (w.getD i z116).f1,(0 ≤ y ∧ y ≤ 3) ∧ may W H A Y (w.getD i z116).f0 y = true:=fun y k=>outs_mem hx.2.2 k
  have hc:=vis_count (W:=W) (H:=H) (tgs W H (w.getD i z116).f0 (outs W H A Y (w.getD i z116).f0 (w.getD i z116).f1)) M q hM (tgs_ok h hx.1 hos)
  have hp:=cz_parts h hx
  rw [dropN w i z116 hil] at hy hn
  refine Ev.step (fun k=>by simp only [hinterlandref17_far.l1];rfl) (Ev.pos (by rw [List.length_map];omega) (Ev.pos (by omega) ?_))
  rw [rd_map w i hil,hp.1,hp.2.1]
  by_cases c:(w.getD i z116).f0 = g
  ·rw [hy ⟨_,List.mem_cons_self,c⟩]
   exact Ev.pos c (Ev.now _)
  refine Ev.neg c (Ev.bind (ref_leave_ev h hx.1 hx.2.2) ?_)
  refine rfar_l2 h hil rfl hx hos (outs_len _) (outs W H A Y (w.getD i z116).f0 (w.getD i z116).f1).length 0 (by omega) M q hM hq ?_
  rw [List.drop_zero,wrap_in (x:=(i:Int) + 1) (by omega) (by omega),show (i:Int) + 1 = ((i + 1:Nat):Int) by omega]
  refine rfar_l1 h hw hwl d (i + 1) (by omega) _ _ (by rw [vis_len];exact hM) (by omega) (fun ⟨z,k1,k2⟩=>hy ⟨z,List.mem_cons_of_mem _ k1,k2⟩) (fun hnn=>?_)
  have hn:=hn (fun ⟨z,k1,k2⟩=>by
   rcases List.mem_cons.1 k1 with k | k
   ·rw [k] at k2;exact c k2
   ·exact hnn ⟨z,k,k2⟩)
  simp only [tg] at hn
  rw [vis_app] at hn
  exact hn
theorem rfar_l0 (h:Good W H A Y) {g:Int}:∀ (f:Nat) (n:Int) M q,(M.length:Int) = 4 * (W * H) → q.length ≤ 100000 → (∀ x ∈ q,OkX W H x) → (q = [] ∨ M.count false < f) → M.count false ≤ 4096 → 0 ≤ n → n + f ≤ 10000 →
  Ev (fun k=>hinterlandref17_far.l0 k g M (q.map cz) n W H A Y) (lv W H A Y g f M q n)
 | 0,n,M,q,hM,hq,hok,hC,hB,h0,h1=>by
  obtain rfl:q = []:=hC.elim id (fun k=>absurd k (Nat.not_lt_zero _))
  exact Ev.step (fun k=>by simp only [hinterlandref17_far.l0];rfl) (Ev.neg (by simp) (Ev.now _))
 | f + 1,n,M,q,hM,hq,hok,hC,hB,h0,h1=>by
  unfold lv
  by_cases e:q = []
  ·rw [if_pos e]
   subst e
   exact Ev.step (fun k=>by simp only [hinterlandref17_far.l0];rfl) (Ev.neg (by simp) (Ev.now _))
  rw [if_neg e]
  have hC2:M.count false < f + 1:=hC.elim (fun k=>absurd k e) id
  have hto:=tg_ok h q hok
  have hc:=vis_count (W:=W) (H:=H) (tg W H A Y q) M [] hM hto
  rw [List.length_nil] at hc
  have hlen:0 < q.length:=List.length_pos_iff.2 e
  have hnil:∀ z,z ∈ ([]:List S116) → OkX W H z:=fun z hz=>by simp at hz
  refine Ev.step (fun k=>by simp only [hinterlandref17_far.l0];rfl) (Ev.pos (by rw [List.length_map];omega) ?_)
  refine rfar_l1 h hok hq q.length 0 (by omega) M [] hM (by simpa using hB) (fun k=>?_) (fun hnn=>?_)
  ·rw [List.drop_zero] at k
   rw [if_pos k]
  ·rw [List.drop_zero] at hnn
   rw [if_neg hnn,List.drop_zero,wrap_in (x:=n + 1) (by omega) (by omega)]
   refine rfar_l0 h f (n + 1) _ _ (by rw [vis_len];exact hM) (by omega) (vis_ok _ M [] hnil hto) ?_ (by omega) (by omega) (by omega)
   by_cases e2:(vis M [] (tg W H A Y q)).2 = []
   ·exact .inl e2
   ·have:=List.length_pos_iff.2 e2
    exact .inr (by omega)
theorem ref_far_ev (h:Good W H A Y) {t s g:Int} (ht:0 ≤ t ∧ t < W * H) (hs:0 ≤ s ∧ s ≤ 3) (hb:0 ≤ bey W H t s ∧ bey W H t s < W * H):Ev (fun k => hinterlandref17_far.f k W H A Y t s g) (farv W H A Y t s g) := by
 have ha:=area h.hW h.hH
 have hA:=h.hA
 have hx:OkX W H ⟨bey W H t s,opp s⟩:=⟨hb,(opp_at hs).1⟩
 have hp:=cz_parts h hx
 have ez:=cz_of h hx
 dsimp only at ez
 have hM:((List.replicate (4 * (W * H).toNat) false).length:Int) = 4 * (W * H):=by rw [List.length_replicate];omega
 have hf:(List.replicate (4 * (W * H).toNat) false).getD (cd ⟨bey W H t s,opp s⟩) false = false:=by
  rw [List.getD_eq_getElem?_getD,List.getElem?_replicate]
  split <;> rfl
 have hc:=count_set (List.replicate (4 * (W * H).toNat) false) (cd ⟨bey W H t s,opp s⟩) (cd_lt hM hx) hf
 rw [List.count_replicate_self] at hc
 unfold hinterlandref17_far.f farv
 rw [wrap_in (x:=4 * (A.length:Int)) (by omega) (by omega),show (4 * (A.length:Int)).toNat = 4 * (W * H).toNat by omega]
 refine Ev.pos (by omega) (Ev.pos (by omega) (Ev.bindc rfl (Ev.bindc (ref_beyond_eq (h.on ht) hs A Y) (Ev.bindc rfl ?_))))
 rw [bside_bey hb.1,show Int.tmod (wrap64 (s + 2)) 4 = opp s from rfl,ez]
 rw [show rd [cz ⟨bey W H t s,opp s⟩] 0 = cz ⟨bey W H t s,opp s⟩ from rfl]
 refine Ev.pos (by simp) (Ev.pos hp.2.2.1 (Ev.pos (by omega) ?_))
 have:=rfar_l0 h (g:=g) (4 * (W * H).toNat + 1) 1 ((List.replicate (4 * (W * H).toNat) false).set (cd ⟨bey W H t s,opp s⟩) true) [⟨bey W H t s,opp s⟩] (by simpa using hM) (by simp) (fun x k=>by rw [List.mem_singleton.1 k];exact hx) (.inr (by omega)) (by omega) (by omega) (by omega)
 exact this
theorem ref_choose_ev (h:Good W H A Y) {t f g:Int} (ht:0 ≤ t ∧ t < W * H) (hf:f ≤ 3):Ev (fun k => hinterlandref17_choose.f k W H A Y t f g) (chz W H A Y t f g) := by
 unfold hinterlandref17_choose.f chz
 refine Ev.bind (ref_leave_ev h ht hf) ?_
 have hm:∀ y ∈ outs W H A Y t f,(0 ≤ y ∧ y ≤ 3) ∧ may W H A Y t y = true:=fun y k=>outs_mem hf k
 have hl:=outs_len (W:=W) (H:=H) (A:=A) (Y:=Y) (t:=t) f
 generalize outs W H A Y t f = l at hm hl
 by_cases e:l = []
 ·rw [if_pos e]
  exact Ev.pos (by rw [e];rfl) (Ev.now _)
 rw [if_neg e]
 have hp:=List.length_pos_iff.2 e
 refine Ev.neg (by omega) (Ev.pos (by omega) ?_)
 rw [show rd l 0 = l.getD 0 0 from rdN l 0]
 have go:∀ d i:Nat,i + d = l.length → ∀ b m:Int,Ev (fun k=>hinterlandref17_choose.l0 k t g l b m (i:Int) W H A Y) (pick (fun s=>farv W H A Y t s g) (l.drop i) b m,true):=by
  intro d
  induction d with
  | zero =>
   intro i hi b m
   rw [List.drop_of_length_le (by omega)]
   exact Ev.step (fun k=>by simp only [hinterlandref17_choose.l0];rfl) (Ev.neg (by omega) (Ev.now _))
  | succ d ih =>
   intro i hi b m
   have ih:=ih (i + 1) (by omega)
   rw [show ((i + 1:Nat):Int) = (i:Int) + 1 from by omega] at ih
   have hs:=hm _ (mem_at l i 0 (by omega))
   rw [dropN l i 0 (by omega)]
   unfold pick
   refine Ev.step (fun k=>by simp only [hinterlandref17_choose.l0];rfl) (Ev.pos (by omega) (Ev.pos (by omega) ?_))
   rw [rdN,wrap_in (x:=(i:Int) + 1) (by omega) (by omega)]
   refine Ev.bind (ref_far_ev h ht hs.1 (may_at h ht hs.2)) ?_
   by_cases c:farv W H A Y t (l.getD i 0) g ≥ 0
   ·refine Ev.pos c ?_
    rw [if_pos c]
    by_cases c1:m < 0
    ·rw [if_pos c1];exact Ev.pos c1 (ih _ _)
    ·rw [if_neg c1]
     refine Ev.neg c1 ?_
     by_cases c2:farv W H A Y t (l.getD i 0) g < m
     ·rw [if_pos c2];exact Ev.pos c2 (ih _ _)
     ·rw [if_neg c2];exact Ev.neg c2 (ih _ _)
   ·rw [if_neg c];exact Ev.neg c (ih _ _)
 exact go l.length 0 (by omega) _ _
end
theorem rdT (l:List S50) (i:Nat):rd_T50 l (i:Int) = l.getD i z50 := by unfold rd_T50; simp
def Sorted (C : List Int) : Prop := ∀ j, 0 ≤ j → j < C.length → 0 < j → C.getD (j - 1) 0 < C.getD j 0
def Mov (x : S50) : Prop := if x.f0 = -1 then x.f1 = -1 ∧ x.f2 = 0 ∧ x.f3 = 0 ∧ x.f4 = 0 else (-1 ≤ x.f1 ∧ x.f1 ≤ 3) ∧ (0 ≤ x.f2 ∧ x.f2 ≤ 3) ∧ (0 ≤ x.f3 ∧ x.f3 ≤ 192) ∧ (0 ≤ x.f4 ∧ x.f4 ≤ 191)
instance (x : S50) : Decidable (Mov x) := by unfold Mov; infer_instance
def Movs (T : List S50) : Prop := ∀ j, 0 ≤ j → j < T.length → Mov (T.getD j z50)
def Tiles (W H : Int) (T : List S50) : Prop := ∀ j, 0 ≤ j → j < T.length → (T.getD j z50).f0 = -1 ∨ (0 ≤ (T.getD j z50).f0 ∧ (T.getD j z50).f0 < W * H)
def Joins (W H : Int) (A : List Int) (T : List S50) : Prop := ∀ j, 0 ≤ j → j < T.length → (T.getD j z50).f0 = -1 ∨ 0 ≤ meets W H A (T.getD j z50).f0 (T.getD j z50).f2
def Same (x y : S50) : Prop := x.f0 = y.f0 ∧ x.f2 = y.f2
instance (x y : S50) : Decidable (Same x y) := by unfold Same; infer_instance
def DistF (T : List S50) (i : Nat) : Prop := ∀ j, i ≤ j → j < T.length → (T.getD j z50).f0 = -1 ∨ ¬ ∃ k, k < j ∧ Same (T.getD k z50) (T.getD j z50)
open Classical in
noncomputable def scode (W H : Int) (A : List Int) (T : List S50) : Int := if Tiles W H T then (if Joins W H A T then (if DistF T 0 then 0 else 7) else 8) else 2
open Classical in
noncomputable def lcode (W H : Int) (A Y C : List Int) (T : List S50) : Int :=
 if vcode W H A Y = 0 then (if T.length > 60 then 4 else if Sorted C then (if Movs T then scode W H A T else 1) else 1) else vcode W H A Y
theorem lcode_zero {W H:Int} {A Y C:List Int} {T:List S50} (h:lcode W H A Y C T = 0):vcode W H A Y = 0 ∧ T.length ≤ 60 ∧ Sorted C ∧ Movs T ∧ Tiles W H T ∧ Joins W H A T ∧ DistF T 0 := by
 unfold lcode at h
 by_cases h1:vcode W H A Y = 0
 rotate_left
 ·rw [if_neg h1] at h;exact absurd h h1
 rw [if_pos h1] at h
 by_cases h2:T.length > 60
 ·rw [if_pos h2] at h;exact absurd h (by decide)
 rw [if_neg h2] at h
 by_cases h3:Sorted C
 rotate_left
 ·rw [if_neg h3] at h;exact absurd h (by decide)
 rw [if_pos h3] at h
 by_cases h4:Movs T
 rotate_left
 ·rw [if_neg h4] at h;exact absurd h (by decide)
 rw [if_pos h4] at h
 unfold scode at h
 by_cases h5:Tiles W H T
 rotate_left
 ·rw [if_neg h5] at h;exact absurd h (by decide)
 rw [if_pos h5] at h
 by_cases h6:Joins W H A T
 rotate_left
 ·rw [if_neg h6] at h;exact absurd h (by decide)
 rw [if_pos h6] at h
 by_cases h7:DistF T 0
 rotate_left
 ·rw [if_neg h7] at h;exact absurd h (by decide)
 exact ⟨h1,by omega,h3,h4,h5,h6,h7⟩
theorem moves_eq (x:S50):lane_moves.f x.f0 x.f1 x.f2 x.f3 x.f4 = some (decide (Mov x)) := by
 unfold lane_moves.f Mov
 simp only [within_eq,Option.bind_some,decide_eq_true_eq]
 repeat' split
 all_goals first | (simp_all;done) | (congr 1;symm;apply decide_eq_false;omega) | (congr 1;apply decide_eq_decide.2;omega) | (congr 1;simp;omega)
section
variable {W H : Int} {A Y C : List Int} {T : List S50}
def Held (T : List S50) (i : Nat) (m : List (Int × Int)) : Prop := ∀ p : Int × Int, mqHas p m = true ↔ ∃ k, k < i ∧ ((T.getD k z50).f0, (T.getD k z50).f2) = p
theorem held_put {i:Nat} {m:List (Int × Int)} (h:Held T i m):Held T (i + 1) (mqPut ((T.getD i z50).f0,(T.getD i z50).f2) m) := by
 intro p
 have hm:mqHas p (mqPut ((T.getD i z50).f0,(T.getD i z50).f2) m) = true ↔ mqHas p m = true ∨ ((T.getD i z50).f0,(T.getD i z50).f2) = p:=by
  unfold mqPut
  by_cases c:mqHas ((T.getD i z50).f0,(T.getD i z50).f2) m = true
  ·rw [if_pos c]
   constructor
   ·exact .inl
   ·rintro (k | k)
    ·exact k
    ·rw [← k];exact c
  ·rw [if_neg c]
   unfold mqHas
   simp only [List.contains_eq_mem,List.mem_append,List.mem_singleton,decide_eq_true_eq]
   constructor
   ·rintro (k | k)
    ·exact .inl k
    ·exact .inr k.symm
   ·rintro (k | k)
    ·exact .inl k
    ·exact .inr k.symm
 rw [hm,h p]
 constructor
 ·rintro (⟨k,k1,k2⟩ | k)
  ·exact ⟨k,by omega,k2⟩
  ·exact ⟨i,by omega,k⟩
 ·rintro ⟨k,k1,k2⟩
  by_cases e:k = i
  ·rw [e] at k2;exact .inr k2
  ·exact .inl ⟨k,by omega,k2⟩
open Classical in
theorem stand_l2 (hT:T.length ≤ 1000):∀ d i,i + d = T.length → ∀ m,Held T i m → Ev (fun k => lane_stand.l2 k T (T.length:Int) (i:Int) m) (if DistF T i then 0 else 7)
 | 0,i,hi,m,hm=>by
  rw [if_pos (show DistF T i from fun j h1 h2=>by omega)]
  exact Ev.step (fun k=>by simp only [lane_stand.l2];rfl) (Ev.neg (by omega) (Ev.now _))
 | d + 1,i,hi,m,hm=>by
  have ih:=stand_l2 hT d (i + 1) (by omega) _ (held_put hm)
  rw [show ((i + 1:Nat):Int) = (i:Int) + 1 by omega] at ih
  have hh:=hm ((T.getD i z50).f0,(T.getD i z50).f2)
  refine Ev.step (fun k=>by simp only [lane_stand.l2];rfl) (Ev.pos (by omega) (Ev.pos (by omega) (Ev.pos (by omega) ?_)))
  rw [rdT,wrap_in (x:=(i:Int) + 1) (by omega) (by omega)]
  have next:((T.getD i z50).f0 = -1 ∨ ¬ ∃ k,k < i ∧ Same (T.getD k z50) (T.getD i z50)) → (DistF T (i + 1) ↔ DistF T i):=by
   intro h0
   constructor
   ·intro h j h1 h2
    by_cases e:j = i
    ·rw [e];exact h0
    ·exact h j (by omega) h2
   ·intro h j h1 h2
    exact h j (by omega) h2
  by_cases c:(T.getD i z50).f0 = -1
  ·have:=next (.inl c)
   refine Ev.eq (Ev.pos c ih) ?_
   by_cases e:DistF T i
   ·rw [if_pos e,if_pos (this.2 e)]
   ·rw [if_neg e,if_neg (fun k=>e (this.1 k))]
  refine Ev.neg c ?_
  by_cases c2:mqHas ((T.getD i z50).f0,(T.getD i z50).f2) m = true
  ·refine Ev.eq (Ev.pos c2 (Ev.now _)) ?_
   rw [if_neg]
   intro hd
   obtain ⟨k,k1,k2⟩:=hh.1 c2
   simp only [Prod.mk.injEq] at k2
   exact (hd i (Nat.le_refl _) (by omega)).elim c (fun k3=>k3 ⟨k,k1,k2⟩)
  ·have:=next (.inr (fun ⟨k,k1,k2⟩=>c2 (hh.2 ⟨k,k1,by rw [k2.1,k2.2]⟩)))
   refine Ev.eq (Ev.neg c2 ih) ?_
   by_cases e:DistF T i
   ·rw [if_pos e,if_pos (this.2 e)]
   ·rw [if_neg e,if_neg (fun k=>e (this.1 k))]
open Classical in
theorem stand_ev (h:Good W H A Y) (hT:T.length ≤ 1000) (hm:Movs T) (C:List Int):Ev (fun k => lane_stand.f k W H A Y C T) (scode W H A T) := by
 have ha:=area h.hW h.hH
 unfold lane_stand.f
 have good0:∀ i,i < T.length → ((T.getD i z50).f0 = -1 ∨ (0 ≤ (T.getD i z50).f0 ∧ (T.getD i z50).f0 < W * H)) → ∀ r,Ev (fun k=>lane_stand.l0 k T (T.length:Int) ((i:Int) + 1) W H A Y C T) r → Ev (fun k=>lane_stand.l0 k T (T.length:Int) (i:Int) W H A Y C T) r:=by
  intro i hi hp r hr
  refine Ev.step (fun k=>by simp only [lane_stand.l0];rfl) (Ev.pos (by omega) (Ev.pos (by omega) (Ev.pos (by omega) ?_)))
  rw [rdT,wrap_in (x:=(i:Int) + 1) (by omega) (by omega),wrap_in (x:=W * H) (by omega) (by omega),wrap_in (x:=W * H - 1) (by omega) (by omega)]
  by_cases c:(T.getD i z50).f0 = -1
  ·exact Ev.pos c hr
  ·exact Ev.neg c (Ev.bindc (within_eq _ _) (Ev.pos (decide_eq_true (by omega)) hr))
 have bad0:∀ i,i < T.length → ¬ ((T.getD i z50).f0 = -1 ∨ (0 ≤ (T.getD i z50).f0 ∧ (T.getD i z50).f0 < W * H)) → Ev (fun k=>lane_stand.l0 k T (T.length:Int) (i:Int) W H A Y C T) 2:=by
  intro i hi hp
  refine Ev.step (fun k=>by simp only [lane_stand.l0];rfl) (Ev.pos (by omega) (Ev.pos (by omega) (Ev.pos (by omega) ?_)))
  rw [rdT,wrap_in (x:=W * H) (by omega) (by omega),wrap_in (x:=W * H - 1) (by omega) (by omega)]
  exact Ev.neg (fun c=>hp (.inl c)) (Ev.bindc (within_eq _ _) (Ev.neg (fun k=>by have:=of_decide_eq_true k;omega) (Ev.now _)))
 unfold scode
 by_cases t1:Tiles W H T
 rotate_left
 ·rw [if_neg t1]
  exact Ev.scan_some (g:=fun k i=>lane_stand.l0 k T (T.length:Int) i W H A Y C T) good0 bad0 T.length 0 (by omega) (by
   apply Classical.byContradiction
   intro hc
   exact t1 fun j h1 h2=>Classical.byContradiction fun h3=>hc ⟨j,h1,h2,h3⟩)
 rw [if_pos t1]
 refine Ev.scan_all (g:=fun k i=>lane_stand.l0 k T (T.length:Int) i W H A Y C T) (Ev.step (fun k=>by simp only [lane_stand.l0];rfl) (Ev.neg (by omega) ?_)) good0 T.length 0 (by omega) t1
 have good1:∀ i,i < T.length → ((T.getD i z50).f0 = -1 ∨ 0 ≤ meets W H A (T.getD i z50).f0 (T.getD i z50).f2) → ∀ r,Ev (fun k=>lane_stand.l1 k T (T.length:Int) ((i:Int) + 1) W H A Y C T) r → Ev (fun k=>lane_stand.l1 k T (T.length:Int) (i:Int) W H A Y C T) r:=by
  intro i hi hp r hr
  refine Ev.step (fun k=>by simp only [lane_stand.l1];rfl) (Ev.pos (by omega) (Ev.pos (by omega) (Ev.pos (by omega) ?_)))
  rw [rdT,wrap_in (x:=(i:Int) + 1) (by omega) (by omega)]
  by_cases c:(T.getD i z50).f0 = -1
  ·exact Ev.pos c hr
  have ht:=(t1 i (by omega) hi).resolve_left c
  have hs:0 ≤ (T.getD i z50).f2 ∧ (T.getD i z50).f2 ≤ 3:=by have:=hm i (by omega) hi;unfold Mov at this;rw [if_neg c] at this;exact this.2.1
  refine Ev.neg c (Ev.bindc (joined_eq h ht hs) (Ev.pos ?_ hr))
  exact decide_eq_true (hp.resolve_left c)
 have bad1:∀ i,i < T.length → ¬ ((T.getD i z50).f0 = -1 ∨ 0 ≤ meets W H A (T.getD i z50).f0 (T.getD i z50).f2) → Ev (fun k=>lane_stand.l1 k T (T.length:Int) (i:Int) W H A Y C T) 8:=by
  intro i hi hp
  refine Ev.step (fun k=>by simp only [lane_stand.l1];rfl) (Ev.pos (by omega) (Ev.pos (by omega) (Ev.pos (by omega) ?_)))
  rw [rdT]
  have c:¬ (T.getD i z50).f0 = -1:=fun c=>hp (.inl c)
  have ht:=(t1 i (by omega) hi).resolve_left c
  have hs:0 ≤ (T.getD i z50).f2 ∧ (T.getD i z50).f2 ≤ 3:=by have:=hm i (by omega) hi;unfold Mov at this;rw [if_neg c] at this;exact this.2.1
  exact Ev.neg c (Ev.bindc (joined_eq h ht hs) (Ev.neg (fun k=>hp (.inr (of_decide_eq_true k))) (Ev.now _)))
 by_cases t2:Joins W H A T
 rotate_left
 ·rw [if_neg t2]
  exact Ev.scan_some (g:=fun k i=>lane_stand.l1 k T (T.length:Int) i W H A Y C T) good1 bad1 T.length 0 (by omega) (by
   apply Classical.byContradiction
   intro hc
   exact t2 fun j h1 h2=>Classical.byContradiction fun h3=>hc ⟨j,h1,h2,h3⟩)
 rw [if_pos t2]
 refine Ev.scan_all (g:=fun k i=>lane_stand.l1 k T (T.length:Int) i W H A Y C T) (Ev.step (fun k=>by simp only [lane_stand.l1];rfl) (Ev.neg (by omega) ?_)) good1 T.length 0 (by omega) t2
 exact stand_l2 hT T.length 0 (by omega) [] (fun p=>by simp [mqHas])
open Classical in
theorem lane_validate_ev (hA:A.length ≤ 4000) (hY:Y.length ≤ 4000) (hC:C.length ≤ 4000) (hT:T.length ≤ 1000):Ev (fun k => lane_Validate.f k W H A Y C T) (lcode W H A Y C T) := by
 unfold lane_Validate.f lcode
 refine Ev.bind (validate_ev hA hY) ?_
 by_cases hv:vcode W H A Y = 0
 rotate_left
 ·rw [if_neg hv];exact Ev.neg hv (Ev.now _)
 rw [if_pos hv]
 refine Ev.pos hv ?_
 by_cases h60:T.length > 60
 ·rw [if_pos h60];exact Ev.pos (by omega) (Ev.now _)
 rw [if_neg h60]
 refine Ev.neg (by omega) ?_
 have good0:∀ i,i < C.length → (0 < i → C.getD (i - 1) 0 < C.getD i 0) → ∀ r,Ev (fun k=>lane_Validate.l0 k (C.length:Int) ((i:Int) + 1) W H A Y C T) r → Ev (fun k=>lane_Validate.l0 k (C.length:Int) (i:Int) W H A Y C T) r:=by
  intro i hi hp r hr
  refine Ev.step (fun k=>by simp only [lane_Validate.l0];rfl) (Ev.pos (by omega) ?_)
  rw [wrap_in (x:=(i:Int) + 1) (by omega) (by omega)]
  by_cases c:0 < i
  ·have hp:=hp c
   refine Ev.pos (by omega) ?_
   rw [wrap_in (x:=(i:Int) - 1) (by omega) (by omega),show (i:Int) - 1 = ((i - 1:Nat):Int) by omega,rdN,rdN]
   exact Ev.pos (by omega) (Ev.pos (by omega) (Ev.pos (by omega) (Ev.pos (by omega) (Ev.neg (by omega) hr))))
  ·exact Ev.neg (by omega) hr
 have bad0:∀ i,i < C.length → ¬ (0 < i → C.getD (i - 1) 0 < C.getD i 0) → Ev (fun k=>lane_Validate.l0 k (C.length:Int) (i:Int) W H A Y C T) 1:=by
  intro i hi hp
  refine Ev.step (fun k=>by simp only [lane_Validate.l0];rfl) (Ev.pos (by omega) ?_)
  rw [Classical.not_imp] at hp
  refine Ev.pos (by omega) ?_
  rw [wrap_in (x:=(i:Int) - 1) (by omega) (by omega),show (i:Int) - 1 = ((i - 1:Nat):Int) by omega,rdN,rdN]
  exact Ev.pos (by omega) (Ev.pos (by omega) (Ev.pos (by omega) (Ev.pos (by omega) (Ev.pos (by omega) (Ev.now _)))))
 by_cases hs:Sorted C
 rotate_left
 ·rw [if_neg hs]
  exact Ev.scan_some (g:=fun k i=>lane_Validate.l0 k (C.length:Int) i W H A Y C T) good0 bad0 C.length 0 (by omega) (not_all hs)
 rw [if_pos hs]
 refine Ev.scan_all (g:=fun k i=>lane_Validate.l0 k (C.length:Int) i W H A Y C T) (Ev.step (fun k=>by simp only [lane_Validate.l0];rfl) (Ev.neg (by omega) ?_)) good0 C.length 0 (by omega) hs
 have good1:∀ i,i < T.length → Mov (T.getD i z50) → ∀ r,Ev (fun k=>lane_Validate.l1 k T (T.length:Int) ((i:Int) + 1) W H A Y C T) r → Ev (fun k=>lane_Validate.l1 k T (T.length:Int) (i:Int) W H A Y C T) r:=by
  intro i hi hp r hr
  refine Ev.step (fun k=>by simp only [lane_Validate.l1];rfl) (Ev.pos (by omega) (Ev.pos (by omega) (Ev.pos (by omega) ?_)))
  rw [rdT,wrap_in (x:=(i:Int) + 1) (by omega) (by omega)]
  exact Ev.bindc (moves_eq _) (Ev.pos (decide_eq_true hp) hr)
 have bad1:∀ i,i < T.length → ¬ Mov (T.getD i z50) → Ev (fun k=>lane_Validate.l1 k T (T.length:Int) (i:Int) W H A Y C T) 1:=by
  intro i hi hp
  refine Ev.step (fun k=>by simp only [lane_Validate.l1];rfl) (Ev.pos (by omega) (Ev.pos (by omega) (Ev.pos (by omega) ?_)))
  rw [rdT]
  exact Ev.bindc (moves_eq _) (Ev.neg (fun k=>hp (of_decide_eq_true k)) (Ev.now _))
 by_cases hm:Movs T
 rotate_left
 ·rw [if_neg hm]
  exact Ev.scan_some (g:=fun k i=>lane_Validate.l1 k T (T.length:Int) i W H A Y C T) good1 bad1 T.length 0 (by omega) (not_all hm)
 rw [if_pos hm]
 exact Ev.scan_all (g:=fun k i=>lane_Validate.l1 k T (T.length:Int) i W H A Y C T) (Ev.step (fun k=>by simp only [lane_Validate.l1];rfl) (Ev.neg (by omega) (Ev.bind (stand_ev (good_of hv) hT hm C) (Ev.now _)))) good1 T.length 0 (by omega) hm
end
theorem piece_eq (x:S50):hinterlandref17_piece.f x.f0 x.f1 x.f2 x.f3 x.f4 = some (decide (¬ Mov x)) := by
 have bad:¬ ((-1 ≤ x.f1 ∧ x.f1 ≤ 3) ∧ (0 ≤ x.f2 ∧ x.f2 ≤ 3) ∧ (0 ≤ x.f3 ∧ x.f3 ≤ 192) ∧ (0 ≤ x.f4 ∧ x.f4 ≤ 191)) → decide (¬ Mov x) = true:=fun h=>decide_eq_true (fun m=>by
  unfold Mov at m
  split at m
  ·exact h ⟨by omega,by omega,by omega,by omega⟩
  ·exact h m)
 unfold hinterlandref17_piece.f
 by_cases h1:x.f1 < -1
 ·rw [if_pos h1,bad (by omega)]
 rw [if_neg h1]
 by_cases h2:x.f1 > 3
 ·rw [if_pos h2,bad (by omega)]
 rw [if_neg h2]
 by_cases h3:x.f2 < 0
 ·rw [if_pos h3,bad (by omega)]
 rw [if_neg h3]
 by_cases h4:x.f2 > 3
 ·rw [if_pos h4,bad (by omega)]
 rw [if_neg h4]
 by_cases h5:x.f3 < 0
 ·rw [if_pos h5,bad (by omega)]
 rw [if_neg h5]
 by_cases h6:x.f3 > 192
 ·rw [if_pos h6,bad (by omega)]
 rw [if_neg h6]
 by_cases h7:x.f4 < 0
 ·rw [if_pos h7,bad (by omega)]
 rw [if_neg h7]
 by_cases h8:x.f4 ≥ 192
 ·rw [if_pos h8,bad (by omega)]
 rw [if_neg h8]
 by_cases h0:x.f0 = -1
 rotate_left
 ·have m:Mov x:=by unfold Mov;rw [if_neg h0];exact ⟨by omega,by omega,by omega,by omega⟩
  rw [if_neg h0,decide_eq_false (fun k=>k m)]
 have mi:Mov x ↔ (x.f1 = -1 ∧ x.f2 = 0 ∧ x.f3 = 0 ∧ x.f4 = 0):=by unfold Mov;rw [if_pos h0]
 rw [if_pos h0]
 by_cases k1:x.f1 = -1
 rotate_left
 ·rw [if_neg k1,decide_eq_true (show ¬ Mov x from fun k=>k1 (mi.1 k).1)]
 rw [if_pos k1]
 by_cases k2:x.f2 = 0
 rotate_left
 ·rw [if_neg k2,decide_eq_true (show ¬ Mov x from fun k=>k2 (mi.1 k).2.1)]
 rw [if_pos k2]
 by_cases k3:x.f3 = 0
 rotate_left
 ·rw [if_neg k3,decide_eq_true (show ¬ Mov x from fun k=>k3 (mi.1 k).2.2.1)]
 rw [if_pos k3]
 by_cases k4:x.f4 = 0
 ·rw [decide_eq_false (fun k=>k (mi.2 ⟨k1,k2,k3,k4⟩)),show (x.f4 != 0) = false from bne_eq_false_iff_eq.2 k4]
 ·rw [decide_eq_true (show ¬ Mov x from fun k=>k4 (mi.1 k).2.2.2),show (x.f4 != 0) = true from bne_iff_ne.2 k4]
section
variable {W H : Int} {A Y C : List Int} {T : List S50}
def Tk (T : List S50) (i : Nat) (t s : Int) : Prop := ∃ k, k < T.length ∧ k ≠ i ∧ (T.getD k z50).f0 = t ∧ (T.getD k z50).f2 = s
open Classical in
theorem taken_ev (hT:T.length ≤ 1000) (i:Nat) (t s:Int) (W H:Int) (A Y C:List Int):Ev (fun k => hinterlandref17_taken.f k W H A Y C T (i:Int) t s) (decide (0 ≤ t ∧ Tk T i t s)) := by
 unfold hinterlandref17_taken.f
 have good:∀ j,j < T.length → ¬ (j ≠ i ∧ 0 ≤ t ∧ (T.getD j z50).f0 = t ∧ (T.getD j z50).f2 = s) → ∀ r,Ev (fun k=>hinterlandref17_taken.l0 k (i:Int) t s ((j:Int) + 1) W H A Y C T) r → Ev (fun k=>hinterlandref17_taken.l0 k (i:Int) t s (j:Int) W H A Y C T) r:=by
  intro j hj hp r hr
  refine Ev.step (fun k=>by simp only [hinterlandref17_taken.l0];rfl) (Ev.pos (by omega) ?_)
  rw [rdT,wrap_in (x:=(j:Int) + 1) (by omega) (by omega)]
  by_cases c:j = i
  ·exact Ev.pos (by omega) hr
  refine Ev.neg (by omega) ?_
  by_cases c0:t ≥ 0
  rotate_left
  ·exact Ev.neg c0 hr
  refine Ev.pos c0 (Ev.pos (by omega) ?_)
  by_cases c1:(T.getD j z50).f0 = t
  rotate_left
  ·exact Ev.neg c1 hr
  refine Ev.pos c1 ?_
  by_cases c2:(T.getD j z50).f2 = s
  ·exact absurd ⟨c,c0,c1,c2⟩ hp
  ·exact Ev.neg c2 hr
 have bad:∀ j,j < T.length → ¬ ¬ (j ≠ i ∧ 0 ≤ t ∧ (T.getD j z50).f0 = t ∧ (T.getD j z50).f2 = s) → Ev (fun k=>hinterlandref17_taken.l0 k (i:Int) t s (j:Int) W H A Y C T) true:=by
  intro j hj hp
  obtain ⟨p1,p2,p3,p4⟩:=Classical.not_not.1 hp
  refine Ev.step (fun k=>by simp only [hinterlandref17_taken.l0];rfl) (Ev.pos (by omega) ?_)
  rw [rdT]
  exact Ev.neg (by omega) (Ev.pos p2 (Ev.pos (by omega) (Ev.pos p3 (Ev.pos p4 (Ev.now _)))))
 by_cases c:0 ≤ t ∧ Tk T i t s
 ·rw [decide_eq_true c]
  obtain ⟨c0,k,k1,k2,k3,k4⟩:=c
  exact Ev.scan_some (g:=fun k j=>hinterlandref17_taken.l0 k (i:Int) t s j W H A Y C T) good bad T.length 0 (by omega) ⟨k,by omega,k1,fun h=>h ⟨k2,c0,k3,k4⟩⟩
 ·rw [decide_eq_false c]
  exact Ev.scan_all (g:=fun k j=>hinterlandref17_taken.l0 k (i:Int) t s j W H A Y C T) (Ev.step (fun k=>by simp only [hinterlandref17_taken.l0];rfl) (Ev.neg (by omega) (Ev.now _))) good T.length 0 (by omega) (fun j _ hj h=>c ⟨h.2.1,j,hj,h.1,h.2.2.1,h.2.2.2⟩)
theorem dist_iff (ht:Tiles W H T):DistF T 0 ↔ ∀ i,0 ≤ i → i < T.length → ¬ (0 ≤ (T.getD i z50).f0 ∧ Tk T i (T.getD i z50).f0 (T.getD i z50).f2) := by
 constructor
 ·rintro h i _ hi ⟨h0,k,k1,k2,k3,k4⟩
  rcases Nat.lt_or_gt_of_ne k2 with c | c
  ·exact (h i (by omega) hi).elim (fun e=>by omega) (fun e=>e ⟨k,c,k3,k4⟩)
  ·exact (h k (by omega) k1).elim (fun e=>by omega) (fun e=>e ⟨i,c,k3.symm,k4.symm⟩)
 ·intro h j _ hj
  by_cases c:(T.getD j z50).f0 = -1
  ·exact .inl c
  refine .inr ?_
  rintro ⟨k,k1,k2,k3⟩
  have:=(ht j (by omega) hj).resolve_left c
  exact h j (by omega) hj ⟨by omega,k,by omega,by omega,k2,k3⟩
open Classical in
theorem ref_lane_validate_ev (hA:A.length ≤ 4000) (hY:Y.length ≤ 4000) (hC:C.length ≤ 4000) (hT:T.length ≤ 1000):Ev (fun k => hinterlandref17_Validate.f k W H A Y C T) (lcode W H A Y C T) := by
 unfold hinterlandref17_Validate.f lcode
 refine Ev.bind (ref_validate_ev hA hY) ?_
 by_cases hv:vcode W H A Y = 0
 rotate_left
 ·rw [if_neg hv];exact Ev.neg hv (Ev.now _)
 rw [if_pos hv]
 refine Ev.pos hv ?_
 by_cases h60:T.length > 60
 ·rw [if_pos h60];exact Ev.pos (by omega) (Ev.now _)
 rw [if_neg h60]
 refine Ev.neg (by omega) ?_
 have h:=good_of hv
 have hAl:=h.hA
 have good0:∀ i,i < C.length → (0 < i → C.getD (i - 1) 0 < C.getD i 0) → ∀ r,Ev (fun k=>hinterlandref17_Validate.l0 k (((i + 1:Nat):Int)) W H A Y C T) r → 0 < i → Ev (fun k=>hinterlandref17_Validate.l0 k (i:Int) W H A Y C T) r:=by
  intro i hi hp r hr c
  have hp:=hp c
  refine Ev.step (fun k=>by simp only [hinterlandref17_Validate.l0];rfl) (Ev.pos (by omega) ?_)
  rw [wrap_in (x:=(i:Int) + 1) (by omega) (by omega),wrap_in (x:=(i:Int) - 1) (by omega) (by omega),show (i:Int) - 1 = ((i - 1:Nat):Int) by omega,rdN,rdN,show (i:Int) + 1 = ((i + 1:Nat):Int) by omega]
  exact Ev.pos (by omega) (Ev.pos (by omega) (Ev.pos (by omega) (Ev.neg (by omega) hr)))
 have bad0:∀ i,i < C.length → 0 < i → ¬ (C.getD (i - 1) 0 < C.getD i 0) → Ev (fun k=>hinterlandref17_Validate.l0 k (i:Int) W H A Y C T) 1:=by
  intro i hi c hp
  refine Ev.step (fun k=>by simp only [hinterlandref17_Validate.l0];rfl) (Ev.pos (by omega) ?_)
  rw [wrap_in (x:=(i:Int) - 1) (by omega) (by omega),show (i:Int) - 1 = ((i - 1:Nat):Int) by omega,rdN,rdN]
  exact Ev.pos (by omega) (Ev.pos (by omega) (Ev.pos (by omega) (Ev.pos (by omega) (Ev.now _))))
 have l0:∀ r,Ev (fun k=>hinterlandref17_Validate.l1 k (0:Int) W H A Y C T) r → ∀ d i,0 < i → i + d = C.length + 1 → Ev (fun k=>hinterlandref17_Validate.l0 k (i:Int) W H A Y C T) (if ∀ j,i ≤ j → j < C.length → C.getD (j - 1) 0 < C.getD j 0 then r else 1):=by
  intro r hr d
  induction d with
  | zero =>
   intro i h0 hi
   rw [if_pos (fun j h1 h2=>by omega)]
   exact Ev.step (fun k=>by simp only [hinterlandref17_Validate.l0];rfl) (Ev.neg (by omega) hr)
  | succ d ih =>
   intro i h0 hi
   have ih:=ih (i + 1) (by omega) (by omega)
   by_cases e:i < C.length
   rotate_left
   ·rw [if_pos (fun j h1 h2=>by omega)]
    exact Ev.step (fun k=>by simp only [hinterlandref17_Validate.l0];rfl) (Ev.neg (by omega) hr)
   by_cases c:C.getD (i - 1) 0 < C.getD i 0
   ·refine Ev.eq (good0 i e (fun _=>c) _ ih h0) ?_
    by_cases q:∀ j,i ≤ j → j < C.length → C.getD (j - 1) 0 < C.getD j 0
    ·rw [if_pos q,if_pos (fun j h1 h2=>q j (by omega) h2)]
    ·rw [if_neg q,if_neg (fun q2=>q (fun j h1 h2=>by
      by_cases e2:j = i
      ·rw [e2];exact c
      ·exact q2 j (by omega) h2))]
   ·rw [if_neg (fun q=>c (q i (Nat.le_refl _) e))]
    exact bad0 i e h0 c
 have good1:∀ i,i < T.length → Mov (T.getD i z50) → ∀ r,Ev (fun k=>hinterlandref17_Validate.l1 k ((i:Int) + 1) W H A Y C T) r → Ev (fun k=>hinterlandref17_Validate.l1 k (i:Int) W H A Y C T) r:=by
  intro i hi hp r hr
  refine Ev.step (fun k=>by simp only [hinterlandref17_Validate.l1];rfl) (Ev.pos (by omega) (Ev.pos (by omega) ?_))
  rw [rdT,wrap_in (x:=(i:Int) + 1) (by omega) (by omega)]
  exact Ev.bindc (piece_eq _) (Ev.neg (fun k=>of_decide_eq_true k hp) hr)
 have bad1:∀ i,i < T.length → ¬ Mov (T.getD i z50) → Ev (fun k=>hinterlandref17_Validate.l1 k (i:Int) W H A Y C T) 1:=by
  intro i hi hp
  refine Ev.step (fun k=>by simp only [hinterlandref17_Validate.l1];rfl) (Ev.pos (by omega) (Ev.pos (by omega) ?_))
  rw [rdT]
  exact Ev.bindc (piece_eq _) (Ev.pos (decide_eq_true hp) (Ev.now _))
 have good2:∀ i,i < T.length → ((T.getD i z50).f0 = -1 ∨ (0 ≤ (T.getD i z50).f0 ∧ (T.getD i z50).f0 < W * H)) → ∀ r,Ev (fun k=>hinterlandref17_Validate.l2 k ((i:Int) + 1) W H A Y C T) r → Ev (fun k=>hinterlandref17_Validate.l2 k (i:Int) W H A Y C T) r:=by
  intro i hi hp r hr
  refine Ev.step (fun k=>by simp only [hinterlandref17_Validate.l2];rfl) (Ev.pos (by omega) (Ev.pos (by omega) ?_))
  rw [rdT,wrap_in (x:=(i:Int) + 1) (by omega) (by omega)]
  exact Ev.neg (by omega) (Ev.neg (by have:=area h.hW h.hH;omega) hr)
 have bad2:∀ i,i < T.length → ¬ ((T.getD i z50).f0 = -1 ∨ (0 ≤ (T.getD i z50).f0 ∧ (T.getD i z50).f0 < W * H)) → Ev (fun k=>hinterlandref17_Validate.l2 k (i:Int) W H A Y C T) 2:=by
  intro i hi hp
  refine Ev.step (fun k=>by simp only [hinterlandref17_Validate.l2];rfl) (Ev.pos (by omega) (Ev.pos (by omega) ?_))
  rw [rdT]
  by_cases c:(T.getD i z50).f0 < -1
  ·exact Ev.pos c (Ev.now _)
  ·exact Ev.neg c (Ev.pos (by omega) (Ev.now _))
 have fin:Movs T → Ev (fun k=>hinterlandref17_Validate.l2 k (0:Int) W H A Y C T) (scode W H A T):=by
  intro hm
  unfold scode
  by_cases t1:Tiles W H T
  rotate_left
  ·rw [if_neg t1]
   exact Ev.scan_some (g:=fun k i=>hinterlandref17_Validate.l2 k i W H A Y C T) good2 bad2 T.length 0 (by omega) (by
    apply Classical.byContradiction
    intro hc
    exact t1 fun j h1 h2=>Classical.byContradiction fun h3=>hc ⟨j,h1,h2,h3⟩)
  rw [if_pos t1]
  refine Ev.scan_all (g:=fun k i=>hinterlandref17_Validate.l2 k i W H A Y C T) (Ev.step (fun k=>by simp only [hinterlandref17_Validate.l2];rfl) (Ev.neg (by omega) ?_)) good2 T.length 0 (by omega) t1
  have good3:∀ i,i < T.length → ((T.getD i z50).f0 = -1 ∨ 0 ≤ meets W H A (T.getD i z50).f0 (T.getD i z50).f2) → ∀ r,Ev (fun k=>hinterlandref17_Validate.l3 k ((i:Int) + 1) W H A Y C T) r → Ev (fun k=>hinterlandref17_Validate.l3 k (i:Int) W H A Y C T) r:=by
   intro i hi hp r hr
   refine Ev.step (fun k=>by simp only [hinterlandref17_Validate.l3];rfl) (Ev.pos (by omega) (Ev.pos (by omega) ?_))
   rw [rdT,wrap_in (x:=(i:Int) + 1) (by omega) (by omega)]
   by_cases c:(T.getD i z50).f0 = -1
   ·exact Ev.pos (by omega) hr
   have ht:=(t1 i (by omega) hi).resolve_left c
   have hs:0 ≤ (T.getD i z50).f2 ∧ (T.getD i z50).f2 ≤ 3:=by have:=hm i (by omega) hi;unfold Mov at this;rw [if_neg c] at this;exact this.2.1
   exact Ev.neg (by omega) (Ev.bind (ref_linked_ev h ht hs) (Ev.pos (decide_eq_true (hp.resolve_left c)) hr))
  have bad3:∀ i,i < T.length → ¬ ((T.getD i z50).f0 = -1 ∨ 0 ≤ meets W H A (T.getD i z50).f0 (T.getD i z50).f2) → Ev (fun k=>hinterlandref17_Validate.l3 k (i:Int) W H A Y C T) 8:=by
   intro i hi hp
   refine Ev.step (fun k=>by simp only [hinterlandref17_Validate.l3];rfl) (Ev.pos (by omega) (Ev.pos (by omega) ?_))
   rw [rdT]
   have c:¬ (T.getD i z50).f0 = -1:=fun c=>hp (.inl c)
   have ht:=(t1 i (by omega) hi).resolve_left c
   have hs:0 ≤ (T.getD i z50).f2 ∧ (T.getD i z50).f2 ≤ 3:=by have:=hm i (by omega) hi;unfold Mov at this;rw [if_neg c] at this;exact this.2.1
   exact Ev.neg (by omega) (Ev.bind (ref_linked_ev h ht hs) (Ev.neg (fun k=>hp (.inr (of_decide_eq_true k))) (Ev.now _)))
  by_cases t2:Joins W H A T
  rotate_left
  ·rw [if_neg t2]
   exact Ev.scan_some (g:=fun k i=>hinterlandref17_Validate.l3 k i W H A Y C T) good3 bad3 T.length 0 (by omega) (by
    apply Classical.byContradiction
    intro hc
    exact t2 fun j h1 h2=>Classical.byContradiction fun h3=>hc ⟨j,h1,h2,h3⟩)
  rw [if_pos t2]
  refine Ev.scan_all (g:=fun k i=>hinterlandref17_Validate.l3 k i W H A Y C T) (Ev.step (fun k=>by simp only [hinterlandref17_Validate.l3];rfl) (Ev.neg (by omega) ?_)) good3 T.length 0 (by omega) t2
  have good4:∀ i,i < T.length → ¬ (0 ≤ (T.getD i z50).f0 ∧ Tk T i (T.getD i z50).f0 (T.getD i z50).f2) → ∀ r,Ev (fun k=>hinterlandref17_Validate.l4 k ((i:Int) + 1) W H A Y C T) r → Ev (fun k=>hinterlandref17_Validate.l4 k (i:Int) W H A Y C T) r:=by
   intro i hi hp r hr
   refine Ev.step (fun k=>by simp only [hinterlandref17_Validate.l4];rfl) (Ev.pos (by omega) (Ev.pos (by omega) ?_))
   rw [rdT,wrap_in (x:=(i:Int) + 1) (by omega) (by omega)]
   exact Ev.bind (taken_ev hT i _ _ W H A Y C) (Ev.neg (fun k=>hp (of_decide_eq_true k)) hr)
  have bad4:∀ i,i < T.length → ¬ ¬ (0 ≤ (T.getD i z50).f0 ∧ Tk T i (T.getD i z50).f0 (T.getD i z50).f2) → Ev (fun k=>hinterlandref17_Validate.l4 k (i:Int) W H A Y C T) 7:=by
   intro i hi hp
   refine Ev.step (fun k=>by simp only [hinterlandref17_Validate.l4];rfl) (Ev.pos (by omega) (Ev.pos (by omega) ?_))
   rw [rdT]
   exact Ev.bind (taken_ev hT i _ _ W H A Y C) (Ev.pos (decide_eq_true (Classical.not_not.1 hp)) (Ev.now _))
  by_cases t3:DistF T 0
  ·rw [if_pos t3]
   exact Ev.scan_all (g:=fun k i=>hinterlandref17_Validate.l4 k i W H A Y C T) (Ev.step (fun k=>by simp only [hinterlandref17_Validate.l4];rfl) (Ev.neg (by omega) (Ev.now _))) good4 T.length 0 (by omega) ((dist_iff t1).1 t3)
  ·rw [if_neg t3]
   exact Ev.scan_some (g:=fun k i=>hinterlandref17_Validate.l4 k i W H A Y C T) good4 bad4 T.length 0 (by omega) (by
    apply Classical.byContradiction
    intro hc
    exact t3 ((dist_iff t1).2 fun j h1 h2 h3=>hc ⟨j,h1,h2,fun h4=>h4 h3⟩))
 have mid:Ev (fun k=>hinterlandref17_Validate.l1 k (0:Int) W H A Y C T) (if Movs T then scode W H A T else 1):=by
  by_cases hm:Movs T
  ·rw [if_pos hm]
   exact Ev.scan_all (g:=fun k i=>hinterlandref17_Validate.l1 k i W H A Y C T) (Ev.step (fun k=>by simp only [hinterlandref17_Validate.l1];rfl) (Ev.neg (by omega) (fin hm))) good1 T.length 0 (by omega) hm
  ·rw [if_neg hm]
   exact Ev.scan_some (g:=fun k i=>hinterlandref17_Validate.l1 k i W H A Y C T) good1 bad1 T.length 0 (by omega) (not_all hm)
 have:=l0 _ mid C.length 1 (by omega) (by omega)
 refine Ev.eq this ?_
 by_cases hs:Sorted C
 ·rw [if_pos hs,if_pos (fun j h1 h2=>hs j (by omega) h2 (by omega))]
 ·rw [if_neg hs,if_neg (fun q=>hs (fun j _ h2 h3=>q j (by omega) h2))]
end
theorem known_ev:Ev (fun k => hinterlandlaw17_known.f k) true := by
 refine Ev.of (fun k=>hinterlandlaw17_known.mono k) (k:=60) ?_
 decide +kernel
theorem known_then:Ev (fun k => (hinterlandlaw17_known.f k).bind fun t => some t) true := Ev.bind known_ev (Ev.now _)
theorem far_eq (W H:Int) (A Y C:List Int) (T:List S50):hinterlandlaw17_far.f W H A Y C T = some (decide ((A.length:Int) > 1100 ∨ (Y.length:Int) > 1100 ∨ (C.length:Int) > 1100 ∨ (T.length:Int) > 100)) := by
 unfold hinterlandlaw17_far.f hinterlandlaw17_wide.f
 by_cases h1:(A.length:Int) > 1100
 ·rw [if_pos h1,Option.bind_some,if_pos rfl,decide_eq_true (.inl h1)]
 rw [if_neg h1,Option.bind_some]
 by_cases h2:(Y.length:Int) > 1100
 ·rw [decide_eq_true h2,if_pos rfl,decide_eq_true (.inr (.inl h2))]
 rw [decide_eq_false h2,if_neg (by simp)]
 by_cases h3:(C.length:Int) > 1100
 ·rw [if_pos h3,decide_eq_true (.inr (.inr (.inl h3)))]
 ·rw [if_neg h3];congr 1;apply decide_eq_decide.2;omega
section
variable {W H : Int} {A Y C : List Int} {T : List S50}
open Classical in
theorem held_ev (hT:T.length ≤ 1000) (i:Nat) (t s:Int) (W H:Int) (A Y C:List Int):Ev (fun k => lane_held.f k W H A Y C T (i:Int) t s) (decide (Tk T i t s)) := by
 unfold lane_held.f
 have good:∀ j,j < T.length → ¬ (j ≠ i ∧ (T.getD j z50).f0 = t ∧ (T.getD j z50).f2 = s) → ∀ r,Ev (fun k=>lane_held.l0 k (i:Int) T (T.length:Int) ((j:Int) + 1) t s) r → Ev (fun k=>lane_held.l0 k (i:Int) T (T.length:Int) (j:Int) t s) r:=by
  intro j hj hp r hr
  refine Ev.step (fun k=>by simp only [lane_held.l0];rfl) (Ev.pos (by omega) (Ev.pos (by omega) (Ev.pos (by omega) ?_)))
  rw [rdT,wrap_in (x:=(j:Int) + 1) (by omega) (by omega)]
  by_cases c:j = i
  ·exact Ev.pos (by omega) hr
  refine Ev.neg (by omega) ?_
  by_cases c1:(T.getD j z50).f0 = t
  rotate_left
  ·exact Ev.neg c1 hr
  refine Ev.pos c1 ?_
  by_cases c2:(T.getD j z50).f2 = s
  ·exact absurd ⟨c,c1,c2⟩ hp
  ·exact Ev.neg c2 hr
 have bad:∀ j,j < T.length → ¬ ¬ (j ≠ i ∧ (T.getD j z50).f0 = t ∧ (T.getD j z50).f2 = s) → Ev (fun k=>lane_held.l0 k (i:Int) T (T.length:Int) (j:Int) t s) true:=by
  intro j hj hp
  obtain ⟨p1,p3,p4⟩:=Classical.not_not.1 hp
  refine Ev.step (fun k=>by simp only [lane_held.l0];rfl) (Ev.pos (by omega) (Ev.pos (by omega) (Ev.pos (by omega) ?_)))
  rw [rdT]
  exact Ev.neg (by omega) (Ev.pos p3 (Ev.pos p4 (Ev.now _)))
 by_cases c:Tk T i t s
 ·rw [decide_eq_true c]
  obtain ⟨k,k1,k2,k3,k4⟩:=c
  exact Ev.scan_some (g:=fun k j=>lane_held.l0 k (i:Int) T (T.length:Int) j t s) good bad T.length 0 (by omega) ⟨k,by omega,k1,fun h=>h ⟨k2,k3,k4⟩⟩
 ·rw [decide_eq_false c]
  exact Ev.scan_all (g:=fun k j=>lane_held.l0 k (i:Int) T (T.length:Int) j t s) (Ev.step (fun k=>by simp only [lane_held.l0];rfl) (Ev.neg (by omega) (Ev.now _))) good T.length 0 (by omega) (fun j _ hj h=>c ⟨j,hj,h.1,h.2.1,h.2.2⟩)
theorem same_ints (l:List Int) (hl:l.length ≤ 4000):Ev (fun k => hinterlandsame_List_int.f k l l) true := by
 unfold hinterlandsame_List_int.f
 refine Ev.pos rfl (Ev.scan_all (g:=fun k j=>hinterlandsame_List_int.l0 k l l j) (n:=l.length) (p:=fun _=>True) (Ev.step (fun k=>by simp only [hinterlandsame_List_int.l0];rfl) (Ev.neg (by omega) (Ev.now _))) ?_ l.length 0 (by omega) (fun _ _ _=>trivial))
 intro j hj _ r hr
 refine Ev.step (fun k=>by simp only [hinterlandsame_List_int.l0];rfl) (Ev.pos (by omega) (Ev.pos (by omega) (Ev.pos (by omega) ?_)))
 refine Ev.pos (by simp) ?_
 rw [wrap_in (x:=(j:Int) + 1) (by omega) (by omega)]
 exact hr
theorem same_trucks (l:List S50) (hl:l.length ≤ 1000):Ev (fun k => api_Truck_48.f k l l) true := by
 unfold api_Truck_48.f
 refine Ev.pos rfl (Ev.scan_all (g:=fun k j=>api_Truck_48.l0 k l l j) (n:=l.length) (p:=fun _=>True) (Ev.step (fun k=>by simp only [api_Truck_48.l0];rfl) (Ev.neg (by omega) (Ev.now _))) ?_ l.length 0 (by omega) (fun _ _ _=>trivial))
 intro j hj _ r hr
 refine Ev.step (fun k=>by simp only [api_Truck_48.l0];rfl) (Ev.pos (by omega) (Ev.pos (by omega) (Ev.pos (by omega) (Ev.neg (by simp) ?_))))
 rw [wrap_in (x:=(j:Int) + 1) (by omega) (by omega)]
 exact hr
theorem same_lane (W H:Int) (hA:A.length ≤ 4000) (hY:Y.length ≤ 4000) (hC:C.length ≤ 4000) (hT:T.length ≤ 1000):Ev (fun k => hinterlandsame_Lane.f k W H A Y C T W H A Y C T) true := by
 unfold hinterlandsame_Lane.f hinterlandsame_Streets.f
 refine Ev.bind (Ev.pos rfl (Ev.pos rfl (Ev.bind (same_ints A hA) (Ev.pos rfl (Ev.bind (same_ints Y hY) (Ev.now _)))))) (Ev.pos rfl (Ev.bind (same_ints C hC) (Ev.pos rfl (Ev.bind (same_trucks T hT) (Ev.now _)))))
theorem copied_eq (W H:Int) (hA:A.length ≤ 4000) (hY:Y.length ≤ 4000) (hC:C.length ≤ 4000) (hT:T.length ≤ 1000):lane_copied.f W H A Y C T = some (W,H,A,Y,C,T) := by
 unfold lane_copied.f slices_Clone_int_int.f api_Truck_70.f
 rw [if_pos (by omega),Option.bind_some,if_pos (by omega),Option.bind_some,if_pos (by omega),Option.bind_some,if_pos (by omega),Option.bind_some]
theorem ref_copy_eq (W H:Int) (hA:A.length ≤ 4000) (hY:Y.length ≤ 4000) (hC:C.length ≤ 4000) (hT:T.length ≤ 1000):hinterlandref17_Copy.f W H A Y C T = some (W,H,A,Y,C,T) := by
 unfold hinterlandref17_Copy.f
 simp only [Option.bind_some,List.length_nil,List.nil_append,Nat.zero_add]
 rw [if_pos (by omega),if_pos (by omega),if_pos (by omega),if_pos (by omega)]
abbrev noL (c : Int) : Int × Int × List Int × List Int × List Int × List S50 × Int := (0, 0, [], [], [], [], c)
theorem noL_same (c:Int):Ev (fun k => hinterlandsame_Lane.f k (noL c).1 (noL c).2.1 (noL c).2.2.1 (noL c).2.2.2.1 (noL c).2.2.2.2.1 (noL c).2.2.2.2.2.1 (noL c).1 (noL c).2.1 (noL c).2.2.1 (noL c).2.2.2.1 (noL c).2.2.2.2.1 (noL c).2.2.2.2.2.1) true := same_lane 0 0 (by simp) (by simp) (by simp) (by simp)
end
end Go.Proofs.Ythjmdpekcleihaa.Pure
