/- Functions of this seat as plain Lean functions, with proofs that the Go code comes to just their answers, or what stands between them and a law's statement; no conditions. (Laid by a program of this session, out of the kit's print.) -/
import Derived.Test.YtiencnnkphipoaaPx0
import Derived.Shelf.Lays2
import Derived.Shelf.Spec.SlicesInsert
import Derived.Shelf.Spec.SlicesInsertGrow
namespace Go.Proofs.Ytiencnnkphipoaa.P
open Go.RowKit Go.Proofs.YtiencnnkphipoaaW.PrintWords Go.Proofs.YtiencnnkphipoaaW.PrintLast Go.Proofs.YtiencnnkphipoaaW.PrintMore
attribute [local go_sem] max2_int min2_int max_two min_two max_three min_three max_four min_four   -- for this text's walks alone
set_option linter.unusedVariables false
set_option linter.unusedSimpArgs false

-- plug-in
/-! ### slices_Insert_int_int: function 60 -/
def slices_Insert_int_int.f (l0 : List Int) (a1 : Int) (l2 : List Int) : Option (List Int) := if 0 ≤ a1 ∧ a1 ≤ (l0.length : Int) ∧ 0 < l2.length ∧ l0.length + l2.length ≤ 17592186044416 then some (l0.take a1.toNat ++ l2 ++ l0.drop a1.toNat) else none
def slices_Insert_int_int.ren : Go.Shelf.Ren := ⟨fun x => match x with | 21 => 60 | 27 => 73 | 28 => 74 | 35 => 78 | 39 => 80 | x => x, fun x => x, fun x => x⟩
theorem slices_Insert_int_int.lay : Lays2.n21 Try.prog slices_Insert_int_int.ren where
 mixed:=by kernel_rfl
 f21:=Try.func60.trans (by kernel_rfl)
 f27:=Try.func73.trans (by kernel_rfl)
 f28:=Try.func74.trans (by kernel_rfl)
 f35:=Try.func78.trans (by kernel_rfl)
 f39:=Try.func80.trans (by kernel_rfl)
 t0:=Try.underlying0
 a0:=fun w => by kernel_rfl
 z0:=fun w => by kernel_rfl
 v0:=fun w => by kernel_rfl
 t3:=Try.underlying3
 a3:=fun w => by kernel_rfl
 z3:=fun w => by kernel_rfl
 v3:=fun w => by kernel_rfl
 t4:=Try.underlying4
 a4:=fun w => by kernel_rfl
 z4:=fun w => by kernel_rfl
 v4:=fun w => by kernel_rfl
 t22:=Try.underlying22
 a22:=fun w => by kernel_rfl
 z22:=fun w => by kernel_rfl
 v22:=fun w => by kernel_rfl
 i3:=by kernel_rfl
theorem slices_Insert_int_int.reps {R : Int → List Value → Prop} (hR : ∀ p c, R p c → c = [Value.int .i64 p]) {ps : List Int} {cs : List Value} (h : Reps R 1 ps cs) : cs = ps.map (Value.int .i64) := by
 have hl : cs.length = ps.length:=by have:=h.1;omega
 apply List.ext_getElem (by simpa using hl)
 intro j h1 h2
 have hj : j < ps.length:=by omega
 have:=hR _ _ (h.2 j _ (List.getElem?_eq_getElem hj))
 rw [Nat.mul_one] at this
 have e : ((cs.drop j).take 1)[0]? = some (Value.int .i64 ps[j]):=by rw [this];rfl
 rw [List.getElem?_take,if_pos (by omega),List.getElem?_drop,Nat.add_zero,List.getElem?_eq_getElem h1] at e
 simpa using e
theorem slices_Insert_int_int.reps_map {R : Int → List Value → Prop} (hR : ∀ p, R p [Value.int .i64 p]) (ps : List Int) : Reps R 1 ps (ps.map (Value.int .i64)) := by
 refine ⟨by simp,fun j p hj => ?_⟩
 have e : ((ps.map (Value.int .i64)).drop (j * 1)).take 1 = [Value.int .i64 p]:=by
  obtain ⟨hl,hp⟩:=List.getElem?_eq_some_iff.1 hj
  rw [Nat.mul_one,List.drop_eq_getElem_cons (by simpa using hl),List.take_succ_cons,List.take_zero,List.getElem_map,hp]
 rw [e]
 exact hR p
/-- a row that is made, or made longer, in one block -/
theorem slices_Insert_int_int.own {W : World} {base g cap : Nat} {ok : Nat → Prop} {r : List Int} {cur : Array Value} (hh : W.heap[g]? = some (.cells cur 3 (0, 0))) (hb : base ≤ g) (hok : ok g) (hn : r.length ≤ cap) (hm : cap ≤ maxLen) (hs : cur.size = cap) (ht : cur.toList.take r.length = r.map (Value.int .i64)) :
  Kd.R (Kd.int .i64) 3 W base ok (.slice (some ⟨g,0,none⟩) r.length cap) r:=by
 refine ⟨fun k hk => ?_,r.map (Value.int .i64),⟨by simp [Kd.int,Kd.scalar],.inr ⟨g,cap,cur,rfl,hb,hh,hn,hm,by rw [hs];exact (Nat.mul_one _).symm,by rw [show r.length * (Kd.int .i64).sz = r.length from Nat.mul_one _];exact ht⟩⟩,(show Reps ((Kd.int .i64).M W base _) 1 r _ from slices_Insert_int_int.reps_map (R:=(Kd.int .i64).M W base _) (fun p => (rfl : [Value.int .i64 p] = [Value.int .i64 p])) r)⟩
 have : g = k:=by injection hk
 rw [← this];exact hok
theorem slices_Insert_int_int.below {B g o : Nat} {w W : World} (vs : List Value) (h : Below B w W) (hg : B ≤ g) : Below B w (W.setCells g o vs) := by
 obtain ⟨q1,q2,q3,q4⟩:=setCells_same g vs o W
 exact ⟨q1.trans h.os,q2.trans h.tape,q3.trans h.output,by rw [q4];exact h.size,fun k hk => (setCells_far vs o k (by omega)).trans (h.block k hk)⟩
theorem slices_Insert_int_int.arg {w : World} {base : Nat} {ok S : Nat → Prop} {v : Value} {l : List Int} (h : Kd.R (Kd.int .i64) 3 w base ok v l) (hok : ∀ k, ok k → ¬ S k) : ∃ ok2 base2, (∀ k, ok2 k → ¬ S k) ∧ Kd.R (Kd.int .i64) 3 w base2 ok2 v l := ⟨ok, base, hok, h⟩
theorem slices_Insert_int_int.two1 (L vs ds : List Value) (i m : Nat) (hm : vs.length = m) (hl : i + m + ds.length ≤ L.length) : let A := L.take i ++ vs ++ L.drop (i + vs.length); (A.take (i + m) ++ ds ++ A.drop (i + m + ds.length)).take (i + m + ds.length) = L.take i ++ vs ++ ds := by
 intro A
 have h1 : (L.take i).length = i:=by rw [List.length_take];omega
 have h2 : A.take (i + m) = L.take i ++ vs:=List.take_left' (by rw [List.length_append,h1,hm])
 rw [h2,List.take_left' (by rw [List.length_append,List.length_append,h1,hm])]
theorem slices_Insert_int_int.two2 (L vs ds : List Value) (i m : Nat) (hm : vs.length = m) (hl : i + m + ds.length ≤ L.length) : let A := L.take (i + m) ++ ds ++ L.drop (i + m + ds.length); (A.take i ++ vs ++ A.drop (i + vs.length)).take (i + m + ds.length) = L.take i ++ vs ++ ds := by
 intro A
 have h0 : (L.take (i + m)).length = i + m:=by rw [List.length_take];omega
 have h1 : A.take i = L.take i:=by
  show (L.take (i + m) ++ ds ++ L.drop (i + m + ds.length)).take i = _
  rw [List.append_assoc,List.take_append_of_le_length (by omega),List.take_take]
  congr 1
  omega
 have h2 : A.drop (i + vs.length) = ds ++ L.drop (i + m + ds.length):=by
  show (L.take (i + m) ++ ds ++ L.drop (i + m + ds.length)).drop (i + vs.length) = _
  rw [hm,List.append_assoc,List.drop_left' h0]
 have h3 : (L.take i).length = i:=by rw [List.length_take];omega
 rw [h1,h2,← List.append_assoc,List.take_left' (by rw [List.length_append,List.length_append,h3,hm])]
set_option linter.unusedVariables false in
set_option maxHeartbeats 8000000 in
set_option maxRecDepth 100000 in
theorem slices_Insert_int_int.calls (P0_ : Nat → Prop) (u9000_ : Value) (l0 : List Int) (a1 : Int) (A2 : Option Addr) (c2 : Nat) (l2 : List Int) (r : List Int) (w0 w : World) (hB : Below w0.heap.size w0 w) (ho0 : Kd.R (Kd.int .i64) 3 w w0.heap.size P0_ u9000_ l0) (h2 : ∃ ok2 base2, (∀ k, ok2 k → ¬ P0_ k) ∧ Kd.R (Kd.int .i64) 3 w base2 ok2 (.slice A2 l2.length c2) l2) (hc2 : l2.length ≤ c2) (h : slices_Insert_int_int.f l0 a1 l2 = some r) :
  Calls Try.prog 60 #[u9000_,.int .i64 a1,.slice A2 l2.length c2] w fun e w' => ∃ v0_ : Value,e = .returned (v0_) ∧ Kd.R (Kd.int .i64) 3 w' w0.heap.size (fun k_ => (P0_ k_ ∨ w.heap.size ≤ k_)) v0_ r ∧ Below w0.heap.size w0 w' ∧ Kept w w' (fun k_ => P0_ k_):=by
 unfold slices_Insert_int_int.f at h
 by_cases hc : 0 ≤ a1 ∧ a1 ≤ (l0.length : Int) ∧ 0 < l2.length ∧ l0.length + l2.length ≤ 17592186044416
 rotate_left
 ·rw [if_neg hc] at h;exact absurd h (by simp)
 rw [if_pos hc] at h
 obtain rfl:=Option.some.inj h
 obtain ⟨i,rfl⟩:=Int.eq_ofNat_of_zero_le hc.1
 have hi : i ≤ l0.length:=by omega
 have hm : 0 < l2.length:=hc.2.2.1
 have hbig : (l0.length + l2.length) * 8 ≤ 140737488355328:=by omega
 simp only [Int.toNat_natCast,Int.ofNat_eq_natCast]
 -- the values
 obtain ⟨ok2,base2,hap,hok2,inner2,⟨hl2,hf2⟩,hr2⟩:=h2
 rcases hf2 with ⟨_,hx⟩|⟨vb,cap2,cur2,hv2,hb2,hh2,hn2,hm2,hs2,ht2⟩
 ·omega
 have hA2 : A2 = some ⟨vb,0,none⟩:=by injection hv2
 subst hA2
 have hi2 : inner2 = l2.map (Value.int .i64):=slices_Insert_int_int.reps (fun p c hp => hp) hr2
 have hvb : ¬ P0_ vb:=hap vb (hok2 vb rfl)
 have ht2' : cur2.toList.take l2.length = l2.map (Value.int .i64):=by rw [← hi2,← ht2];rw [show l2.length * (Kd.int .i64).sz = l2.length from Nat.mul_one _]
 have hs2' : cur2.size = cap2:=by rw [hs2];exact Nat.mul_one _
 have hvl : (l2.map (Value.int .i64)).length = l2.length:=by simp
 have hvs : ∀ j v,(l2.map (Value.int .i64))[j]? = some v → w.cell? ⟨vb,0 + j,none⟩ = some v:=by
  intro j v hj
  rw [Nat.zero_add,blk_cell hh2,← Array.getElem?_toList]
  rw [← ht2',List.getElem?_take] at hj
  split at hj
  ·exact hj
  ·cases hj
 have h1v : ∀ v ∈ l2.map (Value.int .i64),v.oneCell' = true:=by
  intro v hv
  obtain ⟨x,_,rfl⟩:=List.mem_map.1 hv
  rfl
 have hrl : (l0.take i ++ l2 ++ l0.drop i).length = l0.length + l2.length:=by simp;omega
 have hmap : (l0.take i ++ l2 ++ l0.drop i).map (Value.int .i64) = (l0.map (Value.int .i64)).take i ++ l2.map (Value.int .i64) ++ (l0.map (Value.int .i64)).drop i:=by simp [List.map_take,List.map_drop]
 have z1 : ∀ k,(Builtin.zeroCells (Value.int .i64 0).cells k).size = k:=by intro k;simp [Builtin.zeroCells,Value.cells]
 have hmx : ∀ c,grownCap w (l0.length + l2.length) c 3 ≤ maxLen:=fun c => grownCap_le_maxLen w _ c 3 (by unfold maxLen;omega)
 have hge : ∀ c,l0.length + l2.length ≤ grownCap w (l0.length + l2.length) c 3:=fun c => grownCap_ge w _ c 3
 have here : ∀ (W : World) (o : Obj),(W.alloc o).heap[W.heap.size]? = some o:=by intro W o;show (W.heap.push o)[W.heap.size]? = some o;simp
 -- what stands in a new block
 have fresh : ∀ (W' : World) (cur' : Array Value) (c : Nat),W'.heap[w.heap.size]? = some (.cells cur' 3 (0,0)) → cur'.size = grownCap w (l0.length + l2.length) c 3 → cur'.toList.take (l0.length + l2.length) = (l0.map (Value.int .i64)).take i ++ l2.map (Value.int .i64) ++ (l0.map (Value.int .i64)).drop i → Below w.heap.size w W' →
   ∃ v0_ : Value,(Ending.returned (.slice (some ⟨w.heap.size,0,none⟩) (l0.length + l2.length) (grownCap w (l0.length + l2.length) c 3))) = .returned v0_ ∧ Kd.R (Kd.int .i64) 3 W' w0.heap.size (fun k_ => (P0_ k_ ∨ w.heap.size ≤ k_)) v0_ (l0.take i ++ l2 ++ l0.drop i) ∧ Below w0.heap.size w0 W' ∧ Kept w W' (fun k_ => P0_ k_):=by
  intro W' cur' c k1 k2 k3 k4
  refine ⟨_,rfl,?_,below_then hB hB.size k4,Kept.of_below k4 _⟩
  have k5:=slices_Insert_int_int.own (r:=l0.take i ++ l2 ++ l0.drop i) (base:=w0.heap.size) (ok:=fun k_ => (P0_ k_ ∨ w.heap.size ≤ k_)) k1 hB.size (.inr (Nat.le_refl _)) (by rw [hrl];exact hge c) (hmx c) k2 (by rw [hrl,k3,hmap])
  rw [hrl] at k5
  exact k5
 obtain ⟨hok,inner,⟨hl,hf⟩,hr⟩:=ho0
 have hi0 : inner = l0.map (Value.int .i64):=slices_Insert_int_int.reps (fun p c hp => hp) hr
 have endgrow : ∀ (base : Option Addr) (c : Nat),i = l0.length → l0.length ≤ c → c < l0.length + l2.length → (base = none → l0.length = 0) → (∀ a,base = some a → ∀ j v,(l0.map (Value.int .i64))[j]? = some v → w.cell? (a.add j) = some v) → Calls Try.prog 60 #[.slice base l0.length c,.int .i64 (i : Int),.slice (some ⟨vb,0,none⟩) l2.length c2] w fun e w' => ∃ v0_ : Value,e = .returned (v0_) ∧ Kd.R (Kd.int .i64) 3 w' w0.heap.size (fun k_ => (P0_ k_ ∨ w.heap.size ≤ k_)) v0_ (l0.take i ++ l2 ++ l0.drop i) ∧ Below w0.heap.size w0 w' ∧ Kept w w' (fun k_ => P0_ k_):=by
  intro base c e0 q1 q2 q3 q4
  subst e0
  have:=Any2.slices_Insert_int_end_grow slices_Insert_int_int.lay base l0.length c vb 0 l2.length c2 (l0.map (Value.int .i64)) (l2.map (Value.int .i64)) w hm q1 q2 hbig (by simp) hvl q3 q4 hvs h1v
  rw [show slices_Insert_int_int.ren.t 3 = 3 from rfl] at this
  refine Calls.mono (this : Calls Try.prog 60 _ w _) ?_
  rintro e w' ⟨rfl,rfl⟩
  refine fresh _ _ c (here w.drew _) ?_ ?_ ?_
  ·rw [Array.size_append,z1];simp;have:=hge c;omega
  ·rw [Array.toList_append,List.take_append_of_le_length (by simp)]
   rw [List.take_of_length_le (by simp),List.take_of_length_le (by simp),List.drop_of_length_le (by simp)]
   simp
  ·exact below_alloc (below_drew (Below.refl _ _)) _
 rcases hf with ⟨hv,hx⟩|⟨g,cap,cur,hv,hb,hh,hn,hmc,hs,ht⟩
 ·subst hv
  have e0 : l0.length = 0:=hx
  have:=endgrow none 0 (by omega) (by omega) (by omega) (fun _ => e0) (fun a ha => by cases ha)
  rw [e0] at this
  exact this
 subst hv
 have hs' : cur.size = cap:=by rw [hs];exact Nat.mul_one _
 have ht' : cur.toList.take l0.length = l0.map (Value.int .i64):=by rw [← hi0,← ht];rw [show l0.length * (Kd.int .i64).sz = l0.length from Nat.mul_one _]
 have hg0 : P0_ g:=hok g rfl
 have hcs : ∀ j v,(l0.map (Value.int .i64))[j]? = some v → w.cell? ⟨g,0 + j,none⟩ = some v:=by
  intro j v hj
  rw [Nat.zero_add,blk_cell hh,← Array.getElem?_toList]
  rw [← ht',List.getElem?_take] at hj
  split at hj
  ·exact hj
  ·cases hj
 have h1c : ∀ v ∈ l0.map (Value.int .i64),v.oneCell' = true:=by
  intro v hv
  obtain ⟨x,_,rfl⟩:=List.mem_map.1 hv
  rfl
 have hglt:=blk_lt hh
 by_cases hroom : l0.length + l2.length ≤ cap
 rotate_left
 ·by_cases e0 : i = l0.length
  ·exact endgrow (some ⟨g,0,none⟩) cap e0 hn (by omega) (fun h => by cases h) (fun a ha j v hj => by
    have ha' : a = ⟨g,0,none⟩:=by injection ha with h;exact h.symm
    rw [ha',Addr.add_lit];exact hcs j v hj)
  ·have:=Any2.slices_Insert_int_grow slices_Insert_int_int.lay g 0 l0.length cap i vb 0 l2.length c2 (l0.map (Value.int .i64)) (l2.map (Value.int .i64)) w (by omega) hm hn (by omega) hbig (by simp) hvl hcs hvs h1c h1v
   rw [show slices_Insert_int_int.ren.t 3 = 3 from rfl] at this
   refine Calls.mono (this : Calls Try.prog 60 _ w _) ?_
   rintro e w' ⟨rfl,rfl⟩
   have hge':=hge cap
   obtain ⟨arr,harr⟩ : ∃ arr,arr = ((l0.map (Value.int .i64)).take i).toArray ++ Builtin.zeroCells (Value.int .i64 0).cells (l0.length + l2.length - i) ++ Builtin.zeroCells (Value.int .i64 0).cells (grownCap w (l0.length + l2.length) cap 3 - (l0.length + l2.length)):=⟨_,rfl⟩
   rw [← harr]
   have hA:=here w (.cells arr 3 (0,0))
   have hsz : arr.size = grownCap w (l0.length + l2.length) cap 3:=by
    rw [harr,Array.size_append,Array.size_append,z1,z1];simp;omega
   have htk : arr.toList.take i = (l0.map (Value.int .i64)).take i:=by
    rw [harr,Array.toList_append,Array.toList_append,List.append_assoc,List.take_left' (by simp;omega)]
   have hdl : ((l0.map (Value.int .i64)).drop i).length = l0.length - i:=by simp
   obtain ⟨d1,p1,p2,p3⟩:=setCells_row (g:=w.heap.size) (e:=3) (l2.map (Value.int .i64)) i (w.alloc (.cells arr 3 (0,0))).drew arr hA (by rw [hvl,hsz];omega)
   obtain ⟨d2,q1,q2,q3⟩:=setCells_row (g:=w.heap.size) (e:=3) ((l0.map (Value.int .i64)).drop i) (i + l2.length) ((w.alloc (.cells arr 3 (0,0))).drew.setCells w.heap.size i (l2.map (Value.int .i64))).drew d1 p1 (by rw [hdl,p2,hsz];omega)
   refine fresh _ d2 cap q1 (by rw [q2,p2,hsz]) ?_ (slices_Insert_int_int.below _ (below_drew (slices_Insert_int_int.below _ (below_drew (below_alloc (Below.refl _ _) _)) (Nat.le_refl _))) (Nat.le_refl _))
   have:=slices_Insert_int_int.two1 arr.toList (l2.map (Value.int .i64)) ((l0.map (Value.int .i64)).drop i) i l2.length hvl (by rw [hdl,show arr.toList.length = arr.size from Array.length_toList,hsz];omega)
   rw [q3,p3,show l0.length + l2.length = i + l2.length + ((l0.map (Value.int .i64)).drop i).length by rw [hdl];omega,← htk]
   exact this
 ·have out : ∀ (W' : World) (cur' : Array Value),W'.heap[g]? = some (.cells cur' 3 (0,0)) → cur'.size = cap → cur'.toList.take (l0.length + l2.length) = (l0.map (Value.int .i64)).take i ++ l2.map (Value.int .i64) ++ (l0.map (Value.int .i64)).drop i → w.grownBy W' (some g) →
    ∃ v0_ : Value,(Ending.returned (.slice (some ⟨g,0,none⟩) (l0.length + l2.length) cap)) = .returned v0_ ∧ Kd.R (Kd.int .i64) 3 W' w0.heap.size (fun k_ => (P0_ k_ ∨ w.heap.size ≤ k_)) v0_ (l0.take i ++ l2 ++ l0.drop i) ∧ Below w0.heap.size w0 W' ∧ Kept w W' (fun k_ => P0_ k_):=by
   intro W' cur' k1 k2 k3 k4
   refine ⟨_,rfl,?_,hB.grown k4 hB.size (fun k hk => by injection hk with hk;omega),⟨k4.size,fun k hk hn => k4.block k hk (fun he => hn (by injection he with he;rw [he];exact hg0))⟩⟩
   have k5:=slices_Insert_int_int.own (r:=l0.take i ++ l2 ++ l0.drop i) (base:=w0.heap.size) (ok:=fun k_ => (P0_ k_ ∨ w.heap.size ≤ k_)) k1 hb (.inl hg0) (by rw [hrl];exact hroom) hmc k2 (by rw [hrl,k3,hmap])
   rw [hrl] at k5
   exact k5
  have hdl : ((l0.map (Value.int .i64)).drop i).length = l0.length - i:=by simp
  by_cases e0 : i = l0.length
  ·subst e0
   have:=Any2.slices_Insert_int_end_room slices_Insert_int_int.lay g 0 l0.length cap vb 0 l2.length c2 (l2.map (Value.int .i64)) w hm hroom (by unfold maxLen at hmc;omega) hvl (fun j hj => by rw [blk_cell hh,Array.getElem?_eq_getElem (by omega)];rfl) (fun j hj => blk_frozen hh _) hvs h1v
   refine Calls.mono (this : Calls Try.prog 60 _ w _) ?_
   rintro e w' ⟨rfl,rfl⟩
   obtain ⟨d1,p1,p2,p3⟩:=setCells_row (g:=g) (e:=3) (l2.map (Value.int .i64)) (0 + l0.length) w cur hh (by rw [hvl];omega)
   obtain ⟨s1,s2,s3,s4⟩:=setCells_same g (l2.map (Value.int .i64)) (0 + l0.length) w
   refine out _ d1 p1 (by rw [p2,hs']) ?_ ⟨s1,s2,s3,by rw [s4];exact Nat.le_refl _,fun k _ hk => setCells_far _ _ k (fun he => hk (by rw [he]))⟩
   rw [p3,Nat.zero_add,ht',List.take_left' (by simp)]
   rw [List.take_of_length_le (by simp),List.drop_of_length_le (by simp),List.append_nil]
  ·have hne : vb ≠ g:=fun he => hvb (by rw [he];exact hg0)
   have:=Any2.slices_Insert_int_shift slices_Insert_int_int.lay g 0 l0.length cap i vb 0 l2.length c2 (l0.map (Value.int .i64)) (l2.map (Value.int .i64)) w (by omega) hm hroom (by unfold maxLen at hmc;omega) hne (by simp) hvl hcs (fun j hj => by rw [Nat.zero_add,blk_cell hh,Array.getElem?_eq_getElem (by omega)];rfl) (fun j hj => blk_frozen hh _) hvs h1c h1v 3 3 cur2.size cur.size (by simp [World.shape?,hh2]) (by simp [World.shape?,hh]) (by omega) (blk_frozen hh2 _) (blk_frozen hh2 _)
   refine Calls.mono (this : Calls Try.prog 60 _ w _) ?_
   rintro e w' ⟨rfl,rfl⟩
   rw [Nat.zero_add,Nat.zero_add]
   obtain ⟨d1,p1,p2,p3⟩:=setCells_row (g:=g) (e:=3) ((l0.map (Value.int .i64)).drop i) (i + l2.length) w.drew cur hh (by rw [hdl];omega)
   obtain ⟨d2,q1,q2,q3⟩:=setCells_row (g:=g) (e:=3) (l2.map (Value.int .i64)) i (w.drew.setCells g (i + l2.length) ((l0.map (Value.int .i64)).drop i)) d1 p1 (by rw [hvl,p2];omega)
   obtain ⟨s1,s2,s3,s4⟩:=setCells_same g ((l0.map (Value.int .i64)).drop i) (i + l2.length) w.drew
   obtain ⟨t1,t2,t3,t4⟩:=setCells_same g (l2.map (Value.int .i64)) i (w.drew.setCells g (i + l2.length) ((l0.map (Value.int .i64)).drop i))
   refine out _ d2 q1 (by rw [q2,p2,hs']) ?_ ⟨t1.trans s1,t2.trans s2,t3.trans s3,by rw [t4,s4];exact Nat.le_refl _,fun k _ hk => by
    rw [setCells_far _ _ k (fun he => hk (by rw [he])),setCells_far _ _ k (fun he => hk (by rw [he]))];rfl⟩
   have:=slices_Insert_int_int.two2 cur.toList (l2.map (Value.int .i64)) ((l0.map (Value.int .i64)).drop i) i l2.length hvl (by rw [hdl,show cur.toList.length = cur.size from Array.length_toList];omega)
   have h4 : cur.toList.take i = (l0.map (Value.int .i64)).take i:=by rw [← ht',List.take_take];congr 1;omega
   rw [q3,p3,show l0.length + l2.length = i + l2.length + ((l0.map (Value.int .i64)).drop i).length by rw [hdl];omega,← h4]
   exact this


end Go.Proofs.Ytiencnnkphipoaa.P
