/- Functions of this seat as plain Lean functions, with proofs that the Go code comes to just their answers, or what stands between them and a law's statement; no conditions. (Laid by a program of this session, out of the kit's print.) -/
import Derived.Test.YtiencnnkphipoaaPx0
import Derived.Shelf.RegionOpenPlain
import Derived.Deep.RegionLaw
import Derived.Lib.SlicesDelete
namespace Go.Proofs.Ytiencnnkphipoaa.P
open Go.RowKit Go.Proofs.YtiencnnkphipoaaW.PrintWords Go.Proofs.YtiencnnkphipoaaW.PrintLast Go.Proofs.YtiencnnkphipoaaW.PrintMore
attribute [local go_sem] max2_int min2_int max_two min_two max_three min_three max_four min_four   -- for this text's walks alone
set_option linter.unusedVariables false
set_option linter.unusedSimpArgs false

-- plug-in
/-! ### slices_Delete_int_int: function 59 -/
def slices_Delete_int_int.f (l0 : List Int) (a1 a2 : Int) : Option (List Int) := if 0 ≤ a1 ∧ a1 ≤ a2 ∧ a2 ≤ (l0.length : Int) then some (l0.take a1.toNat ++ l0.drop a2.toNat) else none
set_option maxHeartbeats 8000000 in
set_option maxRecDepth 100000 in
theorem slices_Delete_int_int.calls_none (P0_ : Nat → Prop) (u9000_ : Value) (l0 : List Int) (i : Nat) (w0 w : World) (hB : Below w0.heap.size w0 w) (ho0 : Kd.R (Kd.int .i64) 3 w w0.heap.size P0_ u9000_ l0) (hi : i ≤ l0.length) :
  Calls Try.prog 59 #[u9000_,.int .i64 (i : Int),.int .i64 (i : Int)] w fun e w' => e = .returned u9000_ ∧ w' = w:=by
 obtain ⟨A,c,e⟩:=Kd.R_slice ho0
 subst e
 have hlc : l0.length ≤ c:=by
  obtain ⟨A',c',he,hle,_⟩:=ho0.2.reads
  injection he with _ _ hc
  omega
 have hmax : l0.length ≤ 9223372036854775807:=by
  obtain ⟨A',c',he,hle,hr⟩:=ho0.2.reads
  exact hr.2.1
 clear ho0
 go_enter Try.func59,Try.ntmps59
 go_wp2
 all_goals (go_ret;exact ⟨rfl,rfl⟩)
theorem slices_Delete_int_int.clearK {P : Program} (w : World) (t e : TypeId) (i0 : TypeInfo) (z : Value) (q : Nat) (ht : P.underlying t = some (.slice e)) (hi : P.info? e = some i0) (hz : i0.zero = some z) (hzs : z.cells.size = q) (b o n c : Nat) (hn : 0 < n)
  (h1 : ∀ u ∈ z.cells.toList,u.oneCell' = true) (hq : 0 < q) (hc : ∀ j,j < n * q → (w.cell? ⟨b,o + j,none⟩).isSome = true) (hf : ∀ j,j < n * q → w.frozen? ⟨b,o + j,none⟩ = false) :
  ∃ zs : List Value,zs.length = n * q ∧ ∀ ty,(Builtin.clear_ #[t] ty #[.slice (some ⟨b,o,none⟩) n c]).run P w = .ok (.tuple #[]) (w.setCells b o zs):=by
 have hzl : (Builtin.zeroCells z.cells n).toList.length = n * q:=by simp [Builtin.zeroCells,hzs]
 have hone : ∀ u ∈ (Builtin.zeroCells z.cells n).toList,u.oneCell' = true:=by
  intro u hu
  simp only [Builtin.zeroCells,Array.toList_map,List.mem_map] at hu
  obtain ⟨k,_,rfl⟩:=hu
  have hk : k % z.cells.size < z.cells.size:=Nat.mod_lt _ (by omega)
  rw [getElem!_pos z.cells _ hk]
  exact h1 _ (by simp)
 have hst:=run_storeCells_cells (P:=P) b o (Builtin.zeroCells z.cells n).toList 0 w (fun j hj => by rw [Nat.add_zero];exact hc j (by omega)) (fun j hj => by rw [Nat.add_zero];exact hf j (by omega)) hone
 simp only [Nat.add_zero] at hst
 obtain ⟨m,rfl⟩ : ∃ m,n = m + 1:=⟨n - 1,by omega⟩
 refine ⟨_,hzl,fun ty => ?_⟩
 simp [Builtin.clear_,run_underlying ht,zeroValue,typeInfo,hi,hz,hst]
set_option maxHeartbeats 8000000 in
set_option maxRecDepth 100000 in
theorem slices_Delete_int_int.calls_some (P0_ : Nat → Prop) (u9000_ : Value) (l0 : List Int) (i j : Nat) (w0 w : World) (hB : Below w0.heap.size w0 w) (ho0 : Kd.R (Kd.int .i64) 3 w w0.heap.size P0_ u9000_ l0) (hij : i < j) (hj : j ≤ l0.length) :
  Calls Try.prog 59 #[u9000_,.int .i64 (i : Int),.int .i64 (j : Int)] w fun e w' => ∃ v0_ : Value,e = .returned v0_ ∧ Kd.R (Kd.int .i64) 3 w' w0.heap.size (fun k_ => (P0_ k_ ∨ w.heap.size ≤ k_)) v0_ (l0.take i ++ l0.drop j) ∧ Below w0.heap.size w0 w' ∧ Kept w w' (fun k_ => P0_ k_):=by
 have hmax : l0.length ≤ 9223372036854775807:=by
  obtain ⟨A',c',he,hle,hr⟩:=ho0.2.reads
  exact hr.2.1
 obtain ⟨hok,inner,hown,hr⟩:=ho0
 rcases hown.2 with ⟨_,hx0⟩|⟨g,cap,cur,hv,hb,hh,hncap,hcm,hcs,htake⟩
 ·omega
 subst hv
 have hsz : (Kd.int .i64).sz = 1:=rfl
 have hg0 : P0_ g:=hok g rfl
 have hin : inner.length = l0.length * 1:=hr.1
 have hcs9 : cur.size = cap * 1:=hcs
 clear hcs
 have htk : cur.toList.take (l0.length * 1) = inner:=htake
 have hone : ∀ u ∈ inner,u.oneCell' = true:=by
  intro u hu
  obtain ⟨q,hq,rfl⟩:=List.mem_iff_getElem.1 hu
  have hql : q / (Kd.int .i64).sz < l0.length:=by
   rw [Nat.div_lt_iff_lt_mul (by decide)]
   rw [← hr.1]
   exact hq
  have hc:=hr.2 (q / (Kd.int .i64).sz) _ (List.getElem?_eq_getElem hql)
  refine (Kd.int .i64).K_one ((Kd.int .i64).K_of_M hc) _ ?_
  rw [List.mem_iff_getElem?]
  refine ⟨q % (Kd.int .i64).sz,?_⟩
  rw [List.getElem?_take,if_pos (Nat.mod_lt _ (by decide)),List.getElem?_drop,Nat.mul_comm,Nat.div_add_mod,List.getElem?_eq_getElem hq]
 have hic : i ≤ cap:=by omega
 have hjc : j ≤ cap:=by omega
 obtain ⟨news,hnews⟩ : ∃ news,news = inner.drop (j * 1):=⟨_,rfl⟩
 have hnl : news.length = (l0.length - j) * 1:=by rw [hnews,List.length_drop,hin,Nat.sub_mul]
 have hcell : ∀ t,w.drew.cell? ⟨g,t,none⟩ = cur[t]?:=fun t => cell_of_row w g t cur 3 (0,0) hh
 obtain ⟨A,hA,hsrc⟩ : ∃ A : Addr,(if cap = j then some (⟨g,0,none⟩ : Addr) else some ⟨g,j * 1,none⟩) = some A ∧ Aside0 (∀ t u,news[t]? = some u → w.drew.cell? (A.add t) = some u):=by
  by_cases h : cap = j
  ·refine ⟨⟨g,0,none⟩,by simp [h],⟨fun t u hu => ?_⟩⟩
   have h0 : news.length = 0:=by omega
   rw [List.length_eq_zero_iff.1 h0] at hu
   simp at hu
  ·refine ⟨⟨g,j * 1,none⟩,by simp [h],⟨fun t u hu => ?_⟩⟩
   rw [hnews,List.getElem?_drop,← htk,List.getElem?_take] at hu
   split at hu
   ·rw [Addr.add_lit,hcell,← Array.getElem?_toList];exact hu
   ·exact absurd hu (by simp)
 have s1:=Aside0.mk hnl
 have s2 : Aside0 (∀ u ∈ news,u.oneCell' = true):=⟨fun u hu => hone u (by rw [hnews] at hu;exact List.mem_of_mem_drop hu)⟩
 have s3 : Aside0 (∀ t,t < news.length → (w.drew.cell? ⟨g,0 + i * 1 + t,none⟩).isSome = true ∧ w.drew.frozen? ⟨g,0 + i * 1 + t,none⟩ = false):=by
  refine ⟨fun t ht => ⟨?_,blk_frozen (w:=w.drew) hh _⟩⟩
  rw [hcell]
  have : 0 + i * 1 + t < cur.size:=by omega
  rw [Array.getElem?_eq_getElem this];rfl
 obtain ⟨i0,hi0,hzz⟩:=Option.map_eq_some_iff.1 info3
 simp only [Prod.mk.injEq] at hzz
 obtain ⟨W1,hW1⟩ : ∃ W1,W1 = w.drew.setCells g (0 + i * 1) news:=⟨_,rfl⟩
 obtain ⟨cur1,h1a,h1b,h1c⟩:=setCells_row (e:=3) news (0 + i * 1) w.drew cur hh (by omega)
 obtain ⟨q1,q2,q3,q4⟩:=setCells_same g news (0 + i * 1) w.drew
 rw [← hW1] at h1a q1 q2 q3 q4
 have hcell1 : ∀ t,W1.cell? ⟨g,t,none⟩ = cur1[t]?:=fun t => cell_of_row W1 g t cur1 3 (0,0) h1a
 obtain ⟨zs,hzl,hcl⟩ : ∃ zs : List Value,zs.length = (l0.length - (i + (l0.length - j))) * 1 ∧ ∀ ty,(Builtin.clear_ #[22] ty #[.slice (some ⟨g,(i + (l0.length - j)) * 1,none⟩) (l0.length - (i + (l0.length - j))) (cap - (i + (l0.length - j)))]).run Try.prog W1 = .ok (.tuple #[]) (W1.setCells g ((i + (l0.length - j)) * 1) zs):=by
  have hlt : 0 < l0.length - (i + (l0.length - j)):=by omega
  exact slices_Delete_int_int.clearK W1 22 3 i0 _ 1 Try.underlying22 hi0 hzz.1 rfl g ((i + (l0.length - j)) * 1) (l0.length - (i + (l0.length - j))) (cap - (i + (l0.length - j))) hlt (by decide) (by decide)
   (fun t ht => by
    have : (i + (l0.length - j)) * 1 + t < cur1.size:=by omega
    rw [hcell1,Array.getElem?_eq_getElem this];rfl)
   (fun t _ => blk_frozen h1a _)
 have HW:=Aside0.mk hW1
 have HR_:=Aside0.mk hr
 have HT_:=Aside0.mk htk
 have HN_:=Aside0.mk hnews
 have H1a:=Aside0.mk h1a
 have H1c:=Aside0.mk h1c
 have HO_:=Aside0.mk hok
 have Q_:=Aside0.mk (And.intro q1 (And.intro q2 (And.intro q3 q4)))
 clear hW1 hr htake hown hh htk hone hnl hcell hcell1 h1a h1c hnews hok q1 q2 q3 q4
 simp only [Nat.mul_one] at hA
 have hcl1':=hcl
 simp only [Nat.mul_one] at hcl1'
 have mixed : Try.prog.follows Departure.mixedOrders = true:=by kernel_rfl
 go_enter Try.func59,Try.ntmps59
 go_wp2_with fail
 go_region_law_o (refine step_append_room rfl (.tmp 22) (.tmp 25) 22 rfl 3 i0 1 Try.underlying22 hi0 hzz.2.1 g 0 i cap (by simp [Act.eval,Act.put]) A (l0.length - j) (cap - j) news (by simp [Act.eval,Act.put]) s1.out hsrc.out s2.out (by omega) s3.out ?_;rw [← HW.out])
 go_wp2
 go_ret
 obtain ⟨q1,q2,q3,q4⟩:=Q_.out
 have hnl:=s1.out
 have h1a:=H1a.out
 have h1c:=H1c.out
 have htk:=HT_.out
 have hnews:=HN_.out
 have hin2 : inner.length = l0.length * 1:=hin
 obtain ⟨cur2,h2a,h2b,h2c⟩:=setCells_row (e:=3) zs (i + (l0.length - j)) W1 cur1 h1a (by omega)
 obtain ⟨p1,p2,p3,p4⟩:=setCells_same g zs (i + (l0.length - j)) W1
 have hcl1 : cur1.toList.length = cap * 1:=by rw [Array.length_toList];omega
 have hcl0 : cur.toList.length = cap * 1:=by rw [Array.length_toList];omega
 have far : ∀ k,k ≠ g → (W1.setCells g (i + (l0.length - j)) zs).heap[k]? = w.heap[k]?:=by
  intro k hk
  rw [setCells_far zs _ k hk,HW.out,setCells_far news _ k hk]
  rfl
 have hg : w.grownBy (W1.setCells g (i + (l0.length - j)) zs) (some g):=⟨p1.trans q1,p2.trans q2,p3.trans q3,by rw [p4,q4];exact Nat.le_refl _,fun k _ hk => far k (fun he => hk (by rw [he]))⟩
 have hlen : (l0.take i ++ l0.drop j).length = i + (l0.length - j):=by rw [List.length_append,List.length_take,List.length_drop];omega
 have htake2 : cur2.toList.take ((i + (l0.length - j)) * 1) = inner.take (i * 1) ++ inner.drop (j * 1):=by
  rw [h2c,List.append_assoc,List.take_left' (by rw [List.length_take];omega),h1c,← hnews]
  rw [List.take_left' (by rw [List.length_append,List.length_take];omega),← htk,List.take_take]
  congr 2
  omega
 refine ⟨_,rfl,⟨fun k hk => .inl (HO_.out k hk),inner.take (i * 1) ++ inner.drop (j * 1),⟨?_,.inr ⟨g,cap,cur2,by rw [hlen];rfl,hb,h2a,by rw [hlen];omega,hcm,by show cur2.size = cap * 1;omega,by rw [hlen];exact htake2⟩⟩,(Kd.reps_append (Kd.reps_take HR_.out (by omega)) (Kd.reps_drop HR_.out)).imp_ (fun p c hp => ?_)⟩,hB.grown hg hB.size (fun k hk => by injection hk with hk;omega),⟨hg.size,fun k hk hn => far k (fun he => hn (by rw [he];exact hg0))⟩⟩
 ·rw [hlen,List.length_append,List.length_take,List.length_drop]
  show _ = (i + (l0.length - j)) * 1
  omega
 ·exact (Kd.int .i64).M_mono (fun k hk => ⟨.inl hk.1.1,hk.1.2⟩) ((Kd.int .i64).M_move (fun k hk => far k (fun he => hk.1.2 (by rw [he];rfl))) ((Kd.int .i64).M_bound hp))
set_option maxHeartbeats 8000000 in
set_option maxRecDepth 100000 in
theorem slices_Delete_int_int.calls (P0_ : Nat → Prop) (u9000_ : Value) (l0 : List Int) (a1 : Int) (a2 : Int) (r : List Int) (w0 w : World) (hB : Below w0.heap.size w0 w) (ho0 : Kd.R (Kd.int .i64) 3 w w0.heap.size P0_ u9000_ l0) (h : slices_Delete_int_int.f l0 a1 a2 = some r) :
  Calls Try.prog 59 #[u9000_,.int .i64 a1,.int .i64 a2] w fun e w' => ∃ v0_ : Value,e = .returned (v0_) ∧ Kd.R (Kd.int .i64) 3 w' w0.heap.size (fun k_ => (P0_ k_ ∨ w.heap.size ≤ k_)) v0_ r ∧ Below w0.heap.size w0 w' ∧ Kept w w' (fun k_ => P0_ k_):=by
 unfold slices_Delete_int_int.f at h
 by_cases hc : 0 ≤ a1 ∧ a1 ≤ a2 ∧ a2 ≤ (l0.length : Int)
 rotate_left
 ·rw [if_neg hc] at h
  exact absurd h (by simp)
 rw [if_pos hc] at h
 obtain rfl:=Option.some.inj h
 obtain ⟨i,rfl⟩:=Int.eq_ofNat_of_zero_le hc.1
 obtain ⟨j,rfl⟩:=Int.eq_ofNat_of_zero_le (show 0 ≤ a2 by omega)
 simp only [Int.toNat_natCast]
 by_cases he : i = j
 ·subst he
  refine (slices_Delete_int_int.calls_none P0_ u9000_ l0 i w0 w hB ho0 (by omega)).mono ?_
  rintro e w' ⟨rfl,rfl⟩
  exact ⟨_,rfl,by rw [List.take_append_drop];exact Kd.R_mono ho0 (fun _ hk => .inl hk),hB,Kept.refl _ _⟩
 ·exact slices_Delete_int_int.calls_some P0_ u9000_ l0 i j w0 w hB ho0 (by omega) (by omega)


end Go.Proofs.Ytiencnnkphipoaa.P
