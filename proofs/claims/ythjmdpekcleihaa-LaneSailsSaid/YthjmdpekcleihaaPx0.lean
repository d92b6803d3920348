/- Functions of this seat as plain Lean functions, with proofs that the Go code comes to just their answers, or what stands between them and a law's statement; no conditions. (Laid by a program of this session, out of the kit's print.) -/
import Derived.Test.YthjmdpekcleihaaProg
import Derived.Below
import Derived.Deep.Draws
import Derived.Deep.AppendLies
import Derived.Maps.AppendAt
import Derived.OwnWalk
import Derived.Laws.BytesArg
import Derived.Laws.MakeOwn
import Derived.Laws.OwnMore
import Derived.Deep.OwnRows
import Derived.Tactics
import Derived.Lib.ConvBytes
import Derived.Laws.Slices
import Derived.WalkKit
import Derived.KernelRfl
import Derived.RowKit3
import Derived.Deep.LoopGhost
import Derived.Deep.QuietTactic
import Derived.BigQuiet
import Derived.WideLaws
import Derived.Deep.DeepCutAuto
import Derived.Deep.CutBlock
import Derived.Deep.RegionHeld3
import Derived.Laws.Rows
import Derived.Lib.AppendStr
import Derived.ArgAppend
import Derived.Laws.IdiomCopy
import Derived.OrdersHeld
import Derived.Laws.BitsLemmas
import Derived.RowKit
import Derived.Laws.EntriesVeiled
import Derived.Lib.SliceRun
import Derived.WalkMore
import Derived.MapKept
import Derived.Test.YthjmdpekcleihaaWWords
import Derived.Test.YthjmdpekcleihaaWLast
import Derived.Test.YthjmdpekcleihaaWTab
import Derived.Test.YthjmdpekcleihaaWFour
import Derived.Test.YthjmdpekcleihaaWQPut
import Derived.Test.YthjmdpekcleihaaWApart
import Derived.Test.YthjmdpekcleihaaWArr
import Derived.Test.YthjmdpekcleihaaWZeros
import Derived.Test.YthjmdpekcleihaaWFoot
import Derived.Test.YthjmdpekcleihaaWKept
import Derived.Test.YthjmdpekcleihaaWShare
import Derived.Test.YthjmdpekcleihaaWN
import Derived.Test.YthjmdpekcleihaaWFootNe
import Derived.Test.YthjmdpekcleihaaWAt
import Derived.Test.YthjmdpekcleihaaWEqStruct
import Derived.Test.YthjmdpekcleihaaWRepsOne
import Derived.Test.YthjmdpekcleihaaWInv
import Derived.Test.YthjmdpekcleihaaWInvWords
import Derived.Test.YthjmdpekcleihaaWGuard
import Derived.Test.YthjmdpekcleihaaWNEv
import Derived.Test.YthjmdpekcleihaaWMore
namespace Go.Proofs.Ythjmdpekcleihaa.P
open Go.RowKit Go.Proofs.YthjmdpekcleihaaW.PrintWords Go.Proofs.YthjmdpekcleihaaW.PrintLast Go.Proofs.YthjmdpekcleihaaW.PrintMore
attribute [local go_sem] max2_int min2_int max_two min_two max_three min_three max_four min_four   -- for this text's walks alone
set_option linter.unusedVariables false
set_option linter.unusedSimpArgs false



def errW:Option Int→Value
 | none=>.nilIface
 | some c=>.iface 0 (.int .i64 c)
theorem errW_none:errW none=.nilIface := rfl
theorem errW_some (c:Int):errW (some c)=.iface 0 (.int .i64 c) := rfl

theorem info3:(Try.prog.info? 3).map (fun i=>(i.zero,i.size,i.bytes))=some (some (.int .i64 0),1,8) := by kernel_rfl
theorem info4:(Try.prog.info? 4).map (fun i=>(i.zero,i.size,i.bytes))=some (some (.bool false),1,1) := by kernel_rfl
theorem info116:(Try.prog.info? 116).map (fun i=>(i.zero,i.size,i.bytes))=some (some (.agg #[(.int .i64 0),(.int .i64 0)]),2,16) := by kernel_rfl
-- the values' own types
/-! #### struct type 24 -/
structure S24 where
 f0:Int
 f1:Int
 f2:(List Int)
 f3:(List Int)
/-! #### struct type 116 -/
structure S116 where
 f0:Int
 f1:Int
def z116:S116 := ⟨(0:Int),(0:Int)⟩
def k116:Kd S116 := Kd.iso (Kd.pair (Kd.int .i64) (Kd.int .i64)) (fun x:S116=>(x.f0,x.f1))
theorem k116_open {w:World} {x:S116} {cs:List Value} (h:k116.K w x cs):cs=[.int .i64 x.f0,.int .i64 x.f1] := by
 obtain ⟨_,_,rfl,rfl,rfl⟩:=h
 exact rfl
theorem k116_mkM (w:World) (base:Nat) (ok:Nat→Prop) (x:S116) :k116.M w base ok x [.int .i64 x.f0,.int .i64 x.f1] := ⟨[.int .i64 x.f0],[.int .i64 x.f1],rfl,rfl,rfl⟩
def rd_T116 (xs:List S116) (i:Int):S116 := xs.getD i.toNat z116
theorem at_T116 {w:World} {A:Option Addr} {n:Nat} {xs:List S116} (h:Kd.C k116 w A n xs) (i:Int) (h0:0≤i) (h1:i<n):∃ ad ,A=some ad∧w.cell? (ad.add (i.toNat * 2))=some (.int .i64 (rd_T116 xs i).f0)∧w.cell? ⟨(ad.add (i.toNat * 2)).block,(ad.add (i.toNat * 2)).off+1,none⟩=some (.int .i64 (rd_T116 xs i).f1) := by
 obtain ⟨ad,c,e,_,hK,hc0⟩:=Kd.C_get h z116 i h0 h1
 have hc:∀ j u,c[j]?=some u→w.cell? (ad.add (i.toNat * 2+j))=some u:=hc0
 obtain rfl:=k116_open hK
 exact ⟨ad,e,hc 0 _ rfl,by rw [← add_field _ _ 1 (by omega)];exact hc 1 _ rfl⟩

/-! #### struct type 126 -/
structure S126 where
 f0:Int
 f1:Int
 f2:Int
 f3:Int
/-! #### struct type 107 -/
structure S107 where
 f0:Int
 f1:Int
/-! #### struct type 53 -/
structure S53 where
 f0:Int
 f1:Int
 f2:(List Int)
def k53:Kd S53 := Kd.iso (Kd.pair (Kd.int .i64) (Kd.pair (Kd.int .i64) (Kd.slice 3 (Kd.int .i64)))) (fun x:S53=>(x.f0,x.f1,x.f2))
theorem k53_open {w:World} {x:S53} {cs:List Value} (h:k53.K w x cs):∃ A2 c2,cs=[.int .i64 x.f0,.int .i64 x.f1,.slice A2 x.f2.length c2]∧x.f2.length≤c2∧(Kd.int .i64).C w A2 x.f2.length x.f2 := by
 obtain ⟨_,_,rfl,rfl,⟨_,_,rfl,rfl,⟨A2,c2,rfl,l2,g2⟩⟩⟩:=h
 exact ⟨A2,c2,rfl,l2,g2⟩
/-! #### struct type 55 -/
structure S55 where
 f0:(List Int)
 f1:(List Int)
def k55:Kd S55 := Kd.iso (Kd.pair (Kd.slice 3 (Kd.int .i64)) (Kd.slice 3 (Kd.int .i64))) (fun x:S55=>(x.f0,x.f1))
theorem k55_open {w:World} {x:S55} {cs:List Value} (h:k55.K w x cs):∃ A0 c0 A1 c1,cs=[.slice A0 x.f0.length c0,.slice A1 x.f1.length c1]∧x.f0.length≤c0∧(Kd.int .i64).C w A0 x.f0.length x.f0∧x.f1.length≤c1∧(Kd.int .i64).C w A1 x.f1.length x.f1 := by
 obtain ⟨_,_,rfl,⟨A0,c0,rfl,l0,g0⟩,⟨A1,c1,rfl,l1,g1⟩⟩:=h
 exact ⟨A0,c0,A1,c1,rfl,l0,g0,l1,g1⟩
/-! #### struct type 57 -/
structure S57 where
 f0:Int
 f1:Int
 f2:Int
 f3:Int
 f4:Int
def k57:Kd S57 := Kd.iso (Kd.pair (Kd.int .i64) (Kd.pair (Kd.int .i64) (Kd.pair (Kd.int .i64) (Kd.pair (Kd.int .i64) (Kd.int .i64))))) (fun x:S57=>(x.f0,x.f1,x.f2,x.f3,x.f4))
theorem k57_open {w:World} {x:S57} {cs:List Value} (h:k57.K w x cs):cs=[.int .i64 x.f0,.int .i64 x.f1,.int .i64 x.f2,.int .i64 x.f3,.int .i64 x.f4] := by
 obtain ⟨_,_,rfl,rfl,⟨_,_,rfl,rfl,⟨_,_,rfl,rfl,⟨_,_,rfl,rfl,rfl⟩⟩⟩⟩:=h
 exact rfl
/-! ### what is held, at a world that has only moved on -/
section
variable {α : Type} {d : Kd α} {e base n : Nat} {ok : Nat → Prop} {v : Value} {xs : List α} {u w W : World} {g : Nat} {o : Obj} {A : Option Addr}
theorem Kd.R_up (h:d.R e w base ok v xs) (hb:Below w.heap.size w W := by repeat (first | (with_reducible exact Below.refl _ _) | apply below_alloc | apply pw_below_drewN | apply below_drew1 | exact Below.refl _ _)):d.R e W base ok v xs := Kd.R_below h hb
theorem Kd.Q_up (h:d.Q e w base ok v xs) (hb:Below w.heap.size w W := by repeat (first | (with_reducible exact Below.refl _ _) | apply below_alloc | apply pw_below_drewN | apply below_drew1 | exact Below.refl _ _)):d.Q e W base ok v xs := Kd.Q_below h hb
theorem Kd.C_up (h:d.C w A n xs) (hb:Below w.heap.size w W := by repeat (first | (with_reducible exact Below.refl _ _) | apply below_alloc | apply pw_below_drewN | apply below_drew1 | exact Below.refl _ _)):d.C W A n xs := Kd.C_below h hb
theorem blk_up (h:w.heap[g]?=some o) (hb:Below w.heap.size w W := by repeat (first | (with_reducible exact Below.refl _ _) | apply below_alloc | apply pw_below_drewN | apply below_drew1 | exact Below.refl _ _)):W.heap[g]?=some o := blk_below h hb
theorem below_setA {j:Nat} {x:Value} (h:Below w.heap.size w W) (hg:Aside0 (w.heap.size≤g)):Below w.heap.size w (W.setCell ⟨g,j,none⟩ x) := below_set h hg.out
theorem hb_ {p:Prop} (h:p := by repeat (first | (with_reducible first | exact HB.out | apply below_alloc | apply pw_below_drewN | apply below_drew1) | (refine below_setA ?_ (by assumption)) | exact HB.out)):p := h
end
section
variable {w : World} {g : Nat} {t : TypeId} {a0 a1 a2 a3 a4 a5 a6 a7 a8 : Value}
theorem cells1 (h:w.heap[g]?=some (.cells #[a0] t (0,0))):w.cell? ⟨g,0,none⟩=some a0∧w.frozen? ⟨g,0,none⟩=false := ⟨(blk_cell h 0).trans rfl,blk_frozen h 0⟩
theorem cells2 (h:w.heap[g]?=some (.cells #[a0,a1] t (0,0))):w.cell? ⟨g,0,none⟩=some a0∧w.cell? ⟨g,1,none⟩=some a1∧w.frozen? ⟨g,0,none⟩=false∧w.frozen? ⟨g,1,none⟩=false := ⟨(blk_cell h 0).trans rfl,(blk_cell h 1).trans rfl,blk_frozen h 0,blk_frozen h 1⟩
theorem cells3 (h:w.heap[g]?=some (.cells #[a0,a1,a2] t (0,0))):w.cell? ⟨g,0,none⟩=some a0∧w.cell? ⟨g,1,none⟩=some a1∧w.cell? ⟨g,2,none⟩=some a2∧w.frozen? ⟨g,0,none⟩=false∧w.frozen? ⟨g,1,none⟩=false∧w.frozen? ⟨g,2,none⟩=false := ⟨(blk_cell h 0).trans rfl,(blk_cell h 1).trans rfl,(blk_cell h 2).trans rfl,blk_frozen h 0,blk_frozen h 1,blk_frozen h 2⟩
theorem cells4 (h:w.heap[g]?=some (.cells #[a0,a1,a2,a3] t (0,0))):w.cell? ⟨g,0,none⟩=some a0∧w.cell? ⟨g,1,none⟩=some a1∧w.cell? ⟨g,2,none⟩=some a2∧w.cell? ⟨g,3,none⟩=some a3∧w.frozen? ⟨g,0,none⟩=false∧w.frozen? ⟨g,1,none⟩=false∧w.frozen? ⟨g,2,none⟩=false∧w.frozen? ⟨g,3,none⟩=false := ⟨(blk_cell h 0).trans rfl,(blk_cell h 1).trans rfl,(blk_cell h 2).trans rfl,(blk_cell h 3).trans rfl,blk_frozen h 0,blk_frozen h 1,blk_frozen h 2,blk_frozen h 3⟩
theorem cells5 (h:w.heap[g]?=some (.cells #[a0,a1,a2,a3,a4] t (0,0))):w.cell? ⟨g,0,none⟩=some a0∧w.cell? ⟨g,1,none⟩=some a1∧w.cell? ⟨g,2,none⟩=some a2∧w.cell? ⟨g,3,none⟩=some a3∧w.cell? ⟨g,4,none⟩=some a4∧w.frozen? ⟨g,0,none⟩=false∧w.frozen? ⟨g,1,none⟩=false∧w.frozen? ⟨g,2,none⟩=false∧w.frozen? ⟨g,3,none⟩=false∧w.frozen? ⟨g,4,none⟩=false := ⟨(blk_cell h 0).trans rfl,(blk_cell h 1).trans rfl,(blk_cell h 2).trans rfl,(blk_cell h 3).trans rfl,(blk_cell h 4).trans rfl,blk_frozen h 0,blk_frozen h 1,blk_frozen h 2,blk_frozen h 3,blk_frozen h 4⟩
end
section
variable {α : Type} {d : Kd α} {e base n : Nat} {ok : Nat → Prop} {v : Value} {xs : List α} {u w w1 W : World} {g g' : Nat} {o : Obj}
theorem set_far {j k:Nat} {x:Value} (hk:k ≠ g) (h:W.heap[k]?=w.heap[k]?):(W.setCell ⟨g,j,none⟩ x).heap[k]?=w.heap[k]? := (Below.heap_setCell _ _ _ k hk).trans h
theorem Kd.R_fars (g:Nat) (h:d.R e w base ok v xs) (hk:∀ k,ok k→k ≠ g) (hs:∀ k,k ≠ g→W.heap[k]?=w.heap[k]? := by intro k_ hk_; (repeat (first | (with_reducible rfl) | (refine set_far hk_ ?_) | rfl))):d.R e W base ok v xs := Kd.R_step h (fun k ho _=>hs k (hk k ho))
theorem gsz (hg:g=W.heap.size) (hb:Below w.heap.size w W := by exact hb_):Aside0 (w.heap.size≤g) := ⟨by rw [hg]; exact below_size hb⟩
theorem nbl (h:Aside0 (w.heap[g]?=some o)) (hg:g'=W.heap.size) (hb:Below w.heap.size w W := by repeat (first | (with_reducible exact Below.refl _ _) | apply below_alloc | apply pw_below_drewN | apply below_drew1 | exact Below.refl _ _)):Aside0 (g ≠ g') := ⟨by rw [hg]; exact Nat.ne_of_lt (blk_lt (blk_below h.out hb))⟩
theorem nbr (h:Aside0 (w.heap[g]?=some o)) (hg:g'=W.heap.size) (hb:Below w.heap.size w W := by repeat (first | (with_reducible exact Below.refl _ _) | apply below_alloc | apply pw_below_drewN | apply below_drew1 | exact Below.refl _ _)):Aside0 (g' ≠ g) := ⟨by rw [hg]; exact Nat.ne_of_gt (blk_lt (blk_below h.out hb))⟩
theorem bkb (h:Aside0 (w.heap[g]?=some o)) (hb:Below W.heap.size W w1) (hw:Below w.heap.size w W := by repeat (first | (with_reducible exact Below.refl _ _) | apply below_alloc | apply pw_below_drewN | apply below_drew1 | exact Below.refl _ _)):Aside0 (w1.heap[g]?=some o) := ⟨blk_below (blk_below h.out hw) hb⟩
theorem rbw (h:Aside0 (d.R e w base ok v xs)) (hb:Below W.heap.size W w1) (hw:Below w.heap.size w W := by repeat (first | (with_reducible exact Below.refl _ _) | apply below_alloc | apply pw_below_drewN | apply below_drew1 | exact Below.refl _ _)):Aside0 (d.R e w1 base ok v xs) := ⟨Kd.R_below (Kd.R_below h.out hw) hb⟩
theorem rlo (h:d.R e w1 W.heap.size ok v xs) (hb:Below w.heap.size w W := by exact hb_):Aside0 (d.R e w1 w.heap.size ok v xs) := ⟨Kd.R_lower h (below_size hb)⟩
end
section
variable {P : Program} {ops : Array Oper} {rest : List Oper} {o : Oper} {a : Act} {Q : Exit → Act → World → Prop} {W : World}
theorem box_ev {N:Tmp} {cs:Array Value} {t:TypeId}
  (h:∀ g,g=W.heap.size→∀ w1,w1.heap[g]?=some (.cells cs t (0,0))→Below W.heap.size W w1→wpList P ops Q rest (a.put o.dst (.pointer (some ⟨g,0,none⟩))) w1)
  (hgd:o.guard=none:=by rfl) (hd:o.dst=some N:=by rfl) (hrun:(execOp a.eval o).run P W=.ok (.value (.pointer (some ⟨W.heap.size,0,none⟩))) (W.alloc (.cells cs t (0,0))):=by first|(go_simp;done)|(go_simp;rfl)):wpList P ops Q (o :: rest) a W:=box_event hgd hd hrun h
end
section
variable {w : World} {g : Nat} {t : TypeId} {a0 a1 a2 a3 a4 a5 a6 a7 a8 b0 b1 b2 b3 b4 b5 b6 b7 b8 : Value}
theorem blk_puts2 (h:w.heap[g]?=some (.cells #[a0,a1] t (0,0))):((w.setCell ⟨g,0,none⟩ b0).setCell ⟨g,1,none⟩ b1).heap[g]?=some (.cells #[b0,b1] t (0,0)) := (blk_set (blk_set h 0 b0) 1 b1)
theorem blk_puts4 (h:w.heap[g]?=some (.cells #[a0,a1,a2,a3] t (0,0))):((((w.setCell ⟨g,0,none⟩ b0).setCell ⟨g,1,none⟩ b1).setCell ⟨g,2,none⟩ b2).setCell ⟨g,3,none⟩ b3).heap[g]?=some (.cells #[b0,b1,b2,b3] t (0,0)) := (blk_set (blk_set (blk_set (blk_set h 0 b0) 1 b1) 2 b2) 3 b3)
theorem blk_puts5 (h:w.heap[g]?=some (.cells #[a0,a1,a2,a3,a4] t (0,0))):(((((w.setCell ⟨g,0,none⟩ b0).setCell ⟨g,1,none⟩ b1).setCell ⟨g,2,none⟩ b2).setCell ⟨g,3,none⟩ b3).setCell ⟨g,4,none⟩ b4).heap[g]?=some (.cells #[b0,b1,b2,b3,b4] t (0,0)) := (blk_set (blk_set (blk_set (blk_set (blk_set h 0 b0) 1 b1) 2 b2) 3 b3) 4 b4)
end
section
variable {P : Program} {md : Region.Mode} {ops : Array Oper} {Q : Exit → Act → World → Prop} {S : World → Prop} {ds : List Nat} {i : Nat} {N : Option Tmp} {oi : Oper} {v : Value} {fuel : Nat} {l : Array Bool} {a a' : Act} {w : World}
end
section
theorem ifp_ {c:Prop} [Decidable c] {α:Type} {a:Option α} {r:α} (H:(if c then a else none)=some r):c∧a=some r := by
 by_cases h:c
 ·rw [if_pos h] at H;exact ⟨h,H⟩
 ·rw [if_neg h] at H;cases H
theorem ifn_ {c:Prop} [Decidable c] {α:Type} {a:Option α} {r:α} (H:(if c then none else a)=some r):¬ c∧a=some r := by
 by_cases h:c
 ·rw [if_pos h] at H;cases H
 ·rw [if_neg h] at H;exact ⟨h,H⟩
variable {P : Program} {md : Region.Mode} {ops : Array Oper} {Q : Exit → Act → World → Prop} {S : World → Prop} {ds : List Nat} {oi : Oper} {v : Value} {fuel : Nat} {l l' : Array Bool} {a a' : Act} {w : World}
theorem pI (i:Nat) (N:Option Tmp) (h:wpAnyLast P md ops Q S ds fuel l' a' w) (hl:l.setIfInBounds i true=l' := by simp only [List.setIfInBounds_toArray,List.set_cons_zero,List.set_cons_succ]; rfl) (hi:ops[i]?=some oi := by rfl) (hN:oi.dst=N := by rfl) (hc:anyB md ops l l' i=true := by first | exact any_of HT_.out (by kernel_rfl) | kernel_rfl) (hQ:∀ c a w,Q (.panic c) (a.put oi.dst v) w→Q (.panic c) a w := by exact fun _ _ _ h=>h) (hy:Yields P ops oi v a := by exact Or.inl ⟨by rfl,by intro w'; go_simp; with_reducible rfl⟩) (ha:a.put N v=a' := by simp only [Act.put,List.setIfInBounds_toArray,List.set_cons_zero,List.set_cons_succ,i64_w,i32_w]; rfl):wpAnyLast P md ops Q S ds (fuel+1) l a w := pure_ l' hi hN hc hQ hy ha h
theorem pU (i:Nat) (N:Option Tmp) (h:wpAnyLast P md ops Q S ds fuel l' a' w) (hl:l.setIfInBounds i true=l' := by simp only [List.setIfInBounds_toArray,List.set_cons_zero,List.set_cons_succ]; rfl) (hi:ops[i]?=some oi := by rfl) (hN:oi.dst=N := by rfl) (hc:anyB md ops l l' i=true := by first | exact any_of HT_.out (by kernel_rfl) | kernel_rfl) (hQ:∀ c a w,Q (.panic c) (a.put oi.dst undef) w→Q (.panic c) a w := by exact fun _ _ _ h=>h) (hy:Yields P ops oi undef a := by exact Or.inr ⟨by rfl,by rfl⟩) (ha:a.put N undef=a' := by simp only [Act.put,List.setIfInBounds_toArray,List.set_cons_zero,List.set_cons_succ,i64_w,i32_w]; rfl):wpAnyLast P md ops Q S ds (fuel+1) l a w := pure_ l' hi hN hc hQ hy ha h
theorem tI2 (i:Nat) (N:Option Tmp) (hS:S w) (h:wpAnyLast P md ops Q S ds fuel l' a' w) (hl:l.setIfInBounds i true=l' := by simp only [List.setIfInBounds_toArray,List.set_cons_zero,List.set_cons_succ]; rfl) (hi:ops[i]?=some oi := by rfl) (hN:oi.dst=N := by rfl) (hc:takeB md ops ds l l' i=true := by first | exact take_ofW HT_.out HW_.out (by kernel_rfl) | kernel_rfl) (hQ:∀ c a w,Q (.panic c) (a.put oi.dst v) w→Q (.panic c) a w := by exact fun _ _ _ h=>h) (hy:YieldsIf P ops S oi v a := by exact Or.inl ⟨by rfl,by rintro w' ⟨s0,s1⟩; go_simp; with_reducible rfl⟩) (ha:a.put N v=a' := by simp only [Act.put,List.setIfInBounds_toArray,List.set_cons_zero,List.set_cons_succ,i64_w,i32_w]; rfl):wpAnyLast P md ops Q S ds (fuel+1) l a w := take_ l' hi hN hc hQ hy hS ha h
theorem tI3 (i:Nat) (N:Option Tmp) (hS:S w) (h:wpAnyLast P md ops Q S ds fuel l' a' w) (hl:l.setIfInBounds i true=l' := by simp only [List.setIfInBounds_toArray,List.set_cons_zero,List.set_cons_succ]; rfl) (hi:ops[i]?=some oi := by rfl) (hN:oi.dst=N := by rfl) (hc:takeB md ops ds l l' i=true := by first | exact take_ofW HT_.out HW_.out (by kernel_rfl) | kernel_rfl) (hQ:∀ c a w,Q (.panic c) (a.put oi.dst v) w→Q (.panic c) a w := by exact fun _ _ _ h=>h) (hy:YieldsIf P ops S oi v a := by exact Or.inl ⟨by rfl,by rintro w' ⟨s0,s1,s2⟩; go_simp; with_reducible rfl⟩) (ha:a.put N v=a' := by simp only [Act.put,List.setIfInBounds_toArray,List.set_cons_zero,List.set_cons_succ,i64_w,i32_w]; rfl):wpAnyLast P md ops Q S ds (fuel+1) l a w := take_ l' hi hN hc hQ hy hS ha h
theorem tI4 (i:Nat) (N:Option Tmp) (hS:S w) (h:wpAnyLast P md ops Q S ds fuel l' a' w) (hl:l.setIfInBounds i true=l' := by simp only [List.setIfInBounds_toArray,List.set_cons_zero,List.set_cons_succ]; rfl) (hi:ops[i]?=some oi := by rfl) (hN:oi.dst=N := by rfl) (hc:takeB md ops ds l l' i=true := by first | exact take_ofW HT_.out HW_.out (by kernel_rfl) | kernel_rfl) (hQ:∀ c a w,Q (.panic c) (a.put oi.dst v) w→Q (.panic c) a w := by exact fun _ _ _ h=>h) (hy:YieldsIf P ops S oi v a := by exact Or.inl ⟨by rfl,by rintro w' ⟨s0,s1,s2,s3⟩; go_simp; with_reducible rfl⟩) (ha:a.put N v=a' := by simp only [Act.put,List.setIfInBounds_toArray,List.set_cons_zero,List.set_cons_succ,i64_w,i32_w]; rfl):wpAnyLast P md ops Q S ds (fuel+1) l a w := take_ l' hi hN hc hQ hy hS ha h
theorem tI5 (i:Nat) (N:Option Tmp) (hS:S w) (h:wpAnyLast P md ops Q S ds fuel l' a' w) (hl:l.setIfInBounds i true=l' := by simp only [List.setIfInBounds_toArray,List.set_cons_zero,List.set_cons_succ]; rfl) (hi:ops[i]?=some oi := by rfl) (hN:oi.dst=N := by rfl) (hc:takeB md ops ds l l' i=true := by first | exact take_ofW HT_.out HW_.out (by kernel_rfl) | kernel_rfl) (hQ:∀ c a w,Q (.panic c) (a.put oi.dst v) w→Q (.panic c) a w := by exact fun _ _ _ h=>h) (hy:YieldsIf P ops S oi v a := by exact Or.inl ⟨by rfl,by rintro w' ⟨s0,s1,s2,s3,s4⟩; go_simp; with_reducible rfl⟩) (ha:a.put N v=a' := by simp only [Act.put,List.setIfInBounds_toArray,List.set_cons_zero,List.set_cons_succ,i64_w,i32_w]; rfl):wpAnyLast P md ops Q S ds (fuel+1) l a w := take_ l' hi hN hc hQ hy hS ha h
theorem tI6 (i:Nat) (N:Option Tmp) (hS:S w) (h:wpAnyLast P md ops Q S ds fuel l' a' w) (hl:l.setIfInBounds i true=l' := by simp only [List.setIfInBounds_toArray,List.set_cons_zero,List.set_cons_succ]; rfl) (hi:ops[i]?=some oi := by rfl) (hN:oi.dst=N := by rfl) (hc:takeB md ops ds l l' i=true := by first | exact take_ofW HT_.out HW_.out (by kernel_rfl) | kernel_rfl) (hQ:∀ c a w,Q (.panic c) (a.put oi.dst v) w→Q (.panic c) a w := by exact fun _ _ _ h=>h) (hy:YieldsIf P ops S oi v a := by exact Or.inl ⟨by rfl,by rintro w' ⟨s0,s1,s2,s3,s4,s5⟩; go_simp; with_reducible rfl⟩) (ha:a.put N v=a' := by simp only [Act.put,List.setIfInBounds_toArray,List.set_cons_zero,List.set_cons_succ,i64_w,i32_w]; rfl):wpAnyLast P md ops Q S ds (fuel+1) l a w := take_ l' hi hN hc hQ hy hS ha h
theorem tI7 (i:Nat) (N:Option Tmp) (hS:S w) (h:wpAnyLast P md ops Q S ds fuel l' a' w) (hl:l.setIfInBounds i true=l' := by simp only [List.setIfInBounds_toArray,List.set_cons_zero,List.set_cons_succ]; rfl) (hi:ops[i]?=some oi := by rfl) (hN:oi.dst=N := by rfl) (hc:takeB md ops ds l l' i=true := by first | exact take_ofW HT_.out HW_.out (by kernel_rfl) | kernel_rfl) (hQ:∀ c a w,Q (.panic c) (a.put oi.dst v) w→Q (.panic c) a w := by exact fun _ _ _ h=>h) (hy:YieldsIf P ops S oi v a := by exact Or.inl ⟨by rfl,by rintro w' ⟨s0,s1,s2,s3,s4,s5,s6⟩; go_simp; with_reducible rfl⟩) (ha:a.put N v=a' := by simp only [Act.put,List.setIfInBounds_toArray,List.set_cons_zero,List.set_cons_succ,i64_w,i32_w]; rfl):wpAnyLast P md ops Q S ds (fuel+1) l a w := take_ l' hi hN hc hQ hy hS ha h
theorem tI8 (i:Nat) (N:Option Tmp) (hS:S w) (h:wpAnyLast P md ops Q S ds fuel l' a' w) (hl:l.setIfInBounds i true=l' := by simp only [List.setIfInBounds_toArray,List.set_cons_zero,List.set_cons_succ]; rfl) (hi:ops[i]?=some oi := by rfl) (hN:oi.dst=N := by rfl) (hc:takeB md ops ds l l' i=true := by first | exact take_ofW HT_.out HW_.out (by kernel_rfl) | kernel_rfl) (hQ:∀ c a w,Q (.panic c) (a.put oi.dst v) w→Q (.panic c) a w := by exact fun _ _ _ h=>h) (hy:YieldsIf P ops S oi v a := by exact Or.inl ⟨by rfl,by rintro w' ⟨s0,s1,s2,s3,s4,s5,s6,s7⟩; go_simp; with_reducible rfl⟩) (ha:a.put N v=a' := by simp only [Act.put,List.setIfInBounds_toArray,List.set_cons_zero,List.set_cons_succ,i64_w,i32_w]; rfl):wpAnyLast P md ops Q S ds (fuel+1) l a w := take_ l' hi hN hc hQ hy hS ha h
theorem oI (i:Nat) (N:Option Tmp) (h:∀ K:Act→World→Prop,Shut (∀ a' w',S w'→(S w'→wpAnyLast P md ops Q S ds fuel l' a' w')→K a' w')→if Region.wanted oi (yielded ops a.tmps)=true then Oper.wp P oi a w K Q else K (a.put N undef) w) (hl:l.setIfInBounds i true=l' := by simp only [List.setIfInBounds_toArray,List.set_cons_zero,List.set_cons_succ]; rfl) (hi:ops[i]?=some oi := by rfl) (hN:oi.dst=N := by rfl) (hc:readyB md ops l l' i=true := by first | exact one_of HT_.out (by kernel_rfl) | kernel_rfl) (hd:i ∉ ds := by decide):wpAnyLast P md ops Q S ds (fuel+1) l a w := one_ l' hi hN hc hd h
end
section
variable {α : Type} {d : Kd α} {e base n c : Nat} {ok : Nat → Prop} {v : Value} {xs : List α} {u w W W1 w2 : World} {g t : Nat} {o : Obj} {A : Option Addr} {cells : Array Value}
theorem ga_ {p:Prop} (h:p := by (try simp only [List.map_toArray,List.map_cons,List.map_nil]); first | done | rfl | (simp only [List.length_drop,List.length_take]; rfl)):p := h
theorem er_ {p:Prop} (h:p := by first | rfl | (simp [errW_none,errW_some] <;> rfl) | (simp [*,errW_none,errW_some] <;> rfl)):p := h
theorem nl_ {p:Prop} (h:p := by first | exact Kd.R_nil _ _ _ _ _ | exact Kd.N_nil _ _ _ _ _ | exact Kd.V_nil _ _ _ _ _ | exact Kd.Q_nil _ _ _ _ _ | exact Kd.S_nil _ _ _ _ _):p := h
theorem hbs (hb:Below W.heap.size W w2) (h:Below w.heap.size w W := by exact hb_):Aside0 (Below w.heap.size w w2) := ⟨below_step h hb⟩
theorem cq (h:Aside0 (d.C w A n xs)) (hb:Below w.heap.size w W1 := by exact HB.out) (hw:Below W1.heap.size W1 W := by repeat (first | (with_reducible exact Below.refl _ _) | apply below_alloc | apply pw_below_drewN | apply below_drew1 | exact Below.refl _ _)):d.C W A n xs := Kd.C_below (Kd.C_below h.out hb) hw
theorem bqf {β:Type} [BEq β] [LawfulBEq β] {x y:β} (h:¬ x=y):(x == y)=false := beq_eq_false_iff_ne.mpr h
theorem bnt {β:Type} [BEq β] [LawfulBEq β] {x y:β} (h:¬ x=y):(x != y)=true := bne_iff_ne.mpr h
theorem bqt {β:Type} [BEq β] [LawfulBEq β] {x y:β} (h:x=y):(x == y)=true := beq_iff_eq.mpr h
theorem bnf {β:Type} [BEq β] [LawfulBEq β] {x y:β} (h:x=y):(x != y)=false := bne_eq_false_iff_eq.mpr h
end
theorem bnd {α β:Type} {o:Option α} {f:α→Option β} {r:β} (h:o.bind f=some r):∃ a,Aside0 (o=some a)∧f a=some r := by
 obtain ⟨a,h1,h2⟩:=Option.bind_eq_some_iff.mp h
 exact ⟨a,⟨h1⟩,h2⟩
theorem ofd {p:Prop} [Decidable p] (h:decide p=true := by first | (with_reducible assumption) | assumption):p := of_decide_eq_true h
theorem nn {a b:Nat} (h:Aside0 (a ≠ b)):a ≠ b∧b ≠ a := ⟨h.out,fun e=>h.out e.symm⟩
section
variable {w W : World} {g : Nat} {o : Obj} {v : Value} {a : Addr} {cs : Array Value} {t : TypeId}
theorem hbc (HB:Aside0 (Below w.heap.size w W)) (h:w.cell? a=some v):W.cell? a=some v := (HB.out.cell (World.block_lt_of_cell? w _ h)).trans h
theorem bkd (h:Aside0 (w.heap[g]?=some o)):Aside0 (w.drew.heap[g]?=some o) := ⟨blk_drew h.out⟩
theorem bc (h:Aside0 (w.heap[g]?=some (.cells cs t (0,0)))) (i:Nat) (e:cs[i]?=some v := by exact rfl):w.cell? ⟨g,i,none⟩=some v := (blk_cell h.out i).trans e
end
section
variable {P : Program} {md : Region.Mode} {ops : Array Oper} {Q : Exit → Act → World → Prop} {S : World → Prop} {ds : List Nat} {a' b : Act} {v : Value} {w : World} {fuel : Nat} {l : Array Bool}
theorem nrm (N:Tmp) (h:wpAnyLast P md ops Q S ds fuel l a' w) (ha:Act.put b (some N) v=a' := by simp only [Act.put,List.setIfInBounds_toArray,List.set_cons_zero,List.set_cons_succ,i64_w,i32_w]; rfl):wpAnyLast P md ops Q S ds fuel l (Act.put b (some N) v) w := norm_ ha h
end
section
variable {w W : World} {g : Nat} {o : Option Obj} {α β : Type} {d : Kd α} {e base : Nat} {ok : Nat → Prop} {v : Value} {xs : List α}
theorem blkW (h:w.heap[g]?=o) (t:w.heap[g]?=o→W.heap[g]?=o := by intro h_; (with_reducible repeat (first | refine blk_drewN ?_ _ | refine blk_drew ?_ | refine blk_alloc ?_ _)); exact h_):W.heap[g]?=o := t h
theorem hyx {p q:Prop} {y x:α} (hy:y=x) (h:p) (t:y=x→p→q := by intro hy_ H; first | (rw [hy_]; with_reducible exact H) | (have H2_ := (Option.bind_some _ _).symm.trans H; rw [hy_]; with_reducible exact H2_) | (have H2_ := (Option.bind_some _ _).symm.trans H; with_reducible exact H2_) | with_reducible exact H | (rw [hy_]; exact H) | exact H):q := t hy h
end

def ix107 (x:S107) (j:Int):Int := if j=0 then x.f0 else x.f1
theorem ix107_run (a0 a1 j:Int) (h0:0≤j) (h1:j<2) (W:World):(Instr.index 107 (.agg #[.int .i64 a0,.int .i64 a1]) (.int .i64 j)).run Try.prog W=.ok (.int .i64 (ix107 ⟨a0,a1⟩ j)) W := by
 rcases (by omega:j=0 ∨ j=1) with rfl|rfl <;> kernel_rfl

def ix126 (x:S126) (j:Int):Int := if j=0 then x.f0 else if j=1 then x.f1 else if j=2 then x.f2 else x.f3
theorem ix126_run (a0 a1 a2 a3 j:Int) (h0:0≤j) (h1:j<4) (W:World):(Instr.index 126 (.agg #[.int .i64 a0,.int .i64 a1,.int .i64 a2,.int .i64 a3]) (.int .i64 j)).run Try.prog W=.ok (.int .i64 (ix126 ⟨a0,a1,a2,a3⟩ j)) W := by
 rcases (by omega:j=0 ∨ j=1 ∨ j=2 ∨ j=3) with rfl|rfl|rfl|rfl <;> kernel_rfl

/-! ### maps from whole numbers to whole numbers, as the list of their entries in the order in which the keys came -/
def mpV (k:Int):List (Int × Int)→Int
 | []=>0
 | p :: r=>if k=p.1 then p.2 else mpV k r
def mpHas (k:Int):List (Int × Int)→Bool
 | []=>false
 | p :: r=>if k=p.1 then true else mpHas k r
def mpPut (k v:Int):List (Int × Int)→List (Int × Int)
 | []=>[(k,v)]
 | p :: r=>if k=p.1 then (k,v) :: r else p :: mpPut k v r
def mpAt (k:Int):List (Int × Int)→Nat
 | []=>0
 | p :: r=>if k=p.1 then 0 else mpAt k r+1
def mpEs:List (Int × Int)→Nat→List MapEntry
 | [],_=>[]
 | p :: r,n=>{ key:=.int .i64 p.1,val:=.int .i64 p.2,born:=n } :: mpEs r (n+1)
def mpO (l:List (Int × Int)):Obj := .map (mpEs l 0).toArray l.length
theorem mpV_none (k:Int):∀ l,mpHas k l=false→mpV k l=0
 | [],_=>rfl
 | p :: r,h=>by
  unfold mpHas at h
  unfold mpV
  by_cases hk:k=p.1
  ·rw [if_pos hk] at h;cases h
  ·rw [if_neg hk] at h ⊢;exact mpV_none k r h
theorem mpFind (k:Int):∀ (l:List (Int × Int)) (n i:Nat),Instr.findNow (.int .i64) (.int .i64 k) (mpEs l n) i=some (if mpHas k l=true then some (i+mpAt k l,.int .i64 (mpV k l)) else none)
 | [],_,_=>rfl
 | p :: r,n,i=>by
  unfold mpEs Instr.findNow
  have hs:Instr.sameNow (.int .i64) (.int .i64 k) (.int .i64 p.1)=some (k == p.1):=rfl
  rw [hs]
  by_cases hk:k=p.1
  ·have hb:(k == p.1)=true:=by simp [hk]
   rw [hb]
   simp [mpHas,mpAt,mpV,hk]
  ·have hb:(k == p.1)=false:=by simp [hk]
   rw [hb]
   simp only [mpHas,mpAt,mpV,if_neg hk]
   rw [mpFind k r (n+1) (i+1)]
   rw [show i+1+mpAt k r=i+(mpAt k r+1) from by omega]
theorem mpEs_at (k:Int):∀ (l:List (Int × Int)) (n:Nat),mpHas k l=true→(mpEs l n)[mpAt k l]?=some { key := .int .i64 k,val := .int .i64 (mpV k l),born := n+mpAt k l }
 | [],_,h=>by cases h
 | p :: r,n,h=>by
  by_cases hk:k=p.1
  ·simp [mpEs,mpAt,mpV,← hk]
  ·have h':mpHas k r=true:=by simpa [mpHas,hk] using h
   have:=mpEs_at k r (n+1) h'
   simp only [mpEs,mpAt,mpV,if_neg hk,List.getElem?_cons_succ]
   rw [this]
   simp;omega
theorem mpEs_mod (k v:Int):∀ (l:List (Int × Int)) (n:Nat),mpHas k l=true→(mpEs l n).modify (mpAt k l) (fun e=>{ e with key := .int .i64 k,val := .int .i64 v })=mpEs (mpPut k v l) n
 | [],_,h=>by cases h
 | p :: r,n,h=>by
  by_cases hk:k=p.1
  ·simp [mpEs,mpAt,mpPut,← hk]
  ·have h':mpHas k r=true:=by simpa [mpHas,hk] using h
   have:=mpEs_mod k v r (n+1) h'
   simp only [mpEs,mpAt,mpPut,if_neg hk,List.modify_succ_cons]
   rw [this]
theorem mpPut_len (k v:Int):∀ l,mpHas k l=true→(mpPut k v l).length=l.length
 | [],h=>by cases h
 | p :: r,h=>by
  by_cases hk:k=p.1
  ·simp [mpPut,← hk]
  ·have h':mpHas k r=true:=by simpa [mpHas,hk] using h
   simp [mpPut,hk,mpPut_len k v r h']
theorem mpPut_new (k v:Int):∀ l,mpHas k l=false→mpPut k v l=l ++ [(k,v)]
 | [],_=>rfl
 | p :: r,h=>by
  by_cases hk:k=p.1
  ·simp [mpHas,hk] at h
  ·have h':mpHas k r=false:=by simpa [mpHas,hk] using h
   simp [mpPut,hk,mpPut_new k v r h']
theorem mpEs_new (k v:Int):∀ (l:List (Int × Int)) (n:Nat),mpEs (l ++ [(k,v)]) n=mpEs l n ++ [{ key := .int .i64 k,val := .int .i64 v,born := n+l.length }]
 | [],_=>rfl
 | p :: r,n=>by
  simp only [List.cons_append,mpEs,mpEs_new k v r (n+1),List.length_cons]
  rw [show n+1+r.length=n+(r.length+1) from by omega]
theorem mp_check {P:Program} {w:World} {K:TypeId} (hK:P.underlying K=some (.int .i64)) (k:Int) (e:Bool):(Instr.checkKey e 10000 K (.int .i64 k)).run P w=.ok () w := MapKept.run_checkKey hK (by simp [MapKept.IsKey]) e 9999
theorem mp_look {P:Program} {w:World} {t K E b:Nat} {l:List (Int × Int)} (hT:P.underlying t=some (.map K E)) (hK:P.underlying K=some (.int .i64)) (hz:(zeroValue E).run P w=.ok (.int .i64 0) w) (hb:w.heap[b]?=some (mpO l)) (k:Int) (c:Bool) :
  (Instr.lookup t (.map (some b)) (.int .i64 k) c).run P w=.ok (if c then .tuple #[.int .i64 (mpV k l),.bool (mpHas k l)] else .int .i64 (mpV k l)) w:=by
 have hf:=MapKept.run_findKey (w:=w) hK (mpFind k l 0 0)
 have hc:=fun e=>mp_check (w:=w) hK k e
 have hg:=MapKept.run_getObj_map (P:=P) (r:=b) (w:=w) hb
 have h0:=mpV_none k l
 cases hh:mpHas k l with
 | true=>rw [hh,if_pos rfl] at hf;simp [Instr.lookup,run_underlying hT,hg,hc,hf,Result.andThen]
 | false=>rw [hh,if_neg (by simp)] at hf;simp [Instr.lookup,run_underlying hT,hg,hc,hf,hz,Result.andThen,h0 hh]
theorem mp_upd {P:Program} {w:World} {t K E b:Nat} {l:List (Int × Int)} (hT:P.underlying t=some (.map K E)) (hK:P.underlying K=some (.int .i64)) (hb:w.heap[b]?=some (mpO l)) (k v:Int) :
  (Instr.mapUpdate t (.map (some b)) (.int .i64 k) (.int .i64 v)).run P w=.ok () { w with heap:=w.heap.setIfInBounds b (mpO (mpPut k v l)) }:=by
 have hf:=MapKept.run_findKey (w:=w) hK (mpFind k l 0 0)
 have hc:=fun e=>mp_check (w:=w) hK k e
 have hg:=MapKept.run_getObj_map (P:=P) (r:=b) (w:=w) hb
 have hs:=fun o=>MapKept.run_setObj_map (P:=P) (r:=b) (w:=w) o hb
 cases hh:mpHas k l with
 | true =>
  rw [hh,if_pos rfl] at hf
  have hat:=mpEs_at k l 0 hh
  have hmod:=mpEs_mod k v l 0 hh
  have hkk:(Instr.keyThatStays (.int .i64 k) (.int .i64 k)).run P w=.ok (.int .i64 k) w:=by simp [Instr.keyThatStays,Instr.sameBits]
  have ho:mpO (mpPut k v l)=.map ((mpEs l 0).toArray.modify (mpAt k l) (fun e=>{ e with key:=.int .i64 k,val:=.int .i64 v })) l.length:=by
   unfold mpO
   rw [← hmod,mpPut_len k v l hh]
   congr 1
   apply Array.toList_inj.1
   simp
  simp [Instr.mapUpdate,run_underlying hT,hg,hc,hf,hs,Result.andThen,hat,hkk,ho]
 | false =>
  rw [hh,if_neg (by simp)] at hf
  have ho:mpO (mpPut k v l)=.map ((mpEs l 0).toArray.push { key:=.int .i64 k,val:=.int .i64 v,born:=l.length }) (l.length+1):=by
   unfold mpO
   rw [mpPut_new k v l hh,mpEs_new k v l 0]
   simp
  simp [Instr.mapUpdate,run_underlying hT,hg,hc,hf,hs,Result.andThen,ho]
section
variable {P : Program} {ops : Array Oper} {rest : List Oper} {o : Oper} {a : Act} {Q : Exit → Act → World → Prop}
theorem mp_make {W:World} (hgd:o.guard=none) {t:TypeId} (ho:o.op=.makeMap t none)
  (h:∀ g,g=W.heap.size→∀ w1,w1.heap[g]?=some (mpO [])→Below W.heap.size W w1→wpList P ops Q rest (a.put o.dst (.map (some g))) w1):wpList P ops Q (o :: rest) a W:=by
 have hrun:(execOp a.eval o).run P W=.ok (.value (.map (some W.heap.size))) (W.alloc (mpO [])):=by
  simp [execOp,ho,Instr.makeMap,Result.andThen]
  rfl
 exact Kd.event_run hgd hrun (h _ rfl _ (blk_new W _) (below_alloc (Below.refl _ _) _))
theorem mp_look_ok {W:World} (hgd:o.guard=none) {t K E:TypeId} {m k:Operand} (ho:o.op=.lookup t m k true) {b:Nat} {x:Int} {l:List (Int × Int)} (hm:a.eval m=.map (some b)) (hk:a.eval k=.int .i64 x)
  (hT:P.underlying t=some (.map K E)) (hK:P.underlying K=some (.int .i64)) (hz:∀ w,(zeroValue E).run P w=.ok (.int .i64 0) w) (hb:W.heap[b]?=some (mpO l))
  (h:wpList P ops Q rest (a.put o.dst (.tuple #[.int .i64 (mpV x l),.bool (mpHas x l)])) W):wpList P ops Q (o :: rest) a W:=by
 have hrun:(execOp a.eval o).run P W=.ok (.value (.tuple #[.int .i64 (mpV x l),.bool (mpHas x l)])) W:=by
  simp [execOp,ho,hm,hk,mp_look hT hK (hz W) hb x true,Result.andThen]
 exact Kd.event_run hgd hrun h
theorem mp_look_1 {W:World} (hgd:o.guard=none) {t K E:TypeId} {m k:Operand} (ho:o.op=.lookup t m k false) {b:Nat} {x:Int} {l:List (Int × Int)} (hm:a.eval m=.map (some b)) (hk:a.eval k=.int .i64 x)
  (hT:P.underlying t=some (.map K E)) (hK:P.underlying K=some (.int .i64)) (hz:∀ w,(zeroValue E).run P w=.ok (.int .i64 0) w) (hb:W.heap[b]?=some (mpO l))
  (h:wpList P ops Q rest (a.put o.dst (.int .i64 (mpV x l))) W):wpList P ops Q (o :: rest) a W:=by
 have hrun:(execOp a.eval o).run P W=.ok (.value (.int .i64 (mpV x l))) W:=by
  simp [execOp,ho,hm,hk,mp_look hT hK (hz W) hb x false,Result.andThen]
 exact Kd.event_run hgd hrun h
theorem mp_gate {t:TypeId} {m k v:Operand} (_ho:o.op=.mapUpdate t m k v) {W:World} (h:wpList P ops Q (o :: rest) a W):wpList P ops Q (o :: rest) a W := h
theorem mp_gatei {t:TypeId} {m k v:Operand} (_ho:o.op=.insert t m k v) {W:World} (h:wpList P ops Q (o :: rest) a W):wpList P ops Q (o :: rest) a W := h
theorem mp_set_grown {W:World} {b:Nat} {o1 o2:Obj} (hb:W.heap[b]?=some o1):({ W with heap := W.heap.setIfInBounds b o2 }:World).heap[b]?=some o2∧W.grownBy { W with heap := W.heap.setIfInBounds b o2 } (some b) :=
 ⟨(MapKept.heap_set hb).1,rfl,rfl,rfl,by simp,fun i _ hi=>(MapKept.heap_set hb).2 i (fun e=>hi (by rw [e]))⟩
theorem mp_put {W:World} (hgd:o.guard=none) (hN:o.dst=none) {t K E:TypeId} {m k v:Operand} (ho:o.op=.mapUpdate t m k v) {b:Nat} {x y:Int} {l:List (Int × Int)} (hm:a.eval m=.map (some b)) (hk:a.eval k=.int .i64 x) (hv:a.eval v=.int .i64 y)
  (hT:P.underlying t=some (.map K E)) (hK:P.underlying K=some (.int .i64)) (hb:W.heap[b]?=some (mpO l))
  (h:∀ w1,w1.heap[b]?=some (mpO (mpPut x y l))→W.grownBy w1 (some b)→wpList P ops Q rest a w1):wpList P ops Q (o :: rest) a W:=by
 have hrun:(execOp a.eval o).run P W=.ok .skip { W with heap:=W.heap.setIfInBounds b (mpO (mpPut x y l)) }:=by
  simp [execOp,ho,hm,hk,hv,mp_upd hT hK hb x y,Result.andThen]
 have hh:=mp_set_grown (o2:=mpO (mpPut x y l)) hb
 refine wpList_plain hgd fun K' hK'=>?_
 unfold Oper.wp
 rw [hrun]
 show K' (a.put o.dst undef) _
 rw [hN]
 exact hK' _ _ (h _ hh.1 hh.2)
theorem mp_puti {W:World} (hgd:o.guard=none) (hN:o.dst=none) {t K E:TypeId} {m k v:Operand} (ho:o.op=.insert t m k v) {b:Nat} {x y:Int} {l:List (Int × Int)} (hm:a.eval m=.map (some b)) (hk:a.eval k=.int .i64 x) (hv:a.eval v=.int .i64 y)
  (hT:P.underlying t=some (.map K E)) (hK:P.underlying K=some (.int .i64)) (hb:W.heap[b]?=some (mpO l))
  (h:∀ w1,w1.heap[b]?=some (mpO (mpPut x y l))→W.grownBy w1 (some b)→wpList P ops Q rest a w1):wpList P ops Q (o :: rest) a W:=by
 have hrun:(execOp a.eval o).run P W=.ok .skip { W with heap:=W.heap.setIfInBounds b (mpO (mpPut x y l)) }:=by
  simp [execOp,ho,hm,hk,hv,mp_upd hT hK hb x y,Result.andThen]
 have hh:=mp_set_grown (o2:=mpO (mpPut x y l)) hb
 refine wpList_plain hgd fun K' hK'=>?_
 unfold Oper.wp
 rw [hrun]
 show K' (a.put o.dst undef) _
 rw [hN]
 exact hK' _ _ (h _ hh.1 hh.2)
end
section
variable {α : Type} {d : Kd α} {e base : Nat} {ok : Nat → Prop} {v : Value} {xs : List α} {w w1 : World} {g : Nat} {o : Obj} {l : List (Int × Int)}
theorem mp_R_over (h:d.R e w base ok v xs) (hb:w.heap[g]?=some o) (ho:∃ l,o=mpO l) (hg:w.grownBy w1 (some g)):d.R e w1 base ok v xs := by
 refine Kd.R_mono (Kd.R_step (Kd.R_bound h) (fun k hk hlt=>hg.block k hlt (fun he=>?_))) (fun _ hk=>hk.1)
 injection he with he
 subst he
 obtain ⟨l,rfl⟩:=ho
 obtain ⟨q,_,c,hc⟩:=hk.2.2.2
 rw [hb] at hc
 simp [mpO] at hc
theorem mp_Q_over (h:d.Q e w base ok v xs) (hb:w.heap[g]?=some o) (ho:∃ l,o=mpO l) (hg:w.grownBy w1 (some g)):d.Q e w1 base ok v xs := by
 refine Kd.Q_mono (Kd.Q_step (Kd.Q_bound h) (fun k hk hlt=>hg.block k hlt (fun he=>?_))) (fun _ hk=>hk.1)
 injection he with he
 subst he
 obtain ⟨l,rfl⟩:=ho
 obtain ⟨q,_,c,hc⟩:=hk.2.2.2
 rw [hb] at hc
 simp [mpO] at hc
theorem mp_R_ne (h:d.R e w base ok v xs) (hb:w.heap[g]?=some (mpO l)):some g ≠ v.ownBlock := fun he=>by
 obtain ⟨c,hc⟩:=Kd.R_typed h g he.symm
 rw [hb] at hc
 simp [mpO] at hc
theorem mp_Q_ne (h:d.Q e w base ok v xs) (hb:w.heap[g]?=some (mpO l)):some g ≠ v.ownBlock := fun he=>by
 obtain ⟨c,hc⟩:=Kd.Q_typed h g he.symm
 rw [hb] at hc
 simp [mpO] at hc
end
theorem mpT_109:Try.prog.underlying 109=some (.map 3 3) := by kernel_rfl
theorem mpK_109:Try.prog.underlying 3=some (.int .i64) := by kernel_rfl
theorem mpZ_109 (w:World):(zeroValue 3).run Try.prog w=.ok (.int .i64 0) w := by kernel_rfl

/-! ### sets of pairs of whole numbers: maps from a struct of two fields to bool, into which nothing but true goes; as the list of their keys in the order in which they came -/
def mqV (k:Int × Int):Value := .agg #[.int .i64 k.1,.int .i64 k.2]
def mqHas (k:Int × Int) (l:List (Int × Int)):Bool := l.contains k
def mqPut (k:Int × Int) (l:List (Int × Int)):List (Int × Int) := if mqHas k l=true then l else l ++ [k]
def mqEs:List (Int × Int)→Nat→List MapEntry
 | [],_=>[]
 | p :: r,n=>{ key:=mqV p,val:=.bool true,born:=n } :: mqEs r (n+1)
def mqO (l:List (Int × Int)):Obj := .map (mqEs l 0).toArray l.length
structure MqKey (P : Program) (K : TypeId) : Prop where
 wide:(match P.underlying K with|some (.array _ _)|some (.struct _)=>true|_=>false)=true
 eq:∀ (a b c d:Int) (w:World),(Op.equal K (.agg #[.int .i64 a,.int .i64 b]) (.agg #[.int .i64 c,.int .i64 d])).run P w=.ok ((a == c) && (b == d)) w
 chk:∀ (e:Bool) (a b:Int) (w:World),(Instr.checkKey e 10000 K (.agg #[.int .i64 a,.int .i64 b])).run P w=.ok () w
theorem mq_wide {P:Program} {w:World} {k:TypeId} (hwide:(match P.underlying k with | some (.array _ _) | some (.struct _)=>true | _=>false)=true) (x:Value) (es:List MapEntry) :
  (Instr.findKey k x es).run P w=(Instr.findAsking k x es).run P w:=by
 cases hu:P.underlying k with
 | none=>simp [hu] at hwide
 | some kd =>
  cases es with
  | nil=>simp [Instr.findKey,run_underlying hu,Instr.findNow,Instr.findAsking]
  | cons e es=>cases kd <;> simp [hu] at hwide <;> simp [Instr.findKey,run_underlying hu,Instr.findNow,Instr.sameNow]
theorem mq_asks {P:Program} {w:World} {K:TypeId} (h:MqKey P K) (k:Int × Int):∀ (l:List (Int × Int)) (n i:Nat),(Instr.findAsking K (mqV k) (mqEs l n) i).run P w=.ok (if mqHas k l=true then some (i+l.idxOf k,.bool true) else none) w
 | [],n,i=>by simp [mqEs,Instr.findAsking,mqHas]
 | p :: r,n,i=>by
  have he:=h.eq k.1 k.2 p.1 p.2 w
  have ih:=mq_asks (w:=w) h k r (n+1) (i+1)
  unfold mqHas at ih ⊢
  by_cases hk:k=p
  ·subst hk
   simp [mqEs,Instr.findAsking,mqV,he,Result.andThen]
  ·have hb:((k.1 == p.1) && (k.2 == p.2))=false:=by
    rw [Bool.eq_false_iff]
    intro h2
    apply hk
    have h3:k.1=p.1∧k.2=p.2:=by simpa using h2
    exact Prod.ext h3.1 h3.2
   rw [hb] at he
   have hne:(p == k)=false:=by simp;exact fun e=>hk e.symm
   have hc:(p :: r).contains k=r.contains k:=by
    simp [List.contains_cons,hk]
   rw [hc]
   simp only [mqEs,Instr.findAsking]
   simp only [Sem.run_bind]
   rw [show (Op.equal K (mqV k) (mqV p)).run P w=.ok false w from he]
   simp only [Result.andThen_ok,Bool.false_eq_true,if_false]
   rw [ih]
   simp only [List.idxOf_cons,hne,cond_false]
   rw [show i+1+r.idxOf k=i+(r.idxOf k+1) from by omega]
theorem mq_find {P:Program} {w:World} {K:TypeId} (h:MqKey P K) (k:Int × Int) (l:List (Int × Int)):(Instr.findKey K (mqV k) (mqEs l 0)).run P w=.ok (if mqHas k l=true then some (l.idxOf k,.bool true) else none) w := by
 rw [mq_wide h.wide,mq_asks h k l 0 0,Nat.zero_add]
theorem mqEs_at (k:Int × Int):∀ (l:List (Int × Int)) (n:Nat),mqHas k l=true→(mqEs l n)[l.idxOf k]?=some { key := mqV k,val := .bool true,born := n+l.idxOf k }
 | [],n,h=>by simp [mqHas] at h
 | p :: r,n,h=>by
  by_cases hk:k=p
  ·subst hk;simp [mqEs]
  ·have hne:(p == k)=false:=by simp;exact fun e=>hk e.symm
   have h':mqHas k r=true:=by unfold mqHas at h ⊢;simpa [List.contains_cons,hk] using h
   have:=mqEs_at k r (n+1) h'
   simp only [mqEs,List.idxOf_cons,hne,cond_false,List.getElem?_cons_succ]
   rw [this,show n+1+r.idxOf k=n+(r.idxOf k+1) from by omega]
theorem mqEs_new (k:Int × Int):∀ (l:List (Int × Int)) (n:Nat),mqEs (l ++ [k]) n=mqEs l n ++ [{ key := mqV k,val := .bool true,born := n+l.length }]
 | [],_=>rfl
 | p :: r,n=>by
  simp only [List.cons_append,mqEs,mqEs_new k r (n+1),List.length_cons]
  rw [show n+1+r.length=n+(r.length+1) from by omega]
theorem mq_look {P:Program} {w:World} {t K E b:Nat} {l:List (Int × Int)} (hT:P.underlying t=some (.map K E)) (hK:MqKey P K) (hz:(zeroValue E).run P w=.ok (.bool false) w) (hb:w.heap[b]?=some (mqO l)) (k:Int × Int) :
  (Instr.lookup t (.map (some b)) (mqV k) false).run P w=.ok (.bool (mqHas k l)) w:=by
 have hf:=mq_find (w:=w) hK k l
 have hc:=fun e=>hK.chk e k.1 k.2 w
 have hg:=MapKept.run_getObj_map (P:=P) (r:=b) (w:=w) hb
 have hc':∀ e,(Instr.checkKey e 10000 K (mqV k)).run P w=.ok () w:=hc
 cases hh:mqHas k l with
 | true=>rw [hh,if_pos rfl] at hf;simp [Instr.lookup,run_underlying hT,hg,hc',hf,Result.andThen]
 | false=>rw [hh,if_neg (by simp)] at hf;simp [Instr.lookup,run_underlying hT,hg,hc',hf,hz,Result.andThen]
theorem mq_upd {P:Program} {w:World} {t K E b:Nat} {l:List (Int × Int)} (hT:P.underlying t=some (.map K E)) (hK:MqKey P K) (hb:w.heap[b]?=some (mqO l)) (k:Int × Int) :
  (Instr.mapUpdate t (.map (some b)) (mqV k) (.bool true)).run P w=.ok () { w with heap:=w.heap.setIfInBounds b (mqO (mqPut k l)) }:=by
 have hf:=mq_find (w:=w) hK k l
 have hc:∀ e,(Instr.checkKey e 10000 K (mqV k)).run P w=.ok () w:=fun e=>hK.chk e k.1 k.2 w
 have hg:=MapKept.run_getObj_map (P:=P) (r:=b) (w:=w) hb
 have hs:=fun o=>MapKept.run_setObj_map (P:=P) (r:=b) (w:=w) o hb
 unfold mqPut
 cases hh:mqHas k l with
 | true =>
  rw [hh,if_pos rfl] at hf
  have hat:=mqEs_at k l 0 hh
  have hkk:(Instr.keyThatStays (mqV k) (mqV k)).run P w=.ok (mqV k) w:=by simp [Instr.keyThatStays,Instr.sameBits,mqV]
  have hlt:l.idxOf k<(mqEs l 0).length:=by
   rw [List.getElem?_eq_some_iff] at hat
   exact hat.1
  have hmod:(mqEs l 0).modify (l.idxOf k) (fun e=>{ key:=mqV k,val:=.bool true,born:=e.born })=mqEs l 0:=by
   apply List.ext_getElem?
   intro i
   rw [List.getElem?_modify]
   by_cases hi:l.idxOf k=i
   ·subst hi
    rw [hat];simp
   ·simp [hi]
  simp [Instr.mapUpdate,run_underlying hT,hg,hc,hf,hs,Result.andThen,hat,hkk,mqO,hmod]
 | false =>
  rw [hh,if_neg (by simp)] at hf
  have ho:mqO (l ++ [k])=.map ((mqEs l 0).toArray.push { key:=mqV k,val:=.bool true,born:=l.length }) (l.length+1):=by
   unfold mqO
   rw [mqEs_new k l 0]
   simp
  simp [Instr.mapUpdate,run_underlying hT,hg,hc,hf,hs,Result.andThen,ho]
section
variable {P : Program} {ops : Array Oper} {rest : List Oper} {o : Oper} {a : Act} {Q : Exit → Act → World → Prop}
theorem mq_make {W:World} (hgd:o.guard=none) {t:TypeId} (ho:o.op=.makeMap t none)
  (h:∀ g,g=W.heap.size→∀ w1,w1.heap[g]?=some (mqO [])→Below W.heap.size W w1→wpList P ops Q rest (a.put o.dst (.map (some g))) w1):wpList P ops Q (o :: rest) a W:=by
 have hrun:(execOp a.eval o).run P W=.ok (.value (.map (some W.heap.size))) (W.alloc (mqO [])):=by
  simp [execOp,ho,Instr.makeMap,Result.andThen]
  rfl
 exact Kd.event_run hgd hrun (h _ rfl _ (blk_new W _) (below_alloc (Below.refl _ _) _))
theorem mq_look_1 {W:World} (hgd:o.guard=none) {t K E:TypeId} {m k:Operand} (ho:o.op=.lookup t m k false) {b:Nat} (x y:Int) {l:List (Int × Int)} (hm:a.eval m=.map (some b)) (hk:a.eval k=.agg #[.int .i64 x,.int .i64 y])
  (hT:P.underlying t=some (.map K E)) (hK:MqKey P K) (hz:∀ w,(zeroValue E).run P w=.ok (.bool false) w) (hb:W.heap[b]?=some (mqO l))
  (h:wpList P ops Q rest (a.put o.dst (.bool (mqHas (x,y) l))) W):wpList P ops Q (o :: rest) a W:=by
 have hrun:(execOp a.eval o).run P W=.ok (.value (.bool (mqHas (x,y) l))) W:=by
  have:=mq_look (k:=(x,y)) hT hK (hz W) hb
  unfold mqV at this
  simp [execOp,ho,hm,hk,this,Result.andThen]
 exact Kd.event_run hgd hrun h
theorem mq_put {W:World} (hgd:o.guard=none) (hN:o.dst=none) {t K E:TypeId} {m k v:Operand} (ho:o.op=.mapUpdate t m k v) {b:Nat} (x y:Int) {l:List (Int × Int)} (hm:a.eval m=.map (some b)) (hk:a.eval k=.agg #[.int .i64 x,.int .i64 y]) (hv:a.eval v=.bool true)
  (hT:P.underlying t=some (.map K E)) (hK:MqKey P K) (hb:W.heap[b]?=some (mqO l))
  (h:∀ w1,w1.heap[b]?=some (mqO (mqPut (x,y) l))→W.grownBy w1 (some b)→wpList P ops Q rest a w1):wpList P ops Q (o :: rest) a W:=by
 have hrun:(execOp a.eval o).run P W=.ok .skip { W with heap:=W.heap.setIfInBounds b (mqO (mqPut (x,y) l)) }:=by
  have:=mq_upd (k:=(x,y)) hT hK hb
  unfold mqV at this
  simp [execOp,ho,hm,hk,hv,this,Result.andThen]
 have hh:({ W with heap:=W.heap.setIfInBounds b (mqO (mqPut (x,y) l)) }:World).heap[b]?=some (mqO (mqPut (x,y) l))∧W.grownBy { W with heap:=W.heap.setIfInBounds b (mqO (mqPut (x,y) l)) } (some b) :=
  ⟨(MapKept.heap_set hb).1,rfl,rfl,rfl,by simp,fun i _ hi=>(MapKept.heap_set hb).2 i (fun e=>hi (by rw [e]))⟩
 refine wpList_plain hgd fun K' hK'=>?_
 unfold Oper.wp
 rw [hrun]
 show K' (a.put o.dst undef) _
 rw [hN]
 exact hK' _ _ (h _ hh.1 hh.2)
end
section
variable {α : Type} {d : Kd α} {e base : Nat} {ok : Nat → Prop} {v : Value} {xs : List α} {w w1 : World} {g : Nat} {o : Obj} {l : List (Int × Int)}
theorem mq_R_over (h:d.R e w base ok v xs) (hb:w.heap[g]?=some o) (ho:∃ l,o=mqO l) (hg:w.grownBy w1 (some g)):d.R e w1 base ok v xs := by
 refine Kd.R_mono (Kd.R_step (Kd.R_bound h) (fun k hk hlt=>hg.block k hlt (fun he=>?_))) (fun _ hk=>hk.1)
 injection he with he
 subst he
 obtain ⟨l,rfl⟩:=ho
 obtain ⟨q,_,c,hc⟩:=hk.2.2.2
 rw [hb] at hc
 simp [mqO] at hc
theorem mq_R_ne (h:d.R e w base ok v xs) (hb:w.heap[g]?=some (mqO l)):some g ≠ v.ownBlock := fun he=>by
 obtain ⟨c,hc⟩:=Kd.R_typed h g he.symm
 rw [hb] at hc
 simp [mqO] at hc
end
theorem mq_gate {ops:Array Oper} {rest:List Oper} {o:Oper} {a:Act} {Q:Exit→Act→World→Prop} {P:Program} {t:TypeId} {m k v:Operand} (_ho:o.op=.mapUpdate t m k v) {W:World} (h:wpList P ops Q (o :: rest) a W):wpList P ops Q (o :: rest) a W := h
theorem mq_ne {w:World} {g g' t:Nat} {cs:Array Value} {l:List (Int × Int)} (h:w.heap[g]?=some (.cells cs t (0,0))) (h':w.heap[g']?=some (mqO l)):g ≠ g' := by
 intro e
 subst e
 rw [h] at h'
 simp [mqO] at h'
theorem mqK_116:MqKey Try.prog 116 := by
 refine ⟨by kernel_rfl,fun a b c d w=>?_,fun e a b w=>by kernel_rfl⟩
 refine eqA_of (P:=Try.prog) (d:=9999) (t:=116) (fs:=Try.prog.fieldsOf 116) (by kernel_rfl) (by kernel_rfl) ?_
 rw [show (Try.prog.fieldsOf 116).toList=[(Try.prog.fieldsOf 116)[0]!,(Try.prog.fieldsOf 116)[1]!] by kernel_rfl]
 exact eqf_cons (a:=.int .i64 a) (b:=.int .i64 c) (by kernel_rfl) (by kernel_rfl) (by kernel_rfl) (by kernel_rfl) (eqf_last (a:=.int .i64 b) (b:=.int .i64 d) (by kernel_rfl) (by kernel_rfl) (by kernel_rfl) (by kernel_rfl))

end Go.Proofs.Ythjmdpekcleihaa.P
