/- Functions of this seat as plain Lean functions, with proofs that the Go code comes to just their answers, or what stands between them and a law's statement; no conditions. (Laid by a program of this session, out of the kit's print.) -/
import Derived.Test.YthjmdpekcleihaaProg
import Derived.Below
import Derived.Deep.Draws
import Derived.Deep.AppendLies
import Derived.Maps.AppendAt
import Derived.OwnWalk
import Derived.Laws.BytesArg
import Derived.Laws.MakeOwn
import Derived.Laws.OwnMore
import Derived.Deep.OwnRows
import Derived.Tactics
import Derived.Lib.ConvBytes
import Derived.Laws.Slices
import Derived.WalkKit
import Derived.KernelRfl
import Derived.RowKit3
import Derived.Deep.LoopGhost
import Derived.Deep.QuietTactic
import Derived.BigQuiet
import Derived.WideLaws
import Derived.Deep.DeepCutAuto
import Derived.Deep.CutBlock
import Derived.Deep.RegionHeld3
import Derived.Laws.Rows
import Derived.Lib.AppendStr
import Derived.ArgAppend
import Derived.Laws.IdiomCopy
import Derived.OrdersHeld
import Derived.Laws.BitsLemmas
import Derived.RowKit
import Derived.Laws.EntriesVeiled
import Derived.Lib.SliceRun
import Derived.WalkMore
import Derived.MapKept
import Derived.Test.YthjmdpekcleihaaWWords
import Derived.Test.YthjmdpekcleihaaWLast
import Derived.Test.YthjmdpekcleihaaWTab
import Derived.Test.YthjmdpekcleihaaWFour
import Derived.Test.YthjmdpekcleihaaWQPut
import Derived.Test.YthjmdpekcleihaaWApart
import Derived.Test.YthjmdpekcleihaaWArr
import Derived.Test.YthjmdpekcleihaaWZeros
import Derived.Test.YthjmdpekcleihaaWFoot
import Derived.Test.YthjmdpekcleihaaWKept
import Derived.Test.YthjmdpekcleihaaWShare
import Derived.Test.YthjmdpekcleihaaWN
import Derived.Test.YthjmdpekcleihaaWFootNe
import Derived.Test.YthjmdpekcleihaaWAt
import Derived.Test.YthjmdpekcleihaaWEqStruct
import Derived.Test.YthjmdpekcleihaaWRepsOne
import Derived.Test.YthjmdpekcleihaaWInv
import Derived.Test.YthjmdpekcleihaaWInvWords
import Derived.Test.YthjmdpekcleihaaWGuard
import Derived.Test.YthjmdpekcleihaaWNEv
import Derived.Test.YthjmdpekcleihaaWMore
namespace Go.Proofs.Ythjmdpekcleihaa.P
open Go.RowKit Go.Proofs.YthjmdpekcleihaaW.PrintWords Go.Proofs.YthjmdpekcleihaaW.PrintLast Go.Proofs.YthjmdpekcleihaaW.PrintMore
attribute [local go_sem] max2_int min2_int max_two min_two max_three min_three max_four min_four   -- for this text's walks alone
set_option linter.unusedVariables false
set_option linter.unusedSimpArgs false



def errW:Option Int→Value
 | none=>.nilIface
 | some c=>.iface 0 (.int .i64 c)
theorem errW_none:errW none=.nilIface := rfl
theorem errW_some (c:Int):errW (some c)=.iface 0 (.int .i64 c) := rfl

theorem info3:(Try.prog.info? 3).map (fun i=>(i.zero,i.size,i.bytes))=some (some (.int .i64 0),1,8) := by kernel_rfl
theorem info4:(Try.prog.info? 4).map (fun i=>(i.zero,i.size,i.bytes))=some (some (.bool false),1,1) := by kernel_rfl
theorem info50:(Try.prog.info? 50).map (fun i=>(i.zero,i.size,i.bytes))=some (some (.agg #[(.int .i64 0),(.int .i64 0),(.int .i64 0),(.int .i64 0),(.int .i64 0)]),5,40) := by kernel_rfl
theorem info116:(Try.prog.info? 116).map (fun i=>(i.zero,i.size,i.bytes))=some (some (.agg #[(.int .i64 0),(.int .i64 0)]),2,16) := by kernel_rfl
-- the values' own types
/-! #### struct type 24 -/
structure S24 where
 f0:Int
 f1:Int
 f2:(List Int)
 f3:(List Int)
def k24:Kd S24 := Kd.iso (Kd.pair (Kd.int .i64) (Kd.pair (Kd.int .i64) (Kd.pair (Kd.slice 3 (Kd.int .i64)) (Kd.slice 3 (Kd.int .i64))))) (fun x:S24=>(x.f0,x.f1,x.f2,x.f3))
theorem k24_open {w:World} {x:S24} {cs:List Value} (h:k24.K w x cs):∃ A2 c2 A3 c3,cs=[.int .i64 x.f0,.int .i64 x.f1,.slice A2 x.f2.length c2,.slice A3 x.f3.length c3]∧x.f2.length≤c2∧(Kd.int .i64).C w A2 x.f2.length x.f2∧x.f3.length≤c3∧(Kd.int .i64).C w A3 x.f3.length x.f3 := by
 obtain ⟨_,_,rfl,rfl,⟨_,_,rfl,rfl,⟨_,_,rfl,⟨A2,c2,rfl,l2,g2⟩,⟨A3,c3,rfl,l3,g3⟩⟩⟩⟩:=h
 exact ⟨A2,c2,A3,c3,rfl,l2,g2,l3,g3⟩
/-! #### struct type 116 -/
structure S116 where
 f0:Int
 f1:Int
def z116:S116 := ⟨(0:Int),(0:Int)⟩
def k116:Kd S116 := Kd.iso (Kd.pair (Kd.int .i64) (Kd.int .i64)) (fun x:S116=>(x.f0,x.f1))
theorem k116_open {w:World} {x:S116} {cs:List Value} (h:k116.K w x cs):cs=[.int .i64 x.f0,.int .i64 x.f1] := by
 obtain ⟨_,_,rfl,rfl,rfl⟩:=h
 exact rfl
theorem k116_mkM (w:World) (base:Nat) (ok:Nat→Prop) (x:S116) :k116.M w base ok x [.int .i64 x.f0,.int .i64 x.f1] := ⟨[.int .i64 x.f0],[.int .i64 x.f1],rfl,rfl,rfl⟩
def rd_T116 (xs:List S116) (i:Int):S116 := xs.getD i.toNat z116
theorem at_T116 {w:World} {A:Option Addr} {n:Nat} {xs:List S116} (h:Kd.C k116 w A n xs) (i:Int) (h0:0≤i) (h1:i<n):∃ ad ,A=some ad∧w.cell? (ad.add (i.toNat * 2))=some (.int .i64 (rd_T116 xs i).f0)∧w.cell? ⟨(ad.add (i.toNat * 2)).block,(ad.add (i.toNat * 2)).off+1,none⟩=some (.int .i64 (rd_T116 xs i).f1) := by
 obtain ⟨ad,c,e,_,hK,hc0⟩:=Kd.C_get h z116 i h0 h1
 have hc:∀ j u,c[j]?=some u→w.cell? (ad.add (i.toNat * 2+j))=some u:=hc0
 obtain rfl:=k116_open hK
 exact ⟨ad,e,hc 0 _ rfl,by rw [← add_field _ _ 1 (by omega)];exact hc 1 _ rfl⟩

/-! #### struct type 50 -/
structure S50 where
 f0:Int
 f1:Int
 f2:Int
 f3:Int
 f4:Int
def z50:S50 := ⟨(0:Int),(0:Int),(0:Int),(0:Int),(0:Int)⟩
def k50:Kd S50 := Kd.iso (Kd.pair (Kd.int .i64) (Kd.pair (Kd.int .i64) (Kd.pair (Kd.int .i64) (Kd.pair (Kd.int .i64) (Kd.int .i64))))) (fun x:S50=>(x.f0,x.f1,x.f2,x.f3,x.f4))
theorem k50_open {w:World} {x:S50} {cs:List Value} (h:k50.K w x cs):cs=[.int .i64 x.f0,.int .i64 x.f1,.int .i64 x.f2,.int .i64 x.f3,.int .i64 x.f4] := by
 obtain ⟨_,_,rfl,rfl,⟨_,_,rfl,rfl,⟨_,_,rfl,rfl,⟨_,_,rfl,rfl,rfl⟩⟩⟩⟩:=h
 exact rfl
theorem k50_openM {w:World} {base:Nat} {ok:Nat→Prop} {x:S50} {cs:List Value} (h:k50.M w base ok x cs):cs=[.int .i64 x.f0,.int .i64 x.f1,.int .i64 x.f2,.int .i64 x.f3,.int .i64 x.f4] := by
 obtain ⟨_,_,rfl,rfl,⟨_,_,rfl,rfl,⟨_,_,rfl,rfl,⟨_,_,rfl,rfl,rfl⟩⟩⟩⟩:=h
 exact rfl
theorem k50_mkM (w:World) (base:Nat) (ok:Nat→Prop) (x:S50) :k50.M w base ok x [.int .i64 x.f0,.int .i64 x.f1,.int .i64 x.f2,.int .i64 x.f3,.int .i64 x.f4] := ⟨[.int .i64 x.f0],[.int .i64 x.f1,.int .i64 x.f2,.int .i64 x.f3,.int .i64 x.f4],rfl,rfl,⟨[.int .i64 x.f1],[.int .i64 x.f2,.int .i64 x.f3,.int .i64 x.f4],rfl,rfl,⟨[.int .i64 x.f2],[.int .i64 x.f3,.int .i64 x.f4],rfl,rfl,⟨[.int .i64 x.f3],[.int .i64 x.f4],rfl,rfl,rfl⟩⟩⟩⟩
def rd_T50 (xs:List S50) (i:Int):S50 := xs.getD i.toNat z50
theorem at_T50 {w:World} {A:Option Addr} {n:Nat} {xs:List S50} (h:Kd.C k50 w A n xs) (i:Int) (h0:0≤i) (h1:i<n):∃ ad ,A=some ad∧w.cell? (ad.add (i.toNat * 5))=some (.int .i64 (rd_T50 xs i).f0)∧w.cell? ⟨(ad.add (i.toNat * 5)).block,(ad.add (i.toNat * 5)).off+1,none⟩=some (.int .i64 (rd_T50 xs i).f1)∧w.cell? ⟨(ad.add (i.toNat * 5)).block,(ad.add (i.toNat * 5)).off+2,none⟩=some (.int .i64 (rd_T50 xs i).f2)∧w.cell? ⟨(ad.add (i.toNat * 5)).block,(ad.add (i.toNat * 5)).off+3,none⟩=some (.int .i64 (rd_T50 xs i).f3)∧w.cell? ⟨(ad.add (i.toNat * 5)).block,(ad.add (i.toNat * 5)).off+4,none⟩=some (.int .i64 (rd_T50 xs i).f4) := by
 obtain ⟨ad,c,e,_,hK,hc0⟩:=Kd.C_get h z50 i h0 h1
 have hc:∀ j u,c[j]?=some u→w.cell? (ad.add (i.toNat * 5+j))=some u:=hc0
 obtain rfl:=k50_open hK
 exact ⟨ad,e,hc 0 _ rfl,by rw [← add_field _ _ 1 (by omega)];exact hc 1 _ rfl,by rw [← add_field _ _ 2 (by omega)];exact hc 2 _ rfl,by rw [← add_field _ _ 3 (by omega)];exact hc 3 _ rfl,by rw [← add_field _ _ 4 (by omega)];exact hc 4 _ rfl⟩

/-! #### struct type 73 -/
structure S73 where
 f0:Int
 f1:Int
/-! #### struct type 33 -/
structure S33 where
 f0:S24
 f1:(List Int)
 f2:(List S50)
def k33:Kd S33 := Kd.iso (Kd.pair k24 (Kd.pair (Kd.slice 3 (Kd.int .i64)) (Kd.slice 50 k50))) (fun x:S33=>(x.f0,x.f1,x.f2))
theorem k33_open {w:World} {x:S33} {cs:List Value} (h:k33.K w x cs):∃ A2 c2 A3 c3 A4 c4 A5 c5,cs=[.int .i64 x.f0.f0,.int .i64 x.f0.f1,.slice A2 x.f0.f2.length c2,.slice A3 x.f0.f3.length c3,.slice A4 x.f1.length c4,.slice A5 x.f2.length c5]∧x.f0.f2.length≤c2∧(Kd.int .i64).C w A2 x.f0.f2.length x.f0.f2∧x.f0.f3.length≤c3∧(Kd.int .i64).C w A3 x.f0.f3.length x.f0.f3∧x.f1.length≤c4∧(Kd.int .i64).C w A4 x.f1.length x.f1∧x.f2.length≤c5∧k50.C w A5 x.f2.length x.f2 := by
 obtain ⟨_,_,rfl,s0,⟨_,_,rfl,⟨A4,c4,rfl,l4,g4⟩,⟨A5,c5,rfl,l5,g5⟩⟩⟩:=h
 obtain ⟨A2,c2,A3,c3,rfl,l2,g2,l3,g3⟩:=k24_open s0
 exact ⟨A2,c2,A3,c3,A4,c4,A5,c5,rfl,l2,g2,l3,g3,l4,g4,l5,g5⟩
/-! ### what is held, at a world that has only moved on -/
section
variable {α : Type} {d : Kd α} {e base n : Nat} {ok : Nat → Prop} {v : Value} {xs : List α} {u w W : World} {g : Nat} {o : Obj} {A : Option Addr}
theorem Kd.R_up (h:d.R e w base ok v xs) (hb:Below w.heap.size w W := by repeat (first | (with_reducible exact Below.refl _ _) | apply below_alloc | apply pw_below_drewN | apply below_drew1 | exact Below.refl _ _)):d.R e W base ok v xs := Kd.R_below h hb
theorem Kd.C_up (h:d.C w A n xs) (hb:Below w.heap.size w W := by repeat (first | (with_reducible exact Below.refl _ _) | apply below_alloc | apply pw_below_drewN | apply below_drew1 | exact Below.refl _ _)):d.C W A n xs := Kd.C_below h hb
theorem blk_up (h:w.heap[g]?=some o) (hb:Below w.heap.size w W := by repeat (first | (with_reducible exact Below.refl _ _) | apply below_alloc | apply pw_below_drewN | apply below_drew1 | exact Below.refl _ _)):W.heap[g]?=some o := blk_below h hb
theorem below_setA {j:Nat} {x:Value} (h:Below w.heap.size w W) (hg:Aside0 (w.heap.size≤g)):Below w.heap.size w (W.setCell ⟨g,j,none⟩ x) := below_set h hg.out
theorem hb_ {p:Prop} (h:p := by repeat (first | (with_reducible first | exact HB.out | apply below_alloc | apply pw_below_drewN | apply below_drew1) | (refine below_setA ?_ (by assumption)) | exact HB.out)):p := h
end
section
variable {w : World} {g : Nat} {t : TypeId} {a0 a1 a2 a3 a4 a5 a6 a7 a8 : Value}
theorem cells1 (h:w.heap[g]?=some (.cells #[a0] t (0,0))):w.cell? ⟨g,0,none⟩=some a0∧w.frozen? ⟨g,0,none⟩=false := ⟨(blk_cell h 0).trans rfl,blk_frozen h 0⟩
theorem cells2 (h:w.heap[g]?=some (.cells #[a0,a1] t (0,0))):w.cell? ⟨g,0,none⟩=some a0∧w.cell? ⟨g,1,none⟩=some a1∧w.frozen? ⟨g,0,none⟩=false∧w.frozen? ⟨g,1,none⟩=false := ⟨(blk_cell h 0).trans rfl,(blk_cell h 1).trans rfl,blk_frozen h 0,blk_frozen h 1⟩
theorem cells4 (h:w.heap[g]?=some (.cells #[a0,a1,a2,a3] t (0,0))):w.cell? ⟨g,0,none⟩=some a0∧w.cell? ⟨g,1,none⟩=some a1∧w.cell? ⟨g,2,none⟩=some a2∧w.cell? ⟨g,3,none⟩=some a3∧w.frozen? ⟨g,0,none⟩=false∧w.frozen? ⟨g,1,none⟩=false∧w.frozen? ⟨g,2,none⟩=false∧w.frozen? ⟨g,3,none⟩=false := ⟨(blk_cell h 0).trans rfl,(blk_cell h 1).trans rfl,(blk_cell h 2).trans rfl,(blk_cell h 3).trans rfl,blk_frozen h 0,blk_frozen h 1,blk_frozen h 2,blk_frozen h 3⟩
theorem cells5 (h:w.heap[g]?=some (.cells #[a0,a1,a2,a3,a4] t (0,0))):w.cell? ⟨g,0,none⟩=some a0∧w.cell? ⟨g,1,none⟩=some a1∧w.cell? ⟨g,2,none⟩=some a2∧w.cell? ⟨g,3,none⟩=some a3∧w.cell? ⟨g,4,none⟩=some a4∧w.frozen? ⟨g,0,none⟩=false∧w.frozen? ⟨g,1,none⟩=false∧w.frozen? ⟨g,2,none⟩=false∧w.frozen? ⟨g,3,none⟩=false∧w.frozen? ⟨g,4,none⟩=false := ⟨(blk_cell h 0).trans rfl,(blk_cell h 1).trans rfl,(blk_cell h 2).trans rfl,(blk_cell h 3).trans rfl,(blk_cell h 4).trans rfl,blk_frozen h 0,blk_frozen h 1,blk_frozen h 2,blk_frozen h 3,blk_frozen h 4⟩
theorem cells6 (h:w.heap[g]?=some (.cells #[a0,a1,a2,a3,a4,a5] t (0,0))):w.cell? ⟨g,0,none⟩=some a0∧w.cell? ⟨g,1,none⟩=some a1∧w.cell? ⟨g,2,none⟩=some a2∧w.cell? ⟨g,3,none⟩=some a3∧w.cell? ⟨g,4,none⟩=some a4∧w.cell? ⟨g,5,none⟩=some a5∧w.frozen? ⟨g,0,none⟩=false∧w.frozen? ⟨g,1,none⟩=false∧w.frozen? ⟨g,2,none⟩=false∧w.frozen? ⟨g,3,none⟩=false∧w.frozen? ⟨g,4,none⟩=false∧w.frozen? ⟨g,5,none⟩=false := ⟨(blk_cell h 0).trans rfl,(blk_cell h 1).trans rfl,(blk_cell h 2).trans rfl,(blk_cell h 3).trans rfl,(blk_cell h 4).trans rfl,(blk_cell h 5).trans rfl,blk_frozen h 0,blk_frozen h 1,blk_frozen h 2,blk_frozen h 3,blk_frozen h 4,blk_frozen h 5⟩
end
section
variable {α : Type} {d : Kd α} {e base n : Nat} {ok : Nat → Prop} {v : Value} {xs : List α} {u w w1 W : World} {g g' : Nat} {o : Obj}
theorem set_far {j k:Nat} {x:Value} (hk:k ≠ g) (h:W.heap[k]?=w.heap[k]?):(W.setCell ⟨g,j,none⟩ x).heap[k]?=w.heap[k]? := (Below.heap_setCell _ _ _ k hk).trans h
theorem Kd.R_fars (g:Nat) (h:d.R e w base ok v xs) (hk:∀ k,ok k→k ≠ g) (hs:∀ k,k ≠ g→W.heap[k]?=w.heap[k]? := by intro k_ hk_; (repeat (first | (with_reducible rfl) | (refine set_far hk_ ?_) | rfl))):d.R e W base ok v xs := Kd.R_step h (fun k ho _=>hs k (hk k ho))
theorem gsz (hg:g=W.heap.size) (hb:Below w.heap.size w W := by exact hb_):Aside0 (w.heap.size≤g) := ⟨by rw [hg]; exact below_size hb⟩
theorem nbl (h:Aside0 (w.heap[g]?=some o)) (hg:g'=W.heap.size) (hb:Below w.heap.size w W := by repeat (first | (with_reducible exact Below.refl _ _) | apply below_alloc | apply pw_below_drewN | apply below_drew1 | exact Below.refl _ _)):Aside0 (g ≠ g') := ⟨by rw [hg]; exact Nat.ne_of_lt (blk_lt (blk_below h.out hb))⟩
theorem nbr (h:Aside0 (w.heap[g]?=some o)) (hg:g'=W.heap.size) (hb:Below w.heap.size w W := by repeat (first | (with_reducible exact Below.refl _ _) | apply below_alloc | apply pw_below_drewN | apply below_drew1 | exact Below.refl _ _)):Aside0 (g' ≠ g) := ⟨by rw [hg]; exact Nat.ne_of_gt (blk_lt (blk_below h.out hb))⟩
theorem bkb (h:Aside0 (w.heap[g]?=some o)) (hb:Below W.heap.size W w1) (hw:Below w.heap.size w W := by repeat (first | (with_reducible exact Below.refl _ _) | apply below_alloc | apply pw_below_drewN | apply below_drew1 | exact Below.refl _ _)):Aside0 (w1.heap[g]?=some o) := ⟨blk_below (blk_below h.out hw) hb⟩
theorem rbw (h:Aside0 (d.R e w base ok v xs)) (hb:Below W.heap.size W w1) (hw:Below w.heap.size w W := by repeat (first | (with_reducible exact Below.refl _ _) | apply below_alloc | apply pw_below_drewN | apply below_drew1 | exact Below.refl _ _)):Aside0 (d.R e w1 base ok v xs) := ⟨Kd.R_below (Kd.R_below h.out hw) hb⟩
theorem rlo (h:d.R e w1 W.heap.size ok v xs) (hb:Below w.heap.size w W := by exact hb_):Aside0 (d.R e w1 w.heap.size ok v xs) := ⟨Kd.R_lower h (below_size hb)⟩
end
section
variable {P : Program} {ops : Array Oper} {rest : List Oper} {o : Oper} {a : Act} {Q : Exit → Act → World → Prop} {W : World}
theorem box_ev {N:Tmp} {cs:Array Value} {t:TypeId}
  (h:∀ g,g=W.heap.size→∀ w1,w1.heap[g]?=some (.cells cs t (0,0))→Below W.heap.size W w1→wpList P ops Q rest (a.put o.dst (.pointer (some ⟨g,0,none⟩))) w1)
  (hgd:o.guard=none:=by rfl) (hd:o.dst=some N:=by rfl) (hrun:(execOp a.eval o).run P W=.ok (.value (.pointer (some ⟨W.heap.size,0,none⟩))) (W.alloc (.cells cs t (0,0))):=by first|(go_simp;done)|(go_simp;rfl)):wpList P ops Q (o :: rest) a W:=box_event hgd hd hrun h
end
section
variable {w : World} {g : Nat} {t : TypeId} {a0 a1 a2 a3 a4 a5 a6 a7 a8 b0 b1 b2 b3 b4 b5 b6 b7 b8 : Value}
theorem blk_puts2 (h:w.heap[g]?=some (.cells #[a0,a1] t (0,0))):((w.setCell ⟨g,0,none⟩ b0).setCell ⟨g,1,none⟩ b1).heap[g]?=some (.cells #[b0,b1] t (0,0)) := (blk_set (blk_set h 0 b0) 1 b1)
theorem blk_puts4 (h:w.heap[g]?=some (.cells #[a0,a1,a2,a3] t (0,0))):((((w.setCell ⟨g,0,none⟩ b0).setCell ⟨g,1,none⟩ b1).setCell ⟨g,2,none⟩ b2).setCell ⟨g,3,none⟩ b3).heap[g]?=some (.cells #[b0,b1,b2,b3] t (0,0)) := (blk_set (blk_set (blk_set (blk_set h 0 b0) 1 b1) 2 b2) 3 b3)
theorem blk_puts5 (h:w.heap[g]?=some (.cells #[a0,a1,a2,a3,a4] t (0,0))):(((((w.setCell ⟨g,0,none⟩ b0).setCell ⟨g,1,none⟩ b1).setCell ⟨g,2,none⟩ b2).setCell ⟨g,3,none⟩ b3).setCell ⟨g,4,none⟩ b4).heap[g]?=some (.cells #[b0,b1,b2,b3,b4] t (0,0)) := (blk_set (blk_set (blk_set (blk_set (blk_set h 0 b0) 1 b1) 2 b2) 3 b3) 4 b4)
theorem blk_puts6 (h:w.heap[g]?=some (.cells #[a0,a1,a2,a3,a4,a5] t (0,0))):((((((w.setCell ⟨g,0,none⟩ b0).setCell ⟨g,1,none⟩ b1).setCell ⟨g,2,none⟩ b2).setCell ⟨g,3,none⟩ b3).setCell ⟨g,4,none⟩ b4).setCell ⟨g,5,none⟩ b5).heap[g]?=some (.cells #[b0,b1,b2,b3,b4,b5] t (0,0)) := (blk_set (blk_set (blk_set (blk_set (blk_set (blk_set h 0 b0) 1 b1) 2 b2) 3 b3) 4 b4) 5 b5)
end
section
variable {P : Program} {md : Region.Mode} {ops : Array Oper} {Q : Exit → Act → World → Prop} {S : World → Prop} {ds : List Nat} {i : Nat} {N : Option Tmp} {oi : Oper} {v : Value} {fuel : Nat} {l : Array Bool} {a a' : Act} {w : World}
end
section
theorem ifp_ {c:Prop} [Decidable c] {α:Type} {a:Option α} {r:α} (H:(if c then a else none)=some r):c∧a=some r := by
 by_cases h:c
 ·rw [if_pos h] at H;exact ⟨h,H⟩
 ·rw [if_neg h] at H;cases H
theorem ifn_ {c:Prop} [Decidable c] {α:Type} {a:Option α} {r:α} (H:(if c then none else a)=some r):¬ c∧a=some r := by
 by_cases h:c
 ·rw [if_pos h] at H;cases H
 ·rw [if_neg h] at H;exact ⟨h,H⟩
variable {P : Program} {md : Region.Mode} {ops : Array Oper} {Q : Exit → Act → World → Prop} {S : World → Prop} {ds : List Nat} {oi : Oper} {v : Value} {fuel : Nat} {l l' : Array Bool} {a a' : Act} {w : World}
theorem pI (i:Nat) (N:Option Tmp) (h:wpAnyLast P md ops Q S ds fuel l' a' w) (hl:l.setIfInBounds i true=l' := by simp only [List.setIfInBounds_toArray,List.set_cons_zero,List.set_cons_succ]; rfl) (hi:ops[i]?=some oi := by rfl) (hN:oi.dst=N := by rfl) (hc:anyB md ops l l' i=true := by first | exact any_of HT_.out (by kernel_rfl) | kernel_rfl) (hQ:∀ c a w,Q (.panic c) (a.put oi.dst v) w→Q (.panic c) a w := by exact fun _ _ _ h=>h) (hy:Yields P ops oi v a := by exact Or.inl ⟨by rfl,by intro w'; go_simp; with_reducible rfl⟩) (ha:a.put N v=a' := by simp only [Act.put,List.setIfInBounds_toArray,List.set_cons_zero,List.set_cons_succ,i64_w,i32_w]; rfl):wpAnyLast P md ops Q S ds (fuel+1) l a w := pure_ l' hi hN hc hQ hy ha h
theorem pU (i:Nat) (N:Option Tmp) (h:wpAnyLast P md ops Q S ds fuel l' a' w) (hl:l.setIfInBounds i true=l' := by simp only [List.setIfInBounds_toArray,List.set_cons_zero,List.set_cons_succ]; rfl) (hi:ops[i]?=some oi := by rfl) (hN:oi.dst=N := by rfl) (hc:anyB md ops l l' i=true := by first | exact any_of HT_.out (by kernel_rfl) | kernel_rfl) (hQ:∀ c a w,Q (.panic c) (a.put oi.dst undef) w→Q (.panic c) a w := by exact fun _ _ _ h=>h) (hy:Yields P ops oi undef a := by exact Or.inr ⟨by rfl,by rfl⟩) (ha:a.put N undef=a' := by simp only [Act.put,List.setIfInBounds_toArray,List.set_cons_zero,List.set_cons_succ,i64_w,i32_w]; rfl):wpAnyLast P md ops Q S ds (fuel+1) l a w := pure_ l' hi hN hc hQ hy ha h
theorem tI4 (i:Nat) (N:Option Tmp) (hS:S w) (h:wpAnyLast P md ops Q S ds fuel l' a' w) (hl:l.setIfInBounds i true=l' := by simp only [List.setIfInBounds_toArray,List.set_cons_zero,List.set_cons_succ]; rfl) (hi:ops[i]?=some oi := by rfl) (hN:oi.dst=N := by rfl) (hc:takeB md ops ds l l' i=true := by first | exact take_ofW HT_.out HW_.out (by kernel_rfl) | kernel_rfl) (hQ:∀ c a w,Q (.panic c) (a.put oi.dst v) w→Q (.panic c) a w := by exact fun _ _ _ h=>h) (hy:YieldsIf P ops S oi v a := by exact Or.inl ⟨by rfl,by rintro w' ⟨s0,s1,s2,s3⟩; go_simp; with_reducible rfl⟩) (ha:a.put N v=a' := by simp only [Act.put,List.setIfInBounds_toArray,List.set_cons_zero,List.set_cons_succ,i64_w,i32_w]; rfl):wpAnyLast P md ops Q S ds (fuel+1) l a w := take_ l' hi hN hc hQ hy hS ha h
theorem tI5 (i:Nat) (N:Option Tmp) (hS:S w) (h:wpAnyLast P md ops Q S ds fuel l' a' w) (hl:l.setIfInBounds i true=l' := by simp only [List.setIfInBounds_toArray,List.set_cons_zero,List.set_cons_succ]; rfl) (hi:ops[i]?=some oi := by rfl) (hN:oi.dst=N := by rfl) (hc:takeB md ops ds l l' i=true := by first | exact take_ofW HT_.out HW_.out (by kernel_rfl) | kernel_rfl) (hQ:∀ c a w,Q (.panic c) (a.put oi.dst v) w→Q (.panic c) a w := by exact fun _ _ _ h=>h) (hy:YieldsIf P ops S oi v a := by exact Or.inl ⟨by rfl,by rintro w' ⟨s0,s1,s2,s3,s4⟩; go_simp; with_reducible rfl⟩) (ha:a.put N v=a' := by simp only [Act.put,List.setIfInBounds_toArray,List.set_cons_zero,List.set_cons_succ,i64_w,i32_w]; rfl):wpAnyLast P md ops Q S ds (fuel+1) l a w := take_ l' hi hN hc hQ hy hS ha h
theorem tI6 (i:Nat) (N:Option Tmp) (hS:S w) (h:wpAnyLast P md ops Q S ds fuel l' a' w) (hl:l.setIfInBounds i true=l' := by simp only [List.setIfInBounds_toArray,List.set_cons_zero,List.set_cons_succ]; rfl) (hi:ops[i]?=some oi := by rfl) (hN:oi.dst=N := by rfl) (hc:takeB md ops ds l l' i=true := by first | exact take_ofW HT_.out HW_.out (by kernel_rfl) | kernel_rfl) (hQ:∀ c a w,Q (.panic c) (a.put oi.dst v) w→Q (.panic c) a w := by exact fun _ _ _ h=>h) (hy:YieldsIf P ops S oi v a := by exact Or.inl ⟨by rfl,by rintro w' ⟨s0,s1,s2,s3,s4,s5⟩; go_simp; with_reducible rfl⟩) (ha:a.put N v=a' := by simp only [Act.put,List.setIfInBounds_toArray,List.set_cons_zero,List.set_cons_succ,i64_w,i32_w]; rfl):wpAnyLast P md ops Q S ds (fuel+1) l a w := take_ l' hi hN hc hQ hy hS ha h
theorem tI7 (i:Nat) (N:Option Tmp) (hS:S w) (h:wpAnyLast P md ops Q S ds fuel l' a' w) (hl:l.setIfInBounds i true=l' := by simp only [List.setIfInBounds_toArray,List.set_cons_zero,List.set_cons_succ]; rfl) (hi:ops[i]?=some oi := by rfl) (hN:oi.dst=N := by rfl) (hc:takeB md ops ds l l' i=true := by first | exact take_ofW HT_.out HW_.out (by kernel_rfl) | kernel_rfl) (hQ:∀ c a w,Q (.panic c) (a.put oi.dst v) w→Q (.panic c) a w := by exact fun _ _ _ h=>h) (hy:YieldsIf P ops S oi v a := by exact Or.inl ⟨by rfl,by rintro w' ⟨s0,s1,s2,s3,s4,s5,s6⟩; go_simp; with_reducible rfl⟩) (ha:a.put N v=a' := by simp only [Act.put,List.setIfInBounds_toArray,List.set_cons_zero,List.set_cons_succ,i64_w,i32_w]; rfl):wpAnyLast P md ops Q S ds (fuel+1) l a w := take_ l' hi hN hc hQ hy hS ha h
theorem tI8 (i:Nat) (N:Option Tmp) (hS:S w) (h:wpAnyLast P md ops Q S ds fuel l' a' w) (hl:l.setIfInBounds i true=l' := by simp only [List.setIfInBounds_toArray,List.set_cons_zero,List.set_cons_succ]; rfl) (hi:ops[i]?=some oi := by rfl) (hN:oi.dst=N := by rfl) (hc:takeB md ops ds l l' i=true := by first | exact take_ofW HT_.out HW_.out (by kernel_rfl) | kernel_rfl) (hQ:∀ c a w,Q (.panic c) (a.put oi.dst v) w→Q (.panic c) a w := by exact fun _ _ _ h=>h) (hy:YieldsIf P ops S oi v a := by exact Or.inl ⟨by rfl,by rintro w' ⟨s0,s1,s2,s3,s4,s5,s6,s7⟩; go_simp; with_reducible rfl⟩) (ha:a.put N v=a' := by simp only [Act.put,List.setIfInBounds_toArray,List.set_cons_zero,List.set_cons_succ,i64_w,i32_w]; rfl):wpAnyLast P md ops Q S ds (fuel+1) l a w := take_ l' hi hN hc hQ hy hS ha h
theorem oI (i:Nat) (N:Option Tmp) (h:∀ K:Act→World→Prop,Shut (∀ a' w',S w'→(S w'→wpAnyLast P md ops Q S ds fuel l' a' w')→K a' w')→if Region.wanted oi (yielded ops a.tmps)=true then Oper.wp P oi a w K Q else K (a.put N undef) w) (hl:l.setIfInBounds i true=l' := by simp only [List.setIfInBounds_toArray,List.set_cons_zero,List.set_cons_succ]; rfl) (hi:ops[i]?=some oi := by rfl) (hN:oi.dst=N := by rfl) (hc:readyB md ops l l' i=true := by first | exact one_of HT_.out (by kernel_rfl) | kernel_rfl) (hd:i ∉ ds := by decide):wpAnyLast P md ops Q S ds (fuel+1) l a w := one_ l' hi hN hc hd h
end
section
variable {α : Type} {d : Kd α} {e base n c : Nat} {ok : Nat → Prop} {v : Value} {xs : List α} {u w W W1 w2 : World} {g t : Nat} {o : Obj} {A : Option Addr} {cells : Array Value}
theorem ga_ {p:Prop} (h:p := by (try simp only [List.map_toArray,List.map_cons,List.map_nil]); first | done | rfl | (simp only [List.length_drop,List.length_take]; rfl)):p := h
theorem er_ {p:Prop} (h:p := by first | rfl | (simp [errW_none,errW_some] <;> rfl) | (simp [*,errW_none,errW_some] <;> rfl)):p := h
theorem nl_ {p:Prop} (h:p := by first | exact Kd.R_nil _ _ _ _ _ | exact Kd.N_nil _ _ _ _ _ | exact Kd.V_nil _ _ _ _ _ | exact Kd.Q_nil _ _ _ _ _ | exact Kd.S_nil _ _ _ _ _):p := h
theorem hbs (hb:Below W.heap.size W w2) (h:Below w.heap.size w W := by exact hb_):Aside0 (Below w.heap.size w w2) := ⟨below_step h hb⟩
theorem cq (h:Aside0 (d.C w A n xs)) (hb:Below w.heap.size w W1 := by exact HB.out) (hw:Below W1.heap.size W1 W := by repeat (first | (with_reducible exact Below.refl _ _) | apply below_alloc | apply pw_below_drewN | apply below_drew1 | exact Below.refl _ _)):d.C W A n xs := Kd.C_below (Kd.C_below h.out hb) hw
theorem rqs (g:Nat) (h:Aside0 (d.R e w base ok (.slice A n c) xs)) (bk:Aside0 (w.heap[g]?=some (.cells cells t (0,0)))) (hb:d.C W1 A xs.length xs→d.C W A xs.length xs := by intro h_; (with_reducible repeat (first | apply Kd.C_alloc | apply Kd.C_drewN | apply Kd.C_drew)); exact h_) (ht:∀ q,q ∈ e :: d.E→q ≠ t := by decide) (hs:∀ k,k ≠ g→W1.heap[k]?=w.heap[k]? := by intro k_ hk_; (repeat (first | (with_reducible rfl) | (refine set_far hk_ ?_) | rfl))):d.C W A xs.length xs :=
 hb (Kd.R_reads' (Kd.R_fars g (Kd.R_types h.out bk.out ht) (fun _ hk=>hk.2) hs)).2.2
theorem bqf {β:Type} [BEq β] [LawfulBEq β] {x y:β} (h:¬ x=y):(x == y)=false := beq_eq_false_iff_ne.mpr h
theorem bnt {β:Type} [BEq β] [LawfulBEq β] {x y:β} (h:¬ x=y):(x != y)=true := bne_iff_ne.mpr h
theorem bqt {β:Type} [BEq β] [LawfulBEq β] {x y:β} (h:x=y):(x == y)=true := beq_iff_eq.mpr h
theorem bnf {β:Type} [BEq β] [LawfulBEq β] {x y:β} (h:x=y):(x != y)=false := bne_eq_false_iff_eq.mpr h
end
theorem bnd {α β:Type} {o:Option α} {f:α→Option β} {r:β} (h:o.bind f=some r):∃ a,Aside0 (o=some a)∧f a=some r := by
 obtain ⟨a,h1,h2⟩:=Option.bind_eq_some_iff.mp h
 exact ⟨a,⟨h1⟩,h2⟩
theorem ofd {p:Prop} [Decidable p] (h:decide p=true := by first | (with_reducible assumption) | assumption):p := of_decide_eq_true h
theorem nn {a b:Nat} (h:Aside0 (a ≠ b)):a ≠ b∧b ≠ a := ⟨h.out,fun e=>h.out e.symm⟩
section
variable {w W : World} {g : Nat} {o : Obj} {v : Value} {a : Addr} {cs : Array Value} {t : TypeId}
theorem hbc (HB:Aside0 (Below w.heap.size w W)) (h:w.cell? a=some v):W.cell? a=some v := (HB.out.cell (World.block_lt_of_cell? w _ h)).trans h
theorem bkd (h:Aside0 (w.heap[g]?=some o)):Aside0 (w.drew.heap[g]?=some o) := ⟨blk_drew h.out⟩
theorem bc (h:Aside0 (w.heap[g]?=some (.cells cs t (0,0)))) (i:Nat) (e:cs[i]?=some v := by exact rfl):w.cell? ⟨g,i,none⟩=some v := (blk_cell h.out i).trans e
end
section
variable {P : Program} {md : Region.Mode} {ops : Array Oper} {Q : Exit → Act → World → Prop} {S : World → Prop} {ds : List Nat} {a' b : Act} {v : Value} {w : World} {fuel : Nat} {l : Array Bool}
theorem nrm (N:Tmp) (h:wpAnyLast P md ops Q S ds fuel l a' w) (ha:Act.put b (some N) v=a' := by simp only [Act.put,List.setIfInBounds_toArray,List.set_cons_zero,List.set_cons_succ,i64_w,i32_w]; rfl):wpAnyLast P md ops Q S ds fuel l (Act.put b (some N) v) w := norm_ ha h
end
section
variable {w W : World} {g : Nat} {o : Option Obj} {α β : Type} {d : Kd α} {e base : Nat} {ok : Nat → Prop} {v : Value} {xs : List α}
theorem blkW (h:w.heap[g]?=o) (t:w.heap[g]?=o→W.heap[g]?=o := by intro h_; (with_reducible repeat (first | refine blk_drewN ?_ _ | refine blk_drew ?_ | refine blk_alloc ?_ _)); exact h_):W.heap[g]?=o := t h
theorem hyx {p q:Prop} {y x:α} (hy:y=x) (h:p) (t:y=x→p→q := by intro hy_ H; first | (rw [hy_]; with_reducible exact H) | (have H2_ := (Option.bind_some _ _).symm.trans H; rw [hy_]; with_reducible exact H2_) | (have H2_ := (Option.bind_some _ _).symm.trans H; with_reducible exact H2_) | with_reducible exact H | (rw [hy_]; exact H) | exact H):q := t hy h
end

/-! ### sets of pairs of whole numbers: maps from a struct of two fields to bool, into which nothing but true goes; as the list of their keys in the order in which they came -/
def mqV (k:Int × Int):Value := .agg #[.int .i64 k.1,.int .i64 k.2]
def mqHas (k:Int × Int) (l:List (Int × Int)):Bool := l.contains k
def mqPut (k:Int × Int) (l:List (Int × Int)):List (Int × Int) := if mqHas k l=true then l else l ++ [k]
def mqEs:List (Int × Int)→Nat→List MapEntry
 | [],_=>[]
 | p :: r,n=>{ key:=mqV p,val:=.bool true,born:=n } :: mqEs r (n+1)
def mqO (l:List (Int × Int)):Obj := .map (mqEs l 0).toArray l.length
structure MqKey (P : Program) (K : TypeId) : Prop where
 wide:(match P.underlying K with|some (.array _ _)|some (.struct _)=>true|_=>false)=true
 eq:∀ (a b c d:Int) (w:World),(Op.equal K (.agg #[.int .i64 a,.int .i64 b]) (.agg #[.int .i64 c,.int .i64 d])).run P w=.ok ((a == c) && (b == d)) w
 chk:∀ (e:Bool) (a b:Int) (w:World),(Instr.checkKey e 10000 K (.agg #[.int .i64 a,.int .i64 b])).run P w=.ok () w
theorem mq_wide {P:Program} {w:World} {k:TypeId} (hwide:(match P.underlying k with | some (.array _ _) | some (.struct _)=>true | _=>false)=true) (x:Value) (es:List MapEntry) :
  (Instr.findKey k x es).run P w=(Instr.findAsking k x es).run P w:=by
 cases hu:P.underlying k with
 | none=>simp [hu] at hwide
 | some kd =>
  cases es with
  | nil=>simp [Instr.findKey,run_underlying hu,Instr.findNow,Instr.findAsking]
  | cons e es=>cases kd <;> simp [hu] at hwide <;> simp [Instr.findKey,run_underlying hu,Instr.findNow,Instr.sameNow]
theorem mq_asks {P:Program} {w:World} {K:TypeId} (h:MqKey P K) (k:Int × Int):∀ (l:List (Int × Int)) (n i:Nat),(Instr.findAsking K (mqV k) (mqEs l n) i).run P w=.ok (if mqHas k l=true then some (i+l.idxOf k,.bool true) else none) w
 | [],n,i=>by simp [mqEs,Instr.findAsking,mqHas]
 | p :: r,n,i=>by
  have he:=h.eq k.1 k.2 p.1 p.2 w
  have ih:=mq_asks (w:=w) h k r (n+1) (i+1)
  unfold mqHas at ih ⊢
  by_cases hk:k=p
  ·subst hk
   simp [mqEs,Instr.findAsking,mqV,he,Result.andThen]
  ·have hb:((k.1 == p.1) && (k.2 == p.2))=false:=by
    rw [Bool.eq_false_iff]
    intro h2
    apply hk
    have h3:k.1=p.1∧k.2=p.2:=by simpa using h2
    exact Prod.ext h3.1 h3.2
   rw [hb] at he
   have hne:(p == k)=false:=by simp;exact fun e=>hk e.symm
   have hc:(p :: r).contains k=r.contains k:=by
    simp [List.contains_cons,hk]
   rw [hc]
   simp only [mqEs,Instr.findAsking]
   simp only [Sem.run_bind]
   rw [show (Op.equal K (mqV k) (mqV p)).run P w=.ok false w from he]
   simp only [Result.andThen_ok,Bool.false_eq_true,if_false]
   rw [ih]
   simp only [List.idxOf_cons,hne,cond_false]
   rw [show i+1+r.idxOf k=i+(r.idxOf k+1) from by omega]
theorem mq_find {P:Program} {w:World} {K:TypeId} (h:MqKey P K) (k:Int × Int) (l:List (Int × Int)):(Instr.findKey K (mqV k) (mqEs l 0)).run P w=.ok (if mqHas k l=true then some (l.idxOf k,.bool true) else none) w := by
 rw [mq_wide h.wide,mq_asks h k l 0 0,Nat.zero_add]
theorem mqEs_at (k:Int × Int):∀ (l:List (Int × Int)) (n:Nat),mqHas k l=true→(mqEs l n)[l.idxOf k]?=some { key := mqV k,val := .bool true,born := n+l.idxOf k }
 | [],n,h=>by simp [mqHas] at h
 | p :: r,n,h=>by
  by_cases hk:k=p
  ·subst hk;simp [mqEs]
  ·have hne:(p == k)=false:=by simp;exact fun e=>hk e.symm
   have h':mqHas k r=true:=by unfold mqHas at h ⊢;simpa [List.contains_cons,hk] using h
   have:=mqEs_at k r (n+1) h'
   simp only [mqEs,List.idxOf_cons,hne,cond_false,List.getElem?_cons_succ]
   rw [this,show n+1+r.idxOf k=n+(r.idxOf k+1) from by omega]
theorem mqEs_new (k:Int × Int):∀ (l:List (Int × Int)) (n:Nat),mqEs (l ++ [k]) n=mqEs l n ++ [{ key := mqV k,val := .bool true,born := n+l.length }]
 | [],_=>rfl
 | p :: r,n=>by
  simp only [List.cons_append,mqEs,mqEs_new k r (n+1),List.length_cons]
  rw [show n+1+r.length=n+(r.length+1) from by omega]
theorem mq_look {P:Program} {w:World} {t K E b:Nat} {l:List (Int × Int)} (hT:P.underlying t=some (.map K E)) (hK:MqKey P K) (hz:(zeroValue E).run P w=.ok (.bool false) w) (hb:w.heap[b]?=some (mqO l)) (k:Int × Int) :
  (Instr.lookup t (.map (some b)) (mqV k) false).run P w=.ok (.bool (mqHas k l)) w:=by
 have hf:=mq_find (w:=w) hK k l
 have hc:=fun e=>hK.chk e k.1 k.2 w
 have hg:=MapKept.run_getObj_map (P:=P) (r:=b) (w:=w) hb
 have hc':∀ e,(Instr.checkKey e 10000 K (mqV k)).run P w=.ok () w:=hc
 cases hh:mqHas k l with
 | true=>rw [hh,if_pos rfl] at hf;simp [Instr.lookup,run_underlying hT,hg,hc',hf,Result.andThen]
 | false=>rw [hh,if_neg (by simp)] at hf;simp [Instr.lookup,run_underlying hT,hg,hc',hf,hz,Result.andThen]
theorem mq_upd {P:Program} {w:World} {t K E b:Nat} {l:List (Int × Int)} (hT:P.underlying t=some (.map K E)) (hK:MqKey P K) (hb:w.heap[b]?=some (mqO l)) (k:Int × Int) :
  (Instr.mapUpdate t (.map (some b)) (mqV k) (.bool true)).run P w=.ok () { w with heap:=w.heap.setIfInBounds b (mqO (mqPut k l)) }:=by
 have hf:=mq_find (w:=w) hK k l
 have hc:∀ e,(Instr.checkKey e 10000 K (mqV k)).run P w=.ok () w:=fun e=>hK.chk e k.1 k.2 w
 have hg:=MapKept.run_getObj_map (P:=P) (r:=b) (w:=w) hb
 have hs:=fun o=>MapKept.run_setObj_map (P:=P) (r:=b) (w:=w) o hb
 unfold mqPut
 cases hh:mqHas k l with
 | true =>
  rw [hh,if_pos rfl] at hf
  have hat:=mqEs_at k l 0 hh
  have hkk:(Instr.keyThatStays (mqV k) (mqV k)).run P w=.ok (mqV k) w:=by simp [Instr.keyThatStays,Instr.sameBits,mqV]
  have hlt:l.idxOf k<(mqEs l 0).length:=by
   rw [List.getElem?_eq_some_iff] at hat
   exact hat.1
  have hmod:(mqEs l 0).modify (l.idxOf k) (fun e=>{ key:=mqV k,val:=.bool true,born:=e.born })=mqEs l 0:=by
   apply List.ext_getElem?
   intro i
   rw [List.getElem?_modify]
   by_cases hi:l.idxOf k=i
   ·subst hi
    rw [hat];simp
   ·simp [hi]
  simp [Instr.mapUpdate,run_underlying hT,hg,hc,hf,hs,Result.andThen,hat,hkk,mqO,hmod]
 | false =>
  rw [hh,if_neg (by simp)] at hf
  have ho:mqO (l ++ [k])=.map ((mqEs l 0).toArray.push { key:=mqV k,val:=.bool true,born:=l.length }) (l.length+1):=by
   unfold mqO
   rw [mqEs_new k l 0]
   simp
  simp [Instr.mapUpdate,run_underlying hT,hg,hc,hf,hs,Result.andThen,ho]
section
variable {P : Program} {ops : Array Oper} {rest : List Oper} {o : Oper} {a : Act} {Q : Exit → Act → World → Prop}
theorem mq_make {W:World} (hgd:o.guard=none) {t:TypeId} (ho:o.op=.makeMap t none)
  (h:∀ g,g=W.heap.size→∀ w1,w1.heap[g]?=some (mqO [])→Below W.heap.size W w1→wpList P ops Q rest (a.put o.dst (.map (some g))) w1):wpList P ops Q (o :: rest) a W:=by
 have hrun:(execOp a.eval o).run P W=.ok (.value (.map (some W.heap.size))) (W.alloc (mqO [])):=by
  simp [execOp,ho,Instr.makeMap,Result.andThen]
  rfl
 exact Kd.event_run hgd hrun (h _ rfl _ (blk_new W _) (below_alloc (Below.refl _ _) _))
theorem mq_look_1 {W:World} (hgd:o.guard=none) {t K E:TypeId} {m k:Operand} (ho:o.op=.lookup t m k false) {b:Nat} (x y:Int) {l:List (Int × Int)} (hm:a.eval m=.map (some b)) (hk:a.eval k=.agg #[.int .i64 x,.int .i64 y])
  (hT:P.underlying t=some (.map K E)) (hK:MqKey P K) (hz:∀ w,(zeroValue E).run P w=.ok (.bool false) w) (hb:W.heap[b]?=some (mqO l))
  (h:wpList P ops Q rest (a.put o.dst (.bool (mqHas (x,y) l))) W):wpList P ops Q (o :: rest) a W:=by
 have hrun:(execOp a.eval o).run P W=.ok (.value (.bool (mqHas (x,y) l))) W:=by
  have:=mq_look (k:=(x,y)) hT hK (hz W) hb
  unfold mqV at this
  simp [execOp,ho,hm,hk,this,Result.andThen]
 exact Kd.event_run hgd hrun h
theorem mq_put {W:World} (hgd:o.guard=none) (hN:o.dst=none) {t K E:TypeId} {m k v:Operand} (ho:o.op=.mapUpdate t m k v) {b:Nat} (x y:Int) {l:List (Int × Int)} (hm:a.eval m=.map (some b)) (hk:a.eval k=.agg #[.int .i64 x,.int .i64 y]) (hv:a.eval v=.bool true)
  (hT:P.underlying t=some (.map K E)) (hK:MqKey P K) (hb:W.heap[b]?=some (mqO l))
  (h:∀ w1,w1.heap[b]?=some (mqO (mqPut (x,y) l))→W.grownBy w1 (some b)→wpList P ops Q rest a w1):wpList P ops Q (o :: rest) a W:=by
 have hrun:(execOp a.eval o).run P W=.ok .skip { W with heap:=W.heap.setIfInBounds b (mqO (mqPut (x,y) l)) }:=by
  have:=mq_upd (k:=(x,y)) hT hK hb
  unfold mqV at this
  simp [execOp,ho,hm,hk,hv,this,Result.andThen]
 have hh:({ W with heap:=W.heap.setIfInBounds b (mqO (mqPut (x,y) l)) }:World).heap[b]?=some (mqO (mqPut (x,y) l))∧W.grownBy { W with heap:=W.heap.setIfInBounds b (mqO (mqPut (x,y) l)) } (some b) :=
  ⟨(MapKept.heap_set hb).1,rfl,rfl,rfl,by simp,fun i _ hi=>(MapKept.heap_set hb).2 i (fun e=>hi (by rw [e]))⟩
 refine wpList_plain hgd fun K' hK'=>?_
 unfold Oper.wp
 rw [hrun]
 show K' (a.put o.dst undef) _
 rw [hN]
 exact hK' _ _ (h _ hh.1 hh.2)
end
section
variable {α : Type} {d : Kd α} {e base : Nat} {ok : Nat → Prop} {v : Value} {xs : List α} {w w1 : World} {g : Nat} {o : Obj} {l : List (Int × Int)}
theorem mq_R_over (h:d.R e w base ok v xs) (hb:w.heap[g]?=some o) (ho:∃ l,o=mqO l) (hg:w.grownBy w1 (some g)):d.R e w1 base ok v xs := by
 refine Kd.R_mono (Kd.R_step (Kd.R_bound h) (fun k hk hlt=>hg.block k hlt (fun he=>?_))) (fun _ hk=>hk.1)
 injection he with he
 subst he
 obtain ⟨l,rfl⟩:=ho
 obtain ⟨q,_,c,hc⟩:=hk.2.2.2
 rw [hb] at hc
 simp [mqO] at hc
theorem mq_R_ne (h:d.R e w base ok v xs) (hb:w.heap[g]?=some (mqO l)):some g ≠ v.ownBlock := fun he=>by
 obtain ⟨c,hc⟩:=Kd.R_typed h g he.symm
 rw [hb] at hc
 simp [mqO] at hc
end
theorem mq_gate {ops:Array Oper} {rest:List Oper} {o:Oper} {a:Act} {Q:Exit→Act→World→Prop} {P:Program} {t:TypeId} {m k v:Operand} (_ho:o.op=.mapUpdate t m k v) {W:World} (h:wpList P ops Q (o :: rest) a W):wpList P ops Q (o :: rest) a W := h
theorem mq_ne {w:World} {g g' t:Nat} {cs:Array Value} {l:List (Int × Int)} (h:w.heap[g]?=some (.cells cs t (0,0))) (h':w.heap[g']?=some (mqO l)):g ≠ g' := by
 intro e
 subst e
 rw [h] at h'
 simp [mqO] at h'
theorem mq_far {w:World} {g:Nat} {o:Obj} (h:w.heap[g]?=some o) {p:Addr} (hp:g ≠ p.block) (u:Value):(w.setCell p u).heap[g]?=some o := (Below.heap_setCell w p u g hp).trans h
theorem mqK_73:MqKey Try.prog 73 := by
 refine ⟨by kernel_rfl,fun a b c d w=>?_,fun e a b w=>by kernel_rfl⟩
 refine eqA_of (P:=Try.prog) (d:=9999) (t:=73) (fs:=Try.prog.fieldsOf 73) (by kernel_rfl) (by kernel_rfl) ?_
 rw [show (Try.prog.fieldsOf 73).toList=[(Try.prog.fieldsOf 73)[0]!,(Try.prog.fieldsOf 73)[1]!] by kernel_rfl]
 exact eqf_cons (a:=.int .i64 a) (b:=.int .i64 c) (by kernel_rfl) (by kernel_rfl) (by kernel_rfl) (by kernel_rfl) (eqf_last (a:=.int .i64 b) (b:=.int .i64 d) (by kernel_rfl) (by kernel_rfl) (by kernel_rfl) (by kernel_rfl))
theorem mqK_116:MqKey Try.prog 116 := by
 refine ⟨by kernel_rfl,fun a b c d w=>?_,fun e a b w=>by kernel_rfl⟩
 refine eqA_of (P:=Try.prog) (d:=9999) (t:=116) (fs:=Try.prog.fieldsOf 116) (by kernel_rfl) (by kernel_rfl) ?_
 rw [show (Try.prog.fieldsOf 116).toList=[(Try.prog.fieldsOf 116)[0]!,(Try.prog.fieldsOf 116)[1]!] by kernel_rfl]
 exact eqf_cons (a:=.int .i64 a) (b:=.int .i64 c) (by kernel_rfl) (by kernel_rfl) (by kernel_rfl) (by kernel_rfl) (eqf_last (a:=.int .i64 b) (b:=.int .i64 d) (by kernel_rfl) (by kernel_rfl) (by kernel_rfl) (by kernel_rfl))
theorem mqT_91:Try.prog.underlying 91=some (.map 73 4) := by kernel_rfl
theorem mqZ_91 (w:World):(zeroValue 4).run Try.prog w=.ok (.bool false) w := by kernel_rfl

end Go.Proofs.Ythjmdpekcleihaa.P
