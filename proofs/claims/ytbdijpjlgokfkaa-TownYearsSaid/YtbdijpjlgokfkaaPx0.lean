/- Functions of this seat as plain Lean functions, with proofs that the Go code comes to just their answers, or what stands between them and a law's statement; no conditions. (Laid by a program of this session, out of the kit's print.) -/
import Derived.Test.YtbdijpjlgokfkaaWWords
import Derived.Test.YtbdijpjlgokfkaaProg
import Derived.Below
import Derived.Deep.Draws
import Derived.Deep.AppendLies
import Derived.Maps.AppendAt
import Derived.OwnWalk
import Derived.Laws.BytesArg
import Derived.Laws.MakeOwn
import Derived.Laws.OwnMore
import Derived.Deep.OwnRows
import Derived.Tactics
import Derived.Lib.ConvBytes
import Derived.Laws.Slices
import Derived.WalkKit
import Derived.KernelRfl
import Derived.RowKit3
import Derived.Deep.LoopGhost
import Derived.Deep.QuietTactic
import Derived.BigQuiet
import Derived.WideLaws
import Derived.Deep.DeepCutAuto
import Derived.Deep.CutBlock
import Derived.Deep.RegionHeld3
import Derived.Laws.Rows
import Derived.Lib.AppendStr
import Derived.ArgAppend
import Derived.Laws.IdiomCopy
import Derived.OrdersHeld
import Derived.Laws.BitsLemmas
import Derived.RowKit
import Derived.Laws.EntriesVeiled
import Derived.Lib.SliceRun
import Derived.WalkMore
import Derived.MapKept
namespace Go.Proofs.Ytbdijpjlgokfkaa.P
open Go.RowKit Go.Proofs.YtbdijpjlgokfkaaW.PrintWords Go.Proofs.YtbdijpjlgokfkaaW.PrintLast Go.Proofs.YtbdijpjlgokfkaaW.PrintMore
attribute [local go_sem] max2_int min2_int max_two min_two max_three min_three max_four min_four   -- for this text's walks alone
set_option linter.unusedVariables false
set_option linter.unusedSimpArgs false
theorem lr_ {α:Type} (a:Option α):LeO a a := LeO.refl a
theorem ln_ {α:Type} (a:Option α):LeO Option.none a := LeO.none a
theorem li_ {α:Type} {c:Prop} [Decidable c] {a a' b b':Option α} (h:LeO a a') (k:LeO b b'):LeO (if c then a else b) (if c then a' else b') := LeO.ite h k
theorem lb_ {α β:Type} {a a':Option α} {f f':α→Option β} (h:LeO a a') (k:∀ x,LeO (f x) (f' x)):LeO (a.bind f) (a'.bind f') := LeO.bind h k
theorem fr_ {p:Prop} (h:p := by first|rfl|(simp;done)|(simp [*];done)):p := h
theorem dr_ {p:Prop} (h:p := by repeat (first|exact Drawn0.refl _|apply Drawn0.step)):p := h
theorem dd_ {w:World} {a b c:Nat}:(w.drewN (a+b)).drewN c=w.drewN (a+(b+c)) := (World.drewN_drewN ..).trans (congrArg (World.drewN w) (Nat.add_assoc a b c))
theorem fa_ {w:World} {a:Addr} {v:Value} {g x:Nat} (h:w.cell? a=some v) (hg:Aside0 (w.heap.size≤g)) (e:a.block=x := by first|rfl|exact add_block _ _|(dsimp only;exact add_block _ _)):x ≠ g := by rw [←e];exact Nat.ne_of_lt (Nat.lt_of_lt_of_le (World.block_lt_of_cell? w a h) hg.out)
theorem sl_:(∀ {α:Type} (l:List α) (i:Nat) (a:α),l.toArray.setIfInBounds i a=(l.set i a).toArray)∧(∀ {α:Type} (x:α) (l:List α) (b:α),(x::l).set 0 b=b::l)∧(∀ {α:Type} (x:α) (l:List α) (n:Nat) (b:α),(x::l).set (n+1) b=x::l.set n b) := ⟨fun _ _ _=>List.setIfInBounds_toArray ..,fun _ _ _=>List.set_cons_zero ..,fun _ _ _ _=>List.set_cons_succ ..⟩
theorem am_ {p:Prop} (h:p):Aside0 p := ⟨h⟩
theorem dt_ {p:Prop} [inst:Decidable p] (h:p):decide p=true := decide_eq_true h
theorem df_ {p:Prop} [inst:Decidable p] (h:¬ p):decide p=false := decide_eq_false h
theorem bl_ (w:World) (a:Addr) {v:Value} (h:w.cell? a=some v):a.block<w.heap.size := World.block_lt_of_cell? w a h
theorem oj_ {α:Type} {a b:α} (h:some a=some b):a=b := Option.some.inj h



def errW:Option Int→Value
 | none=>.nilIface
 | some c=>.iface 0 (.int .i64 c)
theorem errW_none:errW none=.nilIface:=rfl
theorem errW_some (c:Int):errW (some c)=.iface 0 (.int .i64 c):=rfl

theorem info3:(Try.prog.info? 3).map (fun i=>(i.zero,i.size,i.bytes))=some (some (.int .i64 0),1,8):=by kernel_rfl
theorem info68:(Try.prog.info? 68).map (fun i=>(i.zero,i.size,i.bytes))=some (some (.agg #[(.int .i64 0),(.int .i64 0),(.int .i64 0)]),3,24):=by kernel_rfl
theorem info80:(Try.prog.info? 80).map (fun i=>(i.zero,i.size,i.bytes))=some (some (.agg #[(.string ⟨#[]⟩),(.int .i64 0),(.int .i64 0),(.int .i64 0)]),4,40):=by kernel_rfl
-- the values' own types
/-! #### struct type 80 -/
structure S80 where
 f0:ByteArray
 f1:Int
 f2:Int
 f3:Int
def z80:S80:=⟨(⟨#[]⟩:ByteArray),(0:Int),(0:Int),(0:Int)⟩
def k80:Kd S80:=Kd.iso (Kd.pair Kd.string (Kd.pair (Kd.int .i64) (Kd.pair (Kd.int .i64) (Kd.int .i64)))) (fun x:S80=>(x.f0,x.f1,x.f2,x.f3))
theorem k80_open {w:World} {x:S80} {cs:List Value} (h:k80.K w x cs):cs=[.string x.f0,.int .i64 x.f1,.int .i64 x.f2,.int .i64 x.f3]:=by
 obtain ⟨_,_,rfl,rfl,⟨_,_,rfl,rfl,⟨_,_,rfl,rfl,rfl⟩⟩⟩:=h
 exact rfl
def rd_T80 (xs:List S80) (i:Int):S80:=xs.getD i.toNat z80
theorem at_T80 {w:World} {A:Option Addr} {n:Nat} {xs:List S80} (h:Kd.C k80 w A n xs) (i:Int) (h0:0≤i) (h1:i<n):∃ ad ,A=some ad∧w.cell? (ad.add (i.toNat * 4))=some (.string (rd_T80 xs i).f0)∧w.cell? ⟨(ad.add (i.toNat * 4)).block,(ad.add (i.toNat * 4)).off+1,none⟩=some (.int .i64 (rd_T80 xs i).f1)∧w.cell? ⟨(ad.add (i.toNat * 4)).block,(ad.add (i.toNat * 4)).off+2,none⟩=some (.int .i64 (rd_T80 xs i).f2)∧w.cell? ⟨(ad.add (i.toNat * 4)).block,(ad.add (i.toNat * 4)).off+3,none⟩=some (.int .i64 (rd_T80 xs i).f3):=by
 obtain ⟨ad,c,e,_,hK,hc0⟩:=Kd.C_get h z80 i h0 h1
 have hc:∀ j u,c[j]?=some u→w.cell? (ad.add (i.toNat * 4+j))=some u:=hc0
 obtain rfl:=k80_open hK
 exact ⟨ad,e,hc 0 _ rfl,by rw [← add_field _ _ 1 (by omega)];exact hc 1 _ rfl,by rw [← add_field _ _ 2 (by omega)];exact hc 2 _ rfl,by rw [← add_field _ _ 3 (by omega)];exact hc 3 _ rfl⟩

/-! #### struct type 68 -/
structure S68 where
 f0:Int
 f1:Int
 f2:Int
def z68:S68:=⟨(0:Int),(0:Int),(0:Int)⟩
def k68:Kd S68:=Kd.iso (Kd.pair (Kd.int .i64) (Kd.pair (Kd.int .i64) (Kd.int .i64))) (fun x:S68=>(x.f0,x.f1,x.f2))
theorem k68_open {w:World} {x:S68} {cs:List Value} (h:k68.K w x cs):cs=[.int .i64 x.f0,.int .i64 x.f1,.int .i64 x.f2]:=by
 obtain ⟨_,_,rfl,rfl,⟨_,_,rfl,rfl,rfl⟩⟩:=h
 exact rfl
theorem k68_openM {w:World} {base:Nat} {ok:Nat→Prop} {x:S68} {cs:List Value} (h:k68.M w base ok x cs):cs=[.int .i64 x.f0,.int .i64 x.f1,.int .i64 x.f2]:=by
 obtain ⟨_,_,rfl,rfl,⟨_,_,rfl,rfl,rfl⟩⟩:=h
 exact rfl
theorem k68_mkM (w:World) (base:Nat) (ok:Nat→Prop) (x:S68) :k68.M w base ok x [.int .i64 x.f0,.int .i64 x.f1,.int .i64 x.f2]:=⟨[.int .i64 x.f0],[.int .i64 x.f1,.int .i64 x.f2],rfl,rfl,⟨[.int .i64 x.f1],[.int .i64 x.f2],rfl,rfl,rfl⟩⟩
def rd_T68 (xs:List S68) (i:Int):S68:=xs.getD i.toNat z68
theorem at_T68 {w:World} {A:Option Addr} {n:Nat} {xs:List S68} (h:Kd.C k68 w A n xs) (i:Int) (h0:0≤i) (h1:i<n):∃ ad ,A=some ad∧w.cell? (ad.add (i.toNat * 3))=some (.int .i64 (rd_T68 xs i).f0)∧w.cell? ⟨(ad.add (i.toNat * 3)).block,(ad.add (i.toNat * 3)).off+1,none⟩=some (.int .i64 (rd_T68 xs i).f1)∧w.cell? ⟨(ad.add (i.toNat * 3)).block,(ad.add (i.toNat * 3)).off+2,none⟩=some (.int .i64 (rd_T68 xs i).f2):=by
 obtain ⟨ad,c,e,_,hK,hc0⟩:=Kd.C_get h z68 i h0 h1
 have hc:∀ j u,c[j]?=some u→w.cell? (ad.add (i.toNat * 3+j))=some u:=hc0
 obtain rfl:=k68_open hK
 exact ⟨ad,e,hc 0 _ rfl,by rw [← add_field _ _ 1 (by omega)];exact hc 1 _ rfl,by rw [← add_field _ _ 2 (by omega)];exact hc 2 _ rfl⟩

/-! #### struct type 75 -/
structure S75 where
 f0:Int
 f1:Int
 f2:Int
 f3:Int
/-! #### struct type 58 -/
structure S58 where
 f0:Int
 f1:Int
 f2:(List Int)
def k58:Kd S58:=Kd.iso (Kd.pair (Kd.int .i64) (Kd.pair (Kd.int .i64) (Kd.slice 3 (Kd.int .i64)))) (fun x:S58=>(x.f0,x.f1,x.f2))
theorem k58_open {w:World} {x:S58} {cs:List Value} (h:k58.K w x cs):∃ A2 c2,cs=[.int .i64 x.f0,.int .i64 x.f1,.slice A2 x.f2.length c2]∧x.f2.length≤c2∧(Kd.int .i64).C w A2 x.f2.length x.f2:=by
 obtain ⟨_,_,rfl,rfl,⟨_,_,rfl,rfl,⟨A2,c2,rfl,l2,g2⟩⟩⟩:=h
 exact ⟨A2,c2,rfl,l2,g2⟩
/-! #### struct type 60 -/
structure S60 where
 f0:Int
 f1:Int
 f2:(List Int)
 f3:(List Int)
def k60:Kd S60:=Kd.iso (Kd.pair (Kd.int .i64) (Kd.pair (Kd.int .i64) (Kd.pair (Kd.slice 3 (Kd.int .i64)) (Kd.slice 3 (Kd.int .i64))))) (fun x:S60=>(x.f0,x.f1,x.f2,x.f3))
theorem k60_open {w:World} {x:S60} {cs:List Value} (h:k60.K w x cs):∃ A2 c2 A3 c3,cs=[.int .i64 x.f0,.int .i64 x.f1,.slice A2 x.f2.length c2,.slice A3 x.f3.length c3]∧x.f2.length≤c2∧(Kd.int .i64).C w A2 x.f2.length x.f2∧x.f3.length≤c3∧(Kd.int .i64).C w A3 x.f3.length x.f3:=by
 obtain ⟨_,_,rfl,rfl,⟨_,_,rfl,rfl,⟨_,_,rfl,⟨A2,c2,rfl,l2,g2⟩,⟨A3,c3,rfl,l3,g3⟩⟩⟩⟩:=h
 exact ⟨A2,c2,A3,c3,rfl,l2,g2,l3,g3⟩
/-! #### struct type 62 -/
structure S62 where
 f0:S58
 f1:S60
 f2:(List Int)
def k62:Kd S62:=Kd.iso (Kd.pair k58 (Kd.pair k60 (Kd.slice 3 (Kd.int .i64)))) (fun x:S62=>(x.f0,x.f1,x.f2))
theorem k62_open {w:World} {x:S62} {cs:List Value} (h:k62.K w x cs):∃ A2 c2 A5 c5 A6 c6 A7 c7,cs=[.int .i64 x.f0.f0,.int .i64 x.f0.f1,.slice A2 x.f0.f2.length c2,.int .i64 x.f1.f0,.int .i64 x.f1.f1,.slice A5 x.f1.f2.length c5,.slice A6 x.f1.f3.length c6,.slice A7 x.f2.length c7]∧x.f0.f2.length≤c2∧(Kd.int .i64).C w A2 x.f0.f2.length x.f0.f2∧x.f1.f2.length≤c5∧(Kd.int .i64).C w A5 x.f1.f2.length x.f1.f2∧x.f1.f3.length≤c6∧(Kd.int .i64).C w A6 x.f1.f3.length x.f1.f3∧x.f2.length≤c7∧(Kd.int .i64).C w A7 x.f2.length x.f2:=by
 obtain ⟨_,_,rfl,s0,⟨_,_,rfl,s3,⟨A7,c7,rfl,l7,g7⟩⟩⟩:=h
 obtain ⟨A2,c2,rfl,l2,g2⟩:=k58_open s0
 obtain ⟨A5,c5,A6,c6,rfl,l5,g5,l6,g6⟩:=k60_open s3
 exact ⟨A2,c2,A5,c5,A6,c6,A7,c7,rfl,l2,g2,l5,g5,l6,g6,l7,g7⟩
/-! #### struct type 25 -/
structure S25 where
 f0:Int
 f1:(List S68)
 f2:(List Int)
 f3:Int
 f4:Int
def k25:Kd S25:=Kd.iso (Kd.pair (Kd.int .i64) (Kd.pair (Kd.slice 68 k68) (Kd.pair (Kd.slice 3 (Kd.int .i64)) (Kd.pair (Kd.int .i64) (Kd.int .i64))))) (fun x:S25=>(x.f0,x.f1,x.f2,x.f3,x.f4))
theorem k25_open {w:World} {x:S25} {cs:List Value} (h:k25.K w x cs):∃ A1 c1 A2 c2,cs=[.int .i64 x.f0,.slice A1 x.f1.length c1,.slice A2 x.f2.length c2,.int .i64 x.f3,.int .i64 x.f4]∧x.f1.length≤c1∧k68.C w A1 x.f1.length x.f1∧x.f2.length≤c2∧(Kd.int .i64).C w A2 x.f2.length x.f2:=by
 obtain ⟨_,_,rfl,rfl,⟨_,_,rfl,⟨A1,c1,rfl,l1,g1⟩,⟨_,_,rfl,⟨A2,c2,rfl,l2,g2⟩,⟨_,_,rfl,rfl,rfl⟩⟩⟩⟩:=h
 exact ⟨A1,c1,A2,c2,rfl,l1,g1,l2,g2⟩
/-! #### struct type 45 -/
structure S45 where
 f0:Int
def k45:Kd S45:=Kd.iso (Kd.int .u64) (fun x:S45=>x.f0)
theorem k45_open {w:World} {x:S45} {cs:List Value} (h:k45.K w x cs):cs=[.int .u64 x.f0]:=by
 obtain rfl:=h
 exact rfl
/-! ### what is held, at a world that has only moved on -/
section
variable {α:Type} {d:Kd α} {e base n:Nat} {ok:Nat→Prop} {v:Value} {xs:List α} {u w W:World} {g:Nat} {o:Obj} {A:Option Addr}
theorem Kd.R_up (h:d.R e w base ok v xs) (hb:Below w.heap.size w W:=by repeat (first|(with_reducible exact Below.refl _ _)|apply below_alloc|apply pw_below_drewN|apply below_drew1|exact Below.refl _ _)):d.R e W base ok v xs:=Kd.R_below h hb
theorem Kd.C_up (h:d.C w A n xs) (hb:Below w.heap.size w W:=by repeat (first|(with_reducible exact Below.refl _ _)|apply below_alloc|apply pw_below_drewN|apply below_drew1|exact Below.refl _ _)):d.C W A n xs:=Kd.C_below h hb
theorem blk_up (h:w.heap[g]?=some o) (hb:Below w.heap.size w W:=by repeat (first|(with_reducible exact Below.refl _ _)|apply below_alloc|apply pw_below_drewN|apply below_drew1|exact Below.refl _ _)):W.heap[g]?=some o:=blk_below h hb
theorem below_setA {j:Nat} {x:Value} (h:Below w.heap.size w W) (hg:Aside0 (w.heap.size≤g)):Below w.heap.size w (W.setCell ⟨g,j,none⟩ x):=below_set h hg.out
theorem hb_ {p:Prop} (h:p:=by repeat (first|(with_reducible first|exact HB.out|apply below_alloc|apply pw_below_drewN|apply below_drew1)|(refine below_setA ?_ (by assumption))|exact HB.out)):p:=h
end
section
variable {w:World} {g:Nat} {t:TypeId} {a0 a1 a2 a3 a4 a5 a6 a7 a8:Value}
theorem cells1 (h:w.heap[g]?=some (.cells #[a0] t (0,0))):w.cell? ⟨g,0,none⟩=some a0∧w.frozen? ⟨g,0,none⟩=false:=⟨(blk_cell h 0).trans rfl,blk_frozen h 0⟩
theorem cells3 (h:w.heap[g]?=some (.cells #[a0,a1,a2] t (0,0))):w.cell? ⟨g,0,none⟩=some a0∧w.cell? ⟨g,1,none⟩=some a1∧w.cell? ⟨g,2,none⟩=some a2∧w.frozen? ⟨g,0,none⟩=false∧w.frozen? ⟨g,1,none⟩=false∧w.frozen? ⟨g,2,none⟩=false:=⟨(blk_cell h 0).trans rfl,(blk_cell h 1).trans rfl,(blk_cell h 2).trans rfl,blk_frozen h 0,blk_frozen h 1,blk_frozen h 2⟩
theorem cells4 (h:w.heap[g]?=some (.cells #[a0,a1,a2,a3] t (0,0))):w.cell? ⟨g,0,none⟩=some a0∧w.cell? ⟨g,1,none⟩=some a1∧w.cell? ⟨g,2,none⟩=some a2∧w.cell? ⟨g,3,none⟩=some a3∧w.frozen? ⟨g,0,none⟩=false∧w.frozen? ⟨g,1,none⟩=false∧w.frozen? ⟨g,2,none⟩=false∧w.frozen? ⟨g,3,none⟩=false:=⟨(blk_cell h 0).trans rfl,(blk_cell h 1).trans rfl,(blk_cell h 2).trans rfl,(blk_cell h 3).trans rfl,blk_frozen h 0,blk_frozen h 1,blk_frozen h 2,blk_frozen h 3⟩
theorem cells5 (h:w.heap[g]?=some (.cells #[a0,a1,a2,a3,a4] t (0,0))):w.cell? ⟨g,0,none⟩=some a0∧w.cell? ⟨g,1,none⟩=some a1∧w.cell? ⟨g,2,none⟩=some a2∧w.cell? ⟨g,3,none⟩=some a3∧w.cell? ⟨g,4,none⟩=some a4∧w.frozen? ⟨g,0,none⟩=false∧w.frozen? ⟨g,1,none⟩=false∧w.frozen? ⟨g,2,none⟩=false∧w.frozen? ⟨g,3,none⟩=false∧w.frozen? ⟨g,4,none⟩=false:=⟨(blk_cell h 0).trans rfl,(blk_cell h 1).trans rfl,(blk_cell h 2).trans rfl,(blk_cell h 3).trans rfl,(blk_cell h 4).trans rfl,blk_frozen h 0,blk_frozen h 1,blk_frozen h 2,blk_frozen h 3,blk_frozen h 4⟩
theorem cells8 (h:w.heap[g]?=some (.cells #[a0,a1,a2,a3,a4,a5,a6,a7] t (0,0))):w.cell? ⟨g,0,none⟩=some a0∧w.cell? ⟨g,1,none⟩=some a1∧w.cell? ⟨g,2,none⟩=some a2∧w.cell? ⟨g,3,none⟩=some a3∧w.cell? ⟨g,4,none⟩=some a4∧w.cell? ⟨g,5,none⟩=some a5∧w.cell? ⟨g,6,none⟩=some a6∧w.cell? ⟨g,7,none⟩=some a7∧w.frozen? ⟨g,0,none⟩=false∧w.frozen? ⟨g,1,none⟩=false∧w.frozen? ⟨g,2,none⟩=false∧w.frozen? ⟨g,3,none⟩=false∧w.frozen? ⟨g,4,none⟩=false∧w.frozen? ⟨g,5,none⟩=false∧w.frozen? ⟨g,6,none⟩=false∧w.frozen? ⟨g,7,none⟩=false:=⟨(blk_cell h 0).trans rfl,(blk_cell h 1).trans rfl,(blk_cell h 2).trans rfl,(blk_cell h 3).trans rfl,(blk_cell h 4).trans rfl,(blk_cell h 5).trans rfl,(blk_cell h 6).trans rfl,(blk_cell h 7).trans rfl,blk_frozen h 0,blk_frozen h 1,blk_frozen h 2,blk_frozen h 3,blk_frozen h 4,blk_frozen h 5,blk_frozen h 6,blk_frozen h 7⟩
end
section
variable {α:Type} {d:Kd α} {e base n:Nat} {ok:Nat→Prop} {v:Value} {xs:List α} {u w w1 W:World} {g g':Nat} {o:Obj}
theorem set_far {j k:Nat} {x:Value} (hk:k≠g) (h:W.heap[k]?=w.heap[k]?):(W.setCell ⟨g,j,none⟩ x).heap[k]?=w.heap[k]?:=(Below.heap_setCell _ _ _ k hk).trans h
theorem Kd.R_fars (g:Nat) (h:d.R e w base ok v xs) (hk:∀ k,ok k→k≠g) (hs:∀ k,k≠g→W.heap[k]?=w.heap[k]?:=by intro k_ hk_;(repeat (first|(with_reducible rfl)|(refine set_far hk_ ?_)|rfl))):d.R e W base ok v xs:=Kd.R_step h (fun k ho _=>hs k (hk k ho))
theorem gsz (hg:g=W.heap.size) (hb:Below w.heap.size w W:=by exact hb_):Aside0 (w.heap.size≤g):=⟨by rw [hg];exact below_size hb⟩
theorem nbl (h:Aside0 (w.heap[g]?=some o)) (hg:g'=W.heap.size) (hb:Below w.heap.size w W:=by repeat (first|(with_reducible exact Below.refl _ _)|apply below_alloc|apply pw_below_drewN|apply below_drew1|exact Below.refl _ _)):Aside0 (g≠g'):=⟨by rw [hg];exact Nat.ne_of_lt (blk_lt (blk_below h.out hb))⟩
theorem nbr (h:Aside0 (w.heap[g]?=some o)) (hg:g'=W.heap.size) (hb:Below w.heap.size w W:=by repeat (first|(with_reducible exact Below.refl _ _)|apply below_alloc|apply pw_below_drewN|apply below_drew1|exact Below.refl _ _)):Aside0 (g'≠g):=⟨by rw [hg];exact Nat.ne_of_gt (blk_lt (blk_below h.out hb))⟩
theorem bkb (h:Aside0 (w.heap[g]?=some o)) (hb:Below W.heap.size W w1) (hw:Below w.heap.size w W:=by repeat (first|(with_reducible exact Below.refl _ _)|apply below_alloc|apply pw_below_drewN|apply below_drew1|exact Below.refl _ _)):Aside0 (w1.heap[g]?=some o):=⟨blk_below (blk_below h.out hw) hb⟩
theorem rbw (h:Aside0 (d.R e w base ok v xs)) (hb:Below W.heap.size W w1) (hw:Below w.heap.size w W:=by repeat (first|(with_reducible exact Below.refl _ _)|apply below_alloc|apply pw_below_drewN|apply below_drew1|exact Below.refl _ _)):Aside0 (d.R e w1 base ok v xs):=⟨Kd.R_below (Kd.R_below h.out hw) hb⟩
theorem rlo (h:d.R e w1 W.heap.size ok v xs) (hb:Below w.heap.size w W:=by exact hb_):Aside0 (d.R e w1 w.heap.size ok v xs):=⟨Kd.R_lower h (below_size hb)⟩
end
section
variable {P:Program} {ops:Array Oper} {rest:List Oper} {o:Oper} {a:Act} {Q:Exit→Act→World→Prop} {W:World}
theorem box_ev {N:Tmp} {cs:Array Value} {t:TypeId}
  (h:∀ g,g=W.heap.size→∀ w1,w1.heap[g]?=some (.cells cs t (0,0))→Below W.heap.size W w1→wpList P ops Q rest (a.put o.dst (.pointer (some ⟨g,0,none⟩))) w1)
  (hgd:o.guard=none:=by rfl) (hd:o.dst=some N:=by rfl) (hrun:(execOp a.eval o).run P W=.ok (.value (.pointer (some ⟨W.heap.size,0,none⟩))) (W.alloc (.cells cs t (0,0))):=by first|(go_simp;done)|(go_simp;rfl)):wpList P ops Q (o :: rest) a W:=box_event hgd hd hrun h
end
section
variable {w:World} {g:Nat} {t:TypeId} {a0 a1 a2 a3 a4 a5 a6 a7 a8 b0 b1 b2 b3 b4 b5 b6 b7 b8:Value}
theorem blk_puts4 (h:w.heap[g]?=some (.cells #[a0,a1,a2,a3] t (0,0))):((((w.setCell ⟨g,0,none⟩ b0).setCell ⟨g,1,none⟩ b1).setCell ⟨g,2,none⟩ b2).setCell ⟨g,3,none⟩ b3).heap[g]?=some (.cells #[b0,b1,b2,b3] t (0,0)):=(blk_set (blk_set (blk_set (blk_set h 0 b0) 1 b1) 2 b2) 3 b3)
theorem blk_puts5 (h:w.heap[g]?=some (.cells #[a0,a1,a2,a3,a4] t (0,0))):(((((w.setCell ⟨g,0,none⟩ b0).setCell ⟨g,1,none⟩ b1).setCell ⟨g,2,none⟩ b2).setCell ⟨g,3,none⟩ b3).setCell ⟨g,4,none⟩ b4).heap[g]?=some (.cells #[b0,b1,b2,b3,b4] t (0,0)):=(blk_set (blk_set (blk_set (blk_set (blk_set h 0 b0) 1 b1) 2 b2) 3 b3) 4 b4)
end
section
variable {P:Program} {md:Region.Mode} {ops:Array Oper} {Q:Exit→Act→World→Prop} {S:World→Prop} {ds:List Nat} {i:Nat} {N:Option Tmp} {oi:Oper} {v:Value} {fuel:Nat} {l:Array Bool} {a a':Act} {w:World}
end
section
theorem ifp_ {c:Prop} [Decidable c] {α:Type} {a:Option α} {r:α} (H:(if c then a else none)=some r):c∧a=some r:=by
 by_cases h:c
 ·rw [if_pos h] at H;exact ⟨h,H⟩
 ·rw [if_neg h] at H;cases H
theorem ifn_ {c:Prop} [Decidable c] {α:Type} {a:Option α} {r:α} (H:(if c then none else a)=some r):¬ c∧a=some r:=by
 by_cases h:c
 ·rw [if_pos h] at H;cases H
 ·rw [if_neg h] at H;exact ⟨h,H⟩
variable {P:Program} {md:Region.Mode} {ops:Array Oper} {Q:Exit→Act→World→Prop} {S:World→Prop} {ds:List Nat} {oi:Oper} {v:Value} {fuel:Nat} {l l':Array Bool} {a a':Act} {w:World}
theorem pI (i:Nat) (N:Option Tmp) (h:wpAnyLast P md ops Q S ds fuel l' a' w) (hl:l.setIfInBounds i true=l':=by simp only [sl_];rfl) (hi:ops[i]?=some oi:=by rfl) (hN:oi.dst=N:=by rfl) (hc:anyB md ops l l' i=true:=by first|exact any_of HT_.out (by kernel_rfl)|kernel_rfl) (hQ:∀ c a w,Q (.panic c) (a.put oi.dst v) w→Q (.panic c) a w:=by exact fun _ _ _ h=>h) (hy:Yields P ops oi v a:=by exact Or.inl ⟨by rfl,by intro w';go_simp;with_reducible rfl⟩) (ha:a.put N v=a':=by simp only [Act.put,sl_,i64_w,i32_w];rfl):wpAnyLast P md ops Q S ds (fuel+1) l a w:=pure_ l' hi hN hc hQ hy ha h
theorem pU (i:Nat) (N:Option Tmp) (h:wpAnyLast P md ops Q S ds fuel l' a' w) (hl:l.setIfInBounds i true=l':=by simp only [sl_];rfl) (hi:ops[i]?=some oi:=by rfl) (hN:oi.dst=N:=by rfl) (hc:anyB md ops l l' i=true:=by first|exact any_of HT_.out (by kernel_rfl)|kernel_rfl) (hQ:∀ c a w,Q (.panic c) (a.put oi.dst undef) w→Q (.panic c) a w:=by exact fun _ _ _ h=>h) (hy:Yields P ops oi undef a:=by exact Or.inr ⟨by rfl,by rfl⟩) (ha:a.put N undef=a':=by simp only [Act.put,sl_,i64_w,i32_w];rfl):wpAnyLast P md ops Q S ds (fuel+1) l a w:=pure_ l' hi hN hc hQ hy ha h
theorem tI3 (i:Nat) (N:Option Tmp) (hS:S w) (h:wpAnyLast P md ops Q S ds fuel l' a' w) (hl:l.setIfInBounds i true=l':=by simp only [sl_];rfl) (hi:ops[i]?=some oi:=by rfl) (hN:oi.dst=N:=by rfl) (hc:takeB md ops ds l l' i=true:=by first|exact take_ofW HT_.out HW_.out (by kernel_rfl)|kernel_rfl) (hQ:∀ c a w,Q (.panic c) (a.put oi.dst v) w→Q (.panic c) a w:=by exact fun _ _ _ h=>h) (hy:YieldsIf P ops S oi v a:=by exact Or.inl ⟨by rfl,by rintro w' ⟨s0,s1,s2⟩;go_simp;with_reducible rfl⟩) (ha:a.put N v=a':=by simp only [Act.put,sl_,i64_w,i32_w];rfl):wpAnyLast P md ops Q S ds (fuel+1) l a w:=take_ l' hi hN hc hQ hy hS ha h
theorem tI4 (i:Nat) (N:Option Tmp) (hS:S w) (h:wpAnyLast P md ops Q S ds fuel l' a' w) (hl:l.setIfInBounds i true=l':=by simp only [sl_];rfl) (hi:ops[i]?=some oi:=by rfl) (hN:oi.dst=N:=by rfl) (hc:takeB md ops ds l l' i=true:=by first|exact take_ofW HT_.out HW_.out (by kernel_rfl)|kernel_rfl) (hQ:∀ c a w,Q (.panic c) (a.put oi.dst v) w→Q (.panic c) a w:=by exact fun _ _ _ h=>h) (hy:YieldsIf P ops S oi v a:=by exact Or.inl ⟨by rfl,by rintro w' ⟨s0,s1,s2,s3⟩;go_simp;with_reducible rfl⟩) (ha:a.put N v=a':=by simp only [Act.put,sl_,i64_w,i32_w];rfl):wpAnyLast P md ops Q S ds (fuel+1) l a w:=take_ l' hi hN hc hQ hy hS ha h
theorem tI5 (i:Nat) (N:Option Tmp) (hS:S w) (h:wpAnyLast P md ops Q S ds fuel l' a' w) (hl:l.setIfInBounds i true=l':=by simp only [sl_];rfl) (hi:ops[i]?=some oi:=by rfl) (hN:oi.dst=N:=by rfl) (hc:takeB md ops ds l l' i=true:=by first|exact take_ofW HT_.out HW_.out (by kernel_rfl)|kernel_rfl) (hQ:∀ c a w,Q (.panic c) (a.put oi.dst v) w→Q (.panic c) a w:=by exact fun _ _ _ h=>h) (hy:YieldsIf P ops S oi v a:=by exact Or.inl ⟨by rfl,by rintro w' ⟨s0,s1,s2,s3,s4⟩;go_simp;with_reducible rfl⟩) (ha:a.put N v=a':=by simp only [Act.put,sl_,i64_w,i32_w];rfl):wpAnyLast P md ops Q S ds (fuel+1) l a w:=take_ l' hi hN hc hQ hy hS ha h
theorem tI6 (i:Nat) (N:Option Tmp) (hS:S w) (h:wpAnyLast P md ops Q S ds fuel l' a' w) (hl:l.setIfInBounds i true=l':=by simp only [sl_];rfl) (hi:ops[i]?=some oi:=by rfl) (hN:oi.dst=N:=by rfl) (hc:takeB md ops ds l l' i=true:=by first|exact take_ofW HT_.out HW_.out (by kernel_rfl)|kernel_rfl) (hQ:∀ c a w,Q (.panic c) (a.put oi.dst v) w→Q (.panic c) a w:=by exact fun _ _ _ h=>h) (hy:YieldsIf P ops S oi v a:=by exact Or.inl ⟨by rfl,by rintro w' ⟨s0,s1,s2,s3,s4,s5⟩;go_simp;with_reducible rfl⟩) (ha:a.put N v=a':=by simp only [Act.put,sl_,i64_w,i32_w];rfl):wpAnyLast P md ops Q S ds (fuel+1) l a w:=take_ l' hi hN hc hQ hy hS ha h
theorem tI7 (i:Nat) (N:Option Tmp) (hS:S w) (h:wpAnyLast P md ops Q S ds fuel l' a' w) (hl:l.setIfInBounds i true=l':=by simp only [sl_];rfl) (hi:ops[i]?=some oi:=by rfl) (hN:oi.dst=N:=by rfl) (hc:takeB md ops ds l l' i=true:=by first|exact take_ofW HT_.out HW_.out (by kernel_rfl)|kernel_rfl) (hQ:∀ c a w,Q (.panic c) (a.put oi.dst v) w→Q (.panic c) a w:=by exact fun _ _ _ h=>h) (hy:YieldsIf P ops S oi v a:=by exact Or.inl ⟨by rfl,by rintro w' ⟨s0,s1,s2,s3,s4,s5,s6⟩;go_simp;with_reducible rfl⟩) (ha:a.put N v=a':=by simp only [Act.put,sl_,i64_w,i32_w];rfl):wpAnyLast P md ops Q S ds (fuel+1) l a w:=take_ l' hi hN hc hQ hy hS ha h
theorem tI8 (i:Nat) (N:Option Tmp) (hS:S w) (h:wpAnyLast P md ops Q S ds fuel l' a' w) (hl:l.setIfInBounds i true=l':=by simp only [sl_];rfl) (hi:ops[i]?=some oi:=by rfl) (hN:oi.dst=N:=by rfl) (hc:takeB md ops ds l l' i=true:=by first|exact take_ofW HT_.out HW_.out (by kernel_rfl)|kernel_rfl) (hQ:∀ c a w,Q (.panic c) (a.put oi.dst v) w→Q (.panic c) a w:=by exact fun _ _ _ h=>h) (hy:YieldsIf P ops S oi v a:=by exact Or.inl ⟨by rfl,by rintro w' ⟨s0,s1,s2,s3,s4,s5,s6,s7⟩;go_simp;with_reducible rfl⟩) (ha:a.put N v=a':=by simp only [Act.put,sl_,i64_w,i32_w];rfl):wpAnyLast P md ops Q S ds (fuel+1) l a w:=take_ l' hi hN hc hQ hy hS ha h
theorem oI (i:Nat) (N:Option Tmp) (h:∀ K:Act→World→Prop,Shut (∀ a' w',S w'→(S w'→wpAnyLast P md ops Q S ds fuel l' a' w')→K a' w')→if Region.wanted oi (yielded ops a.tmps)=true then Oper.wp P oi a w K Q else K (a.put N undef) w) (hl:l.setIfInBounds i true=l':=by simp only [sl_];rfl) (hi:ops[i]?=some oi:=by rfl) (hN:oi.dst=N:=by rfl) (hc:readyB md ops l l' i=true:=by first|exact one_of HT_.out (by kernel_rfl)|kernel_rfl) (hd:i ∉ ds:=by decide):wpAnyLast P md ops Q S ds (fuel+1) l a w:=one_ l' hi hN hc hd h
end
section
variable {α:Type} {d:Kd α} {e base n c:Nat} {ok:Nat→Prop} {v:Value} {xs:List α} {u w W W1 w2:World} {g t:Nat} {o:Obj} {A:Option Addr} {cells:Array Value}
theorem ga_ {p:Prop} (h:p:=by (try simp only [List.map_toArray,List.map_cons,List.map_nil]);first|done|rfl|(simp only [List.length_drop,List.length_take];rfl)):p:=h
theorem er_ {p:Prop} (h:p:=by first|rfl|(simp [errW_none,errW_some] <;> rfl)|(simp [*,errW_none,errW_some] <;> rfl)):p:=h
theorem nl_ {p:Prop} (h:p:=by first|exact Kd.R_nil _ _ _ _ _|exact Kd.N_nil _ _ _ _ _|exact Kd.V_nil _ _ _ _ _|exact Kd.Q_nil _ _ _ _ _|exact Kd.S_nil _ _ _ _ _):p:=h
theorem hbs (hb:Below W.heap.size W w2) (h:Below w.heap.size w W:=by exact hb_):Aside0 (Below w.heap.size w w2):=⟨below_step h hb⟩
theorem cq (h:Aside0 (d.C w A n xs)) (hb:Below w.heap.size w W1:=by exact HB.out) (hw:Below W1.heap.size W1 W:=by repeat (first|(with_reducible exact Below.refl _ _)|apply below_alloc|apply pw_below_drewN|apply below_drew1|exact Below.refl _ _)):d.C W A n xs:=Kd.C_below (Kd.C_below h.out hb) hw
theorem bqf {β:Type} [BEq β] [LawfulBEq β] {x y:β} (h:¬ x=y):(x == y)=false:=beq_eq_false_iff_ne.mpr h
theorem bnt {β:Type} [BEq β] [LawfulBEq β] {x y:β} (h:¬ x=y):(x != y)=true:=bne_iff_ne.mpr h
theorem bqt {β:Type} [BEq β] [LawfulBEq β] {x y:β} (h:x=y):(x == y)=true:=beq_iff_eq.mpr h
theorem bnf {β:Type} [BEq β] [LawfulBEq β] {x y:β} (h:x=y):(x != y)=false:=bne_eq_false_iff_eq.mpr h
end
theorem bnd {α β:Type} {o:Option α} {f:α→Option β} {r:β} (h:o.bind f=some r):∃ a,Aside0 (o=some a)∧f a=some r:=by
 obtain ⟨a,h1,h2⟩:=Option.bind_eq_some_iff.mp h
 exact ⟨a,⟨h1⟩,h2⟩
theorem ofd {p:Prop} [Decidable p] (h:decide p=true:=by first|(with_reducible assumption)|assumption):p:=of_decide_eq_true h
theorem nn {a b:Nat} (h:Aside0 (a≠b)):a≠b∧b≠a:=⟨h.out,fun e=>h.out e.symm⟩
section
variable {w W:World} {g:Nat} {o:Obj} {v:Value} {a:Addr} {cs:Array Value} {t:TypeId}
theorem hbc (HB:Aside0 (Below w.heap.size w W)) (h:w.cell? a=some v):W.cell? a=some v:=(HB.out.cell (World.block_lt_of_cell? w _ h)).trans h
theorem bkd (h:Aside0 (w.heap[g]?=some o)):Aside0 (w.drew.heap[g]?=some o):=⟨blk_drew h.out⟩
theorem bc (h:Aside0 (w.heap[g]?=some (.cells cs t (0,0)))) (i:Nat) (e:cs[i]?=some v:=by exact rfl):w.cell? ⟨g,i,none⟩=some v:=(blk_cell h.out i).trans e
end
section
variable {P:Program} {md:Region.Mode} {ops:Array Oper} {Q:Exit→Act→World→Prop} {S:World→Prop} {ds:List Nat} {a' b:Act} {v:Value} {w:World} {fuel:Nat} {l:Array Bool}
theorem nrm (N:Tmp) (h:wpAnyLast P md ops Q S ds fuel l a' w) (ha:Act.put b (some N) v=a':=by simp only [Act.put,sl_,i64_w,i32_w];rfl):wpAnyLast P md ops Q S ds fuel l (Act.put b (some N) v) w:=norm_ ha h
end
section
variable {w W:World} {g:Nat} {o:Option Obj} {α β:Type} {d:Kd α} {e base:Nat} {ok:Nat→Prop} {v:Value} {xs:List α}
theorem blkW (h:w.heap[g]?=o) (t:w.heap[g]?=o→W.heap[g]?=o:=by intro h_;(with_reducible repeat (first|refine blk_drewN ?_ _|refine blk_drew ?_|refine blk_alloc ?_ _));exact h_):W.heap[g]?=o:=t h
theorem hyx {p q:Prop} {y x:α} (hy:y=x) (h:p) (t:y=x→p→q:=by intro hy_ H;first|(rw [hy_];with_reducible exact H)|(have H2_:=(Option.bind_some _ _).symm.trans H;rw [hy_];with_reducible exact H2_)|(have H2_:=(Option.bind_some _ _).symm.trans H;with_reducible exact H2_)|with_reducible exact H|(rw [hy_];exact H)|exact H):q:=t hy h
end

def ix75 (x:S75) (j:Int):Int:=if j=0 then x.f0 else if j=1 then x.f1 else if j=2 then x.f2 else x.f3
theorem ix75_run (a0 a1 a2 a3 j:Int) (h0:0≤j) (h1:j<4) (W:World):(Instr.index 75 (.agg #[.int .i64 a0,.int .i64 a1,.int .i64 a2,.int .i64 a3]) (.int .i64 j)).run Try.prog W=.ok (.int .i64 (ix75 ⟨a0,a1,a2,a3⟩ j)) W:=by
 rcases (by omega:j=0∨j=1∨j=2∨j=3) with rfl|rfl|rfl|rfl <;> kernel_rfl

end Go.Proofs.Ytbdijpjlgokfkaa.P
