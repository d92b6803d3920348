import Derived.Test.YtbdijpjlgokfkaaWWords
import Derived.Deep.Slices
import Derived.Deep.Fields
import Derived.ChangeSame
import Derived.ChangeArms
import Derived.WideShapes
namespace Go.Proofs.Ytbdijpjlgokfkaa.V
open Go.ChangeShapes Go.WideShapes Go.Deep Go.RowKit Go.Proofs.YtbdijpjlgokfkaaW.PrintWords
set_option linter.unusedVariables false
def gInt (k:IntKind) (x:Int):Prop:=(Lit.int k x).wf=true
def gStr (s:ByteArray):Prop:=s.size≤9223372036854775807
def gList {α:Type} (g:α→Prop) (xs:List α):Prop:=xs.length≤9223372036854775807∧∀ x ∈ xs,g x
theorem gInt.i64 {x:Int} (h:gInt .i64 x): -9223372036854775808≤x∧x≤9223372036854775807:=by
 unfold gInt at h
 simp [Lit.wf,IntKind.min,IntKind.max,IntKind.signed,IntKind.bits] at h
 omega
theorem gInt.u64 {x:Int} (h:gInt .u64 x):0≤x∧x≤18446744073709551615:=by
 unfold gInt at h
 simp [Lit.wf,IntKind.min,IntKind.max,IntKind.signed,IntKind.bits] at h
 omega
theorem gInt.u8 {x:Int} (h:gInt .u8 x):0≤x∧x≤255:=by
 unfold gInt at h
 simp [Lit.wf,IntKind.min,IntKind.max,IntKind.signed,IntKind.bits] at h
 omega
structure Opens {α:Type} (P:Program) (t:TypeId) (d:Kd α) (g:α→Prop):Prop where
 sz:P.cellsOf t=d.sz
 opens:∀ {H:Type} {enc:TypeId × Value→H} {w:World} {base:Nat} {spare:Nat→Bool} {held:Bool} {fuel:Nat} {cs:List Value} {y:DataW H × List MemPlace},
  DataW.trod enc P w base spare held fuel t cs=some y→∃ x,d.K w x cs∧g x
theorem opens_int {P:Program} {t:TypeId} {k:IntKind} (hu:P.underlying t=some (.int k)) (hc:P.cellsOf t=1):Opens P t (Kd.int k) (gInt k) :=
 ⟨hc,fun h=>by
  obtain ⟨n,hcs,_,hw⟩:=DataW.trod_int hu h
  exact ⟨n,hcs,hw⟩⟩
theorem opens_string {P:Program} {t:TypeId} (hu:P.underlying t=some .string) (hc:P.cellsOf t=1):Opens P t Kd.string gStr :=
 ⟨hc,fun h=>by
  obtain ⟨s,hcs,_,hl⟩:=DataW.trod_string hu h
  exact ⟨s,hcs,hl⟩⟩
theorem list_of {α:Type} {p:Nat→α→Prop}:∀ n,(∀ i,i<n→∃ x,p i x)→∃ xs:List α,xs.length=n∧∀ i x,xs[i]?=some x→p i x
 | 0,_=>⟨[],rfl,fun i x h=>by simp at h⟩
 | n+1,h=>by
  obtain ⟨xs,hl,hx⟩:=list_of n (fun i hi=>h i (by omega))
  obtain ⟨y,hy⟩:=h n (by omega)
  refine ⟨xs ++ [y],by simp [hl],fun i x hi=>?_⟩
  rcases Nat.lt_or_ge i n with h1|h1
  ·rw [List.getElem?_append_left (by omega)] at hi
   exact hx i x hi
  ·have h2:=(List.getElem?_eq_some_iff.1 hi).1
   simp at h2
   obtain rfl:i=n:=by omega
   rw [List.getElem?_append_right (by omega),hl] at hi
   simp at hi
   exact hi ▸ hy
theorem opens_slice {α:Type} {P:Program} {t e:TypeId} {d:Kd α} {g:α→Prop} (hu:P.underlying t=some (.slice e)) (hc:P.cellsOf t=1) (O:Opens P e d g):Opens P t (Kd.slice e d) (gList g) :=
 ⟨hc,fun {H enc w base spare held fuel cs y} h=>by
  rcases open_slice hu h with ⟨rfl,_⟩|⟨a,len,cap,m,n,D,Pl,rfl,hb,hl,hm,hmm,_,hi⟩
  ·exact ⟨[],⟨none,0,rfl,Nat.le_refl _,by simp,by simp,fun h=>absurd h (by simp)⟩,by simp [gList]⟩
  ·have hlm:len≤m:=by rw [hmm];split <;> omega
   obtain ⟨xs,hxl,hxs⟩:=list_of (p:=fun i x=>(∃ cs',w.cells? base (a.add (i * P.cellsOf e)) (P.cellsOf e)=some cs'∧d.K w x cs')∧g x) len (fun i hi'=>by
    obtain ⟨cs',h1,h2⟩:=hi i (by omega)
    obtain ⟨x,hx,gx⟩:=O.opens h2
    exact ⟨x,⟨cs',h1,hx⟩,gx⟩)
   have hml:len≤9223372036854775807:=by unfold maxLen at hm;omega
   refine ⟨xs,⟨some a,cap,by rw [hxl],by omega,rfl,by omega,fun _=>⟨a,rfl,fun j p hj=>?_⟩⟩,by omega,fun x hx=>?_⟩
   ·obtain ⟨⟨cs',h1,h2⟩,_⟩:=hxs j p hj
    obtain ⟨_,hcl,hat⟩:=World.cells?_some h1
    refine ⟨cs',d.K_len h2,h2,fun i u hu'=>?_⟩
    have hil:i<cs'.length:=(List.getElem?_eq_some_iff.1 hu').1
    have:=hat i (by omega)
    rw [← Go.Deep.add_add,← O.sz,this,hu']
   ·obtain ⟨i,hi'⟩:=List.getElem?_of_mem hx
    exact (hxs i x hi').2⟩
theorem pair_at {α β:Type} {a:Kd α} {b:Kd β} {w:World} {x:α} {y:β} {cs:List Value} {o s:Nat} (ha:a.K w x ((cs.drop o).take s)) (hb:b.K w y (cs.drop (o+s))):(Kd.pair a b).K w (x,y) (cs.drop o) :=
 ⟨_,_,by rw [← List.drop_drop];exact (List.take_append_drop s _).symm,ha,hb⟩
theorem last_at {α:Type} {a:Kd α} {w:World} {x:α} {cs:List Value} {o s:Nat} (hl:cs.length=o+s) (ha:a.K w x ((cs.drop o).take s)):a.K w x (cs.drop o):=by
 rwa [List.take_of_length_le (by rw [List.length_drop];omega)] at ha
theorem fields_of {H:Type} {enc:TypeId × Value→H} {P:Program} {w:World} {base:Nat} {spare:Nat→Bool} {held:Bool} {t:TypeId} {fs:Array Field} {fuel:Nat} {cs:List Value} {y:DataW H × List MemPlace} (hu:P.underlying t=some (.struct fs))
  (h:DataW.trod enc P w base spare held fuel t cs=some y):cs.length=P.cellsOf t∧∀ (i:Nat) (f:Field),fs[i]?=some f→∃ n z,DataW.trod enc P w base spare held n f.type ((cs.drop f.offset).take (P.cellsOf f.type))=some z:=by
 obtain ⟨xs,n,_,_,hl,hx,hf⟩:=DataW.trod_struct hu h
 refine ⟨hl,fun i f hi=>?_⟩
 have hi':i<fs.size:=(Array.getElem?_eq_some_iff.1 hi).1
 have h1:=hf i f hi
 rw [List.getElem?_eq_getElem (by omega)] at h1
 exact ⟨n,_,h1⟩
theorem field_at {α:Type} {H:Type} {enc:TypeId × Value→H} {P:Program} {w:World} {base:Nat} {spare:Nat→Bool} {held:Bool} {t:TypeId} {d:Kd α} {g:α→Prop} (O:Opens P t d g) {cs:List Value} {o s:Nat} (hs:d.sz=s)
  (h:∃ n z,DataW.trod enc P w base spare held n t ((cs.drop o).take (P.cellsOf t))=some z):∃ x,d.K w x ((cs.drop o).take s)∧g x:=by
 obtain ⟨n,z,h⟩:=h
 rw [O.sz,hs] at h
 exact O.opens h
end Go.Proofs.Ytbdijpjlgokfkaa.V

