import Derived.Test.YtbdijpjlgokfkaaWWords
namespace Go.Proofs.Ytbdijpjlgokfkaa.Pure
open Go.RowKit Go.Proofs.YtbdijpjlgokfkaaW.PrintWords
theorem wrap_in {x:Int} (h0: -9223372036854775808≤x) (h1:x≤9223372036854775807):wrap64 x=x:=by unfold wrap64;omega
theorem Ev.const {α:Type} {o:Option α} {r:α} (h:o=some r):Ev (fun _=>o) r:=⟨0,fun _ _=>h⟩
theorem Ev.pos {α:Type} {c:Prop} [Decidable c] {a b:Nat→Option α} {r:α} (h:c) (k:Ev a r):Ev (fun n=>if c then a n else b n) r:=by
 obtain ⟨K,k⟩:=k
 exact ⟨K,fun n hn=>by show (if c then a n else b n)=some r;rw [if_pos h];exact k n hn⟩
theorem Ev.neg {α:Type} {c:Prop} [Decidable c] {a b:Nat→Option α} {r:α} (h:¬ c) (k:Ev b r):Ev (fun n=>if c then a n else b n) r:=by
 obtain ⟨K,k⟩:=k
 exact ⟨K,fun n hn=>by show (if c then a n else b n)=some r;rw [if_neg h];exact k n hn⟩
theorem Ev.bindc {α β:Type} {o:Option α} {f:Nat→α→Option β} {a:α} {r:β} (h:o=some a) (k:Ev (fun n=>f n a) r):Ev (fun n=>o.bind (f n)) r:=by
 subst h
 exact k
theorem Ev.eq {α:Type} {g:Nat→Option α} {r s:α} (h:Ev g r) (e:r=s):Ev g s:=e ▸ h
theorem Ev.scan_all {β:Type} {g:Nat→Int→Option β} {n:Nat} {p:Nat→Prop} {fin:β} (hend:Ev (fun k=>g k (n:Int)) fin)
  (hgood:∀ i,i<n→p i→∀ r,Ev (fun k=>g k ((i:Int)+1)) r→Ev (fun k=>g k (i:Int)) r) :
  ∀ d i,i+d=n→(∀ j,i≤j→j<n→p j)→Ev (fun k=>g k (i:Int)) fin
 | 0,i,h,_=>by
  obtain rfl:i=n:=by omega
  exact hend
 | d+1,i,h,hp=>by
  have ih:=Ev.scan_all hend hgood d (i+1) (by omega) (fun j h1 h2=>hp j (by omega) h2)
  exact hgood i (by omega) (hp i (by omega) (by omega)) _ (by simpa using ih)
theorem Ev.scan_some {β:Type} {g:Nat→Int→Option β} {n:Nat} {p:Nat→Prop} {bad:β}
  (hgood:∀ i,i<n→p i→∀ r,Ev (fun k=>g k ((i:Int)+1)) r→Ev (fun k=>g k (i:Int)) r)
  (hbad:∀ i,i<n→¬ p i→Ev (fun k=>g k (i:Int)) bad) :
  ∀ d i,i+d=n→(∃ j,i≤j∧j<n∧¬ p j)→Ev (fun k=>g k (i:Int)) bad
 | 0,i,h,⟨j,h1,h2,_⟩=>by omega
 | d+1,i,h,⟨j,h1,h2,h3⟩=>by
  by_cases hp:p i
  ·have hij:i≠j:=fun e=>h3 (e ▸ hp)
   have ih:=Ev.scan_some hgood hbad d (i+1) (by omega) ⟨j,by omega,h2,h3⟩
   exact hgood i (by omega) hp _ (by simpa using ih)
  ·exact hbad i (by omega) hp
end Go.Proofs.Ytbdijpjlgokfkaa.Pure

