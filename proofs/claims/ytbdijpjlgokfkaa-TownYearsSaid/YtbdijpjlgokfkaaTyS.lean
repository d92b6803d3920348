/- What layer 11's growth leans on of streams, in plain words: numbers below a bound. No conditions. -/
import Derived.Test.YtbdijpjlgokfkaaPx0
import Derived.Test.YtbdijpjlgokfkaaPx5
import Derived.Test.YtbdijpjlgokfkaaPx9
import Derived.Test.YtbdijpjlgokfkaaEvKit
import Derived.Test.YtbdijpjlgokfkaaVOpen
namespace Go.Proofs.Ytbdijpjlgokfkaa.Pure
set_option linter.unusedVariables false
set_option linter.unusedSimpArgs false
open Go.RowKit Go.Proofs.YtbdijpjlgokfkaaW.PrintWords Go.Proofs.Ytbdijpjlgokfkaa.P Go.Proofs.Ytbdijpjlgokfkaa

theorem u64_mod (x:Int):IntKind.u64.wrap x=x % 18446744073709551616:=by
 unfold IntKind.wrap
 simp [IntKind.bits,IntKind.signed]
def mix (z:Int):Int :=
 let y2:=IntKind.u64.wrap ((Go.bits .xor .u64 z (z / 1073741824)) * 13787848793156543929)
 let y4:=IntKind.u64.wrap ((Go.bits .xor .u64 y2 (y2 / 134217728)) * 10723151780598845931)
 Go.bits .xor .u64 y4 (y4 / 2147483648)
def st (s:Int) (k:Nat):Int:=(s+k * 11400714819323198485) % 18446744073709551616
theorem st_in (s:Int) (k:Nat):0≤st s k∧st s k<18446744073709551616:=by unfold st;omega
theorem st_next (s:Int) (k:Nat):IntKind.u64.wrap (st s k+11400714819323198485)=st s (k+1):=by
 rw [u64_mod];unfold st
 rw [Int.emod_add_emod]
 congr 1
 rw [Int.natCast_add,Int.add_mul];omega
theorem st_at (s:Int) (k:Nat):IntKind.u64.wrap (s+IntKind.u64.wrap (((k:Int) % 18446744073709551616) * 11400714819323198485))=st s k:=by
 rw [u64_mod,u64_mod];unfold st
 have e:((k:Int) % 18446744073709551616 * 11400714819323198485) % 18446744073709551616=((k:Int) * 11400714819323198485) % 18446744073709551616:=by
  rw [Int.mul_emod,Int.emod_emod_of_dvd _ (Int.dvd_refl _),← Int.mul_emod]
 rw [e,Int.add_emod,Int.emod_emod_of_dvd _ (Int.dvd_refl _),← Int.add_emod]
theorem next_eq (s:Int) (k:Nat):roll_Next.f (st s k)=some (mix (st s (k+1)),st s (k+1)):=by
 rw [← st_next];rfl
theorem at_eq (s:Int) (k:Nat):h01_At.f s ((k:Int) % 18446744073709551616)=some (mix (st s k)):=by
 rw [← st_at];rfl
theorem bits_u64 (a b:Int):Go.bits .xor .u64 a b=((BitVec.ofInt 64 a ^^^ BitVec.ofInt 64 b).toNat:Int):=by
 show IntKind.u64.wrap ((BitVec.ofInt 64 a ^^^ BitVec.ofInt 64 b).toNat:Int)=_
 rw [u64_mod]
 have:=(BitVec.ofInt 64 a ^^^ BitVec.ofInt 64 b).isLt
 omega
theorem mix_le (z:Int):0≤mix z∧mix z≤18446744073709551615:=by
 unfold mix
 dsimp only
 rw [bits_u64]
 have:=(BitVec.ofInt 64 (IntKind.u64.wrap ((Go.bits .xor .u64 (IntKind.u64.wrap ((Go.bits .xor .u64 z (z / 1073741824)) * 13787848793156543929)) ((IntKind.u64.wrap ((Go.bits .xor .u64 z (z / 1073741824)) * 13787848793156543929)) / 134217728)) * 10723151780598845931)) ^^^ BitVec.ofInt 64 ((IntKind.u64.wrap ((Go.bits .xor .u64 (IntKind.u64.wrap ((Go.bits .xor .u64 z (z / 1073741824)) * 13787848793156543929)) ((IntKind.u64.wrap ((Go.bits .xor .u64 z (z / 1073741824)) * 13787848793156543929)) / 134217728)) * 10723151780598845931)) / 2147483648)).isLt
 omega
theorem not_u64 {x:Int} (h0:0≤x) (h1:x<18446744073709551616):Go.bits .xor .u64 (if IntKind.u64.signed=true then -1 else IntKind.u64.max) x=18446744073709551615 - x:=by
 rw [bits_u64]
 have h2:BitVec.ofInt 64 (if IntKind.u64.signed=true then -1 else IntKind.u64.max)=BitVec.allOnes 64:=by decide +kernel
 rw [h2,BitVec.allOnes_xor,BitVec.toNat_not]
 have h3:(BitVec.ofInt 64 x).toNat=x.toNat:=by
  rw [BitVec.toNat_ofInt]
  have e:x % ((2 ^ 64:Nat):Int)=x:=Int.emod_eq_of_lt h0 (by simpa using h1)
  rw [e]
 rw [h3]
 omega
def over (m:Int):Int:=18446744073709551616 % m
def Used (m s:Int) (k:Nat):Prop:=mix (st s k)≤18446744073709551615 - over m
theorem over_in {m:Int} (hm:1≤m∧m<4611686018427387904):0≤over m∧over m<m:=⟨Int.emod_nonneg _ (by omega),Int.emod_lt_of_pos _ (by omega)⟩
theorem used_ex {m s:Int} (hm:1≤m∧m<4611686018427387904) (h0:0≤s) (h1:s<18446744073709551616):∃ n:Nat,Used m s (1+n):=by
 refine ⟨(18446744073709551616 - s).toNat * 17428512612931826493 - 1,?_⟩
 have hp:1≤(18446744073709551616 - s).toNat:=by omega
 have e:1+((18446744073709551616 - s).toNat * 17428512612931826493 - 1)=(18446744073709551616 - s).toNat * 17428512612931826493:=by omega
 rw [e]
 unfold Used
 have hz:st s ((18446744073709551616 - s).toNat * 17428512612931826493)=0:=by
  unfold st
  rw [Int.natCast_mul,Int.toNat_of_nonneg (by omega)]
  have:s+(18446744073709551616 - s) * ((17428512612931826493:Nat):Int) * 11400714819323198485=18446744073709551616 * (1+(18446744073709551616 - s) * 10771413168148108919):=by
   rw [Int.mul_assoc,show ((17428512612931826493:Nat):Int) * 11400714819323198485=1+18446744073709551616 * 10771413168148108919 from by decide +kernel]
   omega
  rw [this,Int.mul_emod_right]
 rw [hz,show mix 0=0 by decide +kernel]
 have:=over_in hm
 omega
theorem draws {m:Int} (hm:1≤m∧m<4611686018427387904) (s:Int):∀ (n k:Nat),Used m s (k+1+n)→∃ r:Int × Int,(0≤r.1∧r.1<m∧0≤r.2∧r.2<18446744073709551616)∧Ev (fun f=>roll_Below.l0 f m (over m) (st s k)) r∧Ev (fun f=>h01_Below.l0 f m (over m) (((k+1:Nat):Int) % 18446744073709551616) s) r:=by
 have ho:=over_in hm
 have hw:IntKind.u64.wrap (-(over m))=if over m=0 then 0 else 18446744073709551616 - over m:=by
  rw [u64_mod];split <;> omega
 have ok:∀ k:Nat,Used m s (k+1)→∃ r:Int × Int,(0≤r.1∧r.1<m∧0≤r.2∧r.2<18446744073709551616)∧Ev (fun f=>roll_Below.l0 f m (over m) (st s k)) r∧Ev (fun f=>h01_Below.l0 f m (over m) (((k+1:Nat):Int) % 18446744073709551616) s) r:=by
  intro k hu
  have hu:mix (st s (k+1))≤18446744073709551615 - over m:=hu
  have hx:=mix_le (st s (k+1))
  have ht:Int.tmod (mix (st s (k+1))) m=mix (st s (k+1)) % m:=Int.tmod_eq_emod_of_nonneg hx.1
  have h1:=Int.emod_nonneg (mix (st s (k+1))) (show m≠0 by omega)
  have h2:=Int.emod_lt_of_pos (mix (st s (k+1))) (show 0<m by omega)
  have hwr:wrap64 (Int.tmod (mix (st s (k+1))) m)=mix (st s (k+1)) % m:=by rw [ht];unfold wrap64;omega
  refine ⟨(wrap64 (Int.tmod (mix (st s (k+1))) m),st s (k+1)),⟨by rw [hwr];exact h1,by rw [hwr];exact h2,(st_in _ _).1,(st_in _ _).2⟩,?_,?_⟩
  ·refine Ev.step (fun f=>by simp only [roll_Below.l0];rfl) (Ev.bindc (next_eq s k) (Ev.pos ?_ (Ev.neg (show ¬ m=0 by omega) (Ev.now _))))
   dsimp only
   rw [not_u64 ho.1 (by omega)]
   exact hu
  ·refine Ev.step (fun f=>by simp only [h01_Below.l0];rfl) (Ev.bindc (at_eq s (k+1)) ?_)
   by_cases c:over m=0
   ·exact Ev.pos c (Ev.neg (show ¬ m=0 by omega) (Ev.const (by rw [st_at])))
   ·refine Ev.neg c (Ev.pos ?_ (Ev.neg (show ¬ m=0 by omega) (Ev.const (by rw [st_at]))))
    rw [hw,if_neg c];omega
 intro n
 induction n with
 | zero=>exact ok
 | succ n ih =>
  intro k hu
  by_cases c:Used m s (k+1)
  ·exact ok k c
  ·obtain ⟨r,hr,h1,h2⟩:=ih (k+1) (by rw [show k+1+1+n=k+1+(n+1) by omega];exact hu)
   have c':¬ mix (st s (k+1))≤18446744073709551615 - over m:=c
   have hx:=mix_le (st s (k+1))
   have hc:¬ over m=0:=by intro e;omega
   refine ⟨r,hr,?_,?_⟩
   ·refine Ev.step (fun f=>by simp only [roll_Below.l0];rfl) (Ev.bindc (next_eq s k) (Ev.neg ?_ h1))
    dsimp only
    rw [not_u64 ho.1 (by omega)]
    exact c'
   ·refine Ev.step (fun f=>by simp only [h01_Below.l0];rfl) (Ev.bindc (at_eq s (k+1)) (Ev.neg hc (Ev.neg ?_ ?_)))
    ·rw [hw,if_neg hc];omega
    ·rw [u64_mod,Int.emod_add_emod]
     rw [show ((k+1:Nat):Int)+1=((k+1+1:Nat):Int) by omega]
     exact h2
theorem below_ev {m s:Int} (hm:1≤m∧m<4611686018427387904) (h0:0≤s) (h1:s<18446744073709551616):∃ r:Int × Int,(0≤r.1∧r.1<m∧0≤r.2∧r.2<18446744073709551616)∧Ev (fun k=>roll_Below.f k s m) r∧Ev (fun k=>h01_Below.f k s m) r:=by
 obtain ⟨n,hn⟩:=used_ex hm h0 h1
 obtain ⟨r,hb,hr,hq⟩:=draws hm s n 0 (by rw [show 0+1+n=1+n by omega];exact hn)
 have hs:st s 0=s:=by
  unfold st
  simp
  exact Int.emod_eq_of_lt h0 h1
 rw [hs] at hr
 have e1:IntKind.u64.wrap m=m:=by rw [u64_mod];omega
 have o1:(18446744073709551616 - m) % m=over m:=by unfold over;rw [Int.sub_emod_right]
 refine ⟨r,hb,?_,?_⟩
 ·unfold roll_Below.f
  have e2:Int.tmod (IntKind.u64.wrap (-m)) m=over m:=by
   rw [u64_mod,show (-m) % 18446744073709551616=18446744073709551616 - m by omega,Int.tmod_eq_emod_of_nonneg (by omega),o1]
  rw [e1,e2]
  exact Ev.neg (show ¬ m<1 by omega) (Ev.neg (show ¬ m=0 by omega) hr)
 ·unfold h01_Below.f
  have hr1:=Int.emod_nonneg (18446744073709551615:Int) (show m≠0 by omega)
  have hr2:=Int.emod_lt_of_pos (18446744073709551615:Int) (show 0<m by omega)
  have e2:Int.tmod (IntKind.u64.wrap ((18446744073709551615:Int) % m+1)) m=over m:=by
   rw [u64_mod,show ((18446744073709551615:Int) % m+1) % 18446744073709551616=(18446744073709551615:Int) % m+1 by omega,Int.tmod_eq_emod_of_nonneg (by omega),Int.emod_add_emod]
   rfl
  rw [e1,e2]
  have e3:((0+1:Nat):Int) % 18446744073709551616=1:=by decide +kernel
  rw [e3] at hq
  exact Ev.neg (show ¬ m<1 by omega) (Ev.neg (show ¬ m=0 by omega) hq)
end Go.Proofs.Ytbdijpjlgokfkaa.Pure
