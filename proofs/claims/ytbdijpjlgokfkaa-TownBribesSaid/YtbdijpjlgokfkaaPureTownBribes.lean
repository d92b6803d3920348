/- Layer 11, TownBribes (P11.4): whether a bribe is taken, and what it does. No conditions. -/
import Derived.Test.YtbdijpjlgokfkaaPSTownBribes
import Derived.Test.YtbdijpjlgokfkaaTown1
namespace Go.Proofs.Ytbdijpjlgokfkaa.Pure
set_option linter.unusedVariables false
set_option linter.unusedSimpArgs false
open Go.RowKit Go.Proofs.YtbdijpjlgokfkaaW.PrintWords Go.Proofs.Ytbdijpjlgokfkaa.P Go.Proofs.Ytbdijpjlgokfkaa

theorem u64_mod (x : Int) : IntKind.u64.wrap x = x % 18446744073709551616 := by
 unfold IntKind.wrap
 simp [IntKind.bits,IntKind.signed]
def mix (z : Int) : Int :=
 let y2:=IntKind.u64.wrap ((Go.bits .xor .u64 z (z / 1073741824)) * 13787848793156543929)
 let y4:=IntKind.u64.wrap ((Go.bits .xor .u64 y2 (y2 / 134217728)) * 10723151780598845931)
 Go.bits .xor .u64 y4 (y4 / 2147483648)
def st (s : Int) (k : Nat) : Int := (s + k * 11400714819323198485) % 18446744073709551616
theorem st_next (s : Int) (k : Nat) : IntKind.u64.wrap (st s k + 11400714819323198485) = st s (k + 1) := by
 rw [u64_mod];unfold st
 rw [Int.emod_add_emod]
 congr 1
 rw [Int.natCast_add,Int.add_mul];omega
theorem st_at (s : Int) (k : Nat) : IntKind.u64.wrap (s + IntKind.u64.wrap (((k : Int) % 18446744073709551616) * 11400714819323198485)) = st s k := by
 rw [u64_mod,u64_mod];unfold st
 have e : ((k : Int) % 18446744073709551616 * 11400714819323198485) % 18446744073709551616 = ((k : Int) * 11400714819323198485) % 18446744073709551616:=by
  rw [Int.mul_emod,Int.emod_emod_of_dvd _ (Int.dvd_refl _),← Int.mul_emod]
 rw [e,Int.add_emod,Int.emod_emod_of_dvd _ (Int.dvd_refl _),← Int.add_emod]
theorem next_eq (s : Int) (k : Nat) : roll_Next.f (st s k) = some (mix (st s (k + 1)), st s (k + 1)) := by
 rw [← st_next];rfl
theorem at_eq (s : Int) (k : Nat) : hinterlandref01_At.f s ((k : Int) % 18446744073709551616) = some (mix (st s k)) := by
 rw [← st_at];rfl
def Used (s : Int) (k : Nat) : Prop := mix (st s k) ≤ 18446744073709551609
theorem used_ex {s : Int} (h0 : 0 ≤ s) (h1 : s < 18446744073709551616) : ∃ n : Nat, Used s (1 + n) := by
 refine ⟨(18446744073709551616 - s).toNat * 17428512612931826493 - 1,?_⟩
 have hp : 1 ≤ (18446744073709551616 - s).toNat:=by omega
 have e : 1 + ((18446744073709551616 - s).toNat * 17428512612931826493 - 1) = (18446744073709551616 - s).toNat * 17428512612931826493:=by omega
 rw [e]
 unfold Used
 have hz : st s ((18446744073709551616 - s).toNat * 17428512612931826493) = 0:=by
  unfold st
  rw [Int.natCast_mul,Int.toNat_of_nonneg (by omega)]
  have : s + (18446744073709551616 - s) * ((17428512612931826493 : Nat) : Int) * 11400714819323198485 = 18446744073709551616 * (1 + (18446744073709551616 - s) * 10771413168148108919):=by
   rw [Int.mul_assoc,show ((17428512612931826493 : Nat) : Int) * 11400714819323198485 = 1 + 18446744073709551616 * 10771413168148108919 from by decide +kernel]
   omega
  rw [this,Int.mul_emod_right]
 rw [hz]
 decide +kernel
theorem draws (s : Int) : ∀ (n k : Nat), Used s (k + 1 + n) → ∃ r : Int × Int, Ev (fun f => roll_Below.l0 f 10 6 (st s k)) r ∧ Ev (fun f => hinterlandref01_Below.l0 f 10 6 (((k + 1 : Nat) : Int) % 18446744073709551616) s) r := by
 intro n
 induction n with
 | zero =>
  intro k hu
  have hu : mix (st s (k + 1)) ≤ 18446744073709551609:=hu
  refine ⟨(wrap64 (Int.tmod (mix (st s (k + 1))) 10),st s (k + 1)),?_,?_⟩
  ·refine Ev.step (fun f => by simp only [roll_Below.l0];rfl) (Ev.bindc (next_eq s k) (Ev.pos ?_ ?_))
   ·exact Int.le_trans hu (by decide +kernel)
   ·exact Ev.neg (show ¬ (10 : Int) = 0 by decide) (Ev.now _)
  ·refine Ev.step (fun f => by simp only [hinterlandref01_Below.l0];rfl) (Ev.bindc (at_eq s (k + 1)) (Ev.neg (show ¬ (6 : Int) = 0 by decide) (Ev.pos ?_ (Ev.neg (show ¬ (10 : Int) = 0 by decide) (Ev.const ?_)))))
   ·rw [u64_mod]
    have : (-6 : Int) % 18446744073709551616 = 18446744073709551610:=by decide +kernel
    omega
   ·rw [st_at]
 | succ n ih =>
  intro k hu
  by_cases c : mix (st s (k + 1)) ≤ 18446744073709551609
  ·refine ⟨(wrap64 (Int.tmod (mix (st s (k + 1))) 10),st s (k + 1)),?_,?_⟩
   ·refine Ev.step (fun f => by simp only [roll_Below.l0];rfl) (Ev.bindc (next_eq s k) (Ev.pos ?_ ?_))
    ·exact Int.le_trans c (by decide +kernel)
    ·exact Ev.neg (show ¬ (10 : Int) = 0 by decide) (Ev.now _)
   ·refine Ev.step (fun f => by simp only [hinterlandref01_Below.l0];rfl) (Ev.bindc (at_eq s (k + 1)) (Ev.neg (show ¬ (6 : Int) = 0 by decide) (Ev.pos ?_ (Ev.neg (show ¬ (10 : Int) = 0 by decide) (Ev.const ?_)))))
    ·rw [u64_mod]
     have : (-6 : Int) % 18446744073709551616 = 18446744073709551610:=by decide +kernel
     omega
    ·rw [st_at]
  ·obtain ⟨r,h1,h2⟩:=ih (k + 1) (by rw [show k + 1 + 1 + n = k + 1 + (n + 1) by omega];exact hu)
   refine ⟨r,?_,?_⟩
   ·refine Ev.step (fun f => by simp only [roll_Below.l0];rfl) (Ev.bindc (next_eq s k) (Ev.neg ?_ h1))
    intro h
    have : Go.bits .xor .u64 (if IntKind.u64.signed = true then -1 else IntKind.u64.max) 6 = 18446744073709551609:=by decide +kernel
    dsimp only at h
    omega
   ·refine Ev.step (fun f => by simp only [hinterlandref01_Below.l0];rfl) (Ev.bindc (at_eq s (k + 1)) (Ev.neg (show ¬ (6 : Int) = 0 by decide) (Ev.neg ?_ ?_)))
    ·rw [u64_mod]
     have : (-6 : Int) % 18446744073709551616 = 18446744073709551610:=by decide +kernel
     omega
    ·rw [u64_mod,Int.emod_add_emod]
     rw [show ((k + 1 : Nat) : Int) + 1 = ((k + 1 + 1 : Nat) : Int) by omega]
     exact h2
theorem below_ev {s : Int} (h0 : 0 ≤ s) (h1 : s < 18446744073709551616) : ∃ r : Int × Int, Ev (fun k => roll_Below.f k s 10) r ∧ Ev (fun k => hinterlandref01_Below.f k s 10) r := by
 obtain ⟨n,hn⟩:=used_ex h0 h1
 obtain ⟨r,hr,hq⟩:=draws s n 0 (by rw [show 0 + 1 + n = 1 + n by omega];exact hn)
 have hs : st s 0 = s:=by
  unfold st
  simp
  exact Int.emod_eq_of_lt h0 h1
 rw [hs] at hr
 refine ⟨r,?_,?_⟩
 ·unfold roll_Below.f
  have e1 : IntKind.u64.wrap 10 = 10:=by decide +kernel
  have e2 : Int.tmod (IntKind.u64.wrap (-10)) 10 = 6:=by decide +kernel
  rw [e1,e2]
  exact Ev.neg (show ¬ (10 : Int) < 1 by decide) (Ev.neg (show ¬ (10 : Int) = 0 by decide) hr)
 ·unfold hinterlandref01_Below.f
  have e1 : IntKind.u64.wrap 10 = 10:=by decide +kernel
  have e2 : Int.tmod (IntKind.u64.wrap ((18446744073709551615 : Int) % 10 + 1)) 10 = 6:=by decide +kernel
  rw [e1,e2]
  have e3 : ((0 + 1 : Nat) : Int) % 18446744073709551616 = 1:=by decide +kernel
  rw [e3] at hq
  exact Ev.neg (show ¬ (10 : Int) < 1 by decide) (Ev.neg (show ¬ (10 : Int) = 0 by decide) hq)

theorem dcode_any {tile : Int} {H : List S68} {M : List Int} {mv du c d e : Int} (hd : 0 ≤ d ∧ d ≤ 7) (he : 0 ≤ e ∧ e ≤ 7) : dcode tile H M mv du c d = dcode tile H M mv du c e := by
 unfold dcode
 simp only [hd,he,and_true]

theorem TownBribes : hinterlandlaw11_TownBribes.Pure := by
 intro tile H M mv du c s _ _ _ _ _ _ hs
 have hs:=hs.u64
 refine Ev.rounds ?_
 unfold hinterlandlaw11_TownBribes.f
 refine Ev.bindc (far_eq _ _ _ _ _ _) ?_
 by_cases hfar : ((([] : List S80).length : Nat) : Int) > 300 ∨ (H.length : Int) > 600 ∨ (M.length : Int) > 300
 ·exact Ev.pos (decide_eq_true hfar) known_then
 refine Ev.neg (fun h => hfar (of_decide_eq_true h)) ?_
 obtain ⟨r,hr,hq⟩:=below_ev hs.1 (by omega)
 have fin : ∀ v : Int × (List S68) × List Int × Int × Int × Bool × Int × Int,v.2.1.length ≤ 1000 → v.2.2.1.length ≤ 1000 → Ev (fun k => hinterlandref11_Bribe.f k tile H M mv du c s) v → Ev (fun k => town_Bribe.f k tile H M mv du c s) v → Ev (fun k => (hinterlandref11_Bribe.f k tile H M mv du c s).bind fun bt548 => ((town_Bribe.f k tile H M mv du c s).bind fun bt562 => (if bt562.2.2.2.2.2.2.2 = bt548.2.2.2.2.2.2.2 then (if (bt562.2.2.2.2.2.1 == bt548.2.2.2.2.2.1) = true then (if (bt562.2.2.2.2.2.2.1 == bt548.2.2.2.2.2.2.1) = true then ((hinterlandsame_Town.f k bt562.1 bt562.2.1 bt562.2.2.1 bt562.2.2.2.1 bt562.2.2.2.2.1 bt548.1 bt548.2.1 bt548.2.2.1 bt548.2.2.2.1 bt548.2.2.2.2.1).bind fun t576 => (if t576 = true then ((hinterlandlaw11_known.f k).bind fun t577 => (some t577)) else (some false))) else (some false)) else (some false)) else (some false)))) true:=by
  intro v h1 h2 hv hw
  exact Ev.bind hv (Ev.bind hw (Ev.pos (by first | rfl | trivial) (Ev.pos (by simp) (Ev.pos (by simp) (Ev.bind (same_town_ev _ _ _ _ _ (by omega) (by omega)) (Ev.pos (by first | rfl | trivial) known_then))))))
 by_cases h : dcode tile H M mv du c 0 = 0
 ·have h6 : dcode tile H M mv du c 6 = 0:=by rw [dcode_any (e:=0) (by omega) (by omega)];exact h
  have h7 : dcode tile H M mv du c 7 = 0:=by rw [dcode_any (e:=0) (by omega) (by omega)];exact h
  have hd:=dcode_zero.1 h
  have hv:=tcode_zero.1 hd.1
  have h12 : M.length = 12:=hv.2.1.2.1.2
  by_cases z : r.1 = 0
  ·refine fin (tile,H,felt M c 6,mv,du,false,r.2,0) (by dsimp only;omega) (by dsimp only;rw [felt_length];omega) ?_ ?_
   ·unfold hinterlandref11_Bribe.f
    exact Ev.bind (deedError_ev tile H M mv du c 6) (Ev.pos h6 (Ev.bind hq (Ev.pos z (Ev.bind (ref_feel_ok h6) (Ev.now _)))))
   ·unfold town_Bribe.f
    exact Ev.bind (check_ev tile H M mv du c 0 (by omega)) (Ev.pos h (Ev.bind hr (Ev.pos z (Ev.bind (feel_ok h6) (Ev.const (by rw [z];rfl))))))
  ·refine fin (tile,H,felt M c 7,mv,du,true,r.2,0) (by dsimp only;omega) (by dsimp only;rw [felt_length];omega) ?_ ?_
   ·unfold hinterlandref11_Bribe.f
    exact Ev.bind (deedError_ev tile H M mv du c 6) (Ev.pos h6 (Ev.bind hq (Ev.neg z (Ev.bind (ref_feel_ok h7) (Ev.now _)))))
   ·unfold town_Bribe.f
    exact Ev.bind (check_ev tile H M mv du c 0 (by omega)) (Ev.pos h (Ev.bind hr (Ev.neg z (Ev.bind (feel_ok h7) (Ev.const (by rw [bne_iff_ne.2 z]))))))
 ·have h6 : dcode tile H M mv du c 6 = dcode tile H M mv du c 0:=dcode_any (by omega) (by omega)
  refine fin (0,[],[],0,0,false,0,dcode tile H M mv du c 0) (by simp) (by simp) ?_ ?_
  ·unfold hinterlandref11_Bribe.f
   refine Ev.bind (deedError_ev tile H M mv du c 6) ?_
   rw [h6]
   exact Ev.neg h (Ev.now _)
  ·unfold town_Bribe.f
   exact Ev.bind (check_ev tile H M mv du c 0 (by omega)) (Ev.neg h (Ev.now _))

end Go.Proofs.Ytbdijpjlgokfkaa.Pure
