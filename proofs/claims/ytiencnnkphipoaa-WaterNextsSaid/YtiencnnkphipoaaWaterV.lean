/- What the functions of layer 6 (waters) come to, in plain words: waters, in the document. No conditions. -/
import Derived.Test.YtiencnnkphipoaaPx0
import Derived.Test.YtiencnnkphipoaaPx8
import Derived.Test.YtiencnnkphipoaaPx10
import Derived.Test.YtiencnnkphipoaaWaterR
import Derived.Test.YtiencnnkphipoaaWater3
namespace Go.Proofs.Ytiencnnkphipoaa.Pure
set_option linter.unusedVariables false
set_option linter.unusedSimpArgs false
open Go.RowKit Go.Proofs.YtiencnnkphipoaaW.PrintWords Go.Proofs.YtiencnnkphipoaaW.PrintMore Go.Proofs.Ytiencnnkphipoaa.P Go.Proofs.Ytiencnnkphipoaa

section
variable {w h : Nat} {C K B : List Int}
theorem ref_wet_ev (L : Land w h C) {t : Nat} (ht : t < w * h) (hK : K.length = w * h) (hk : KAt K t) (hm : MayAt w C K t) : Ev (fun k => hinterlandref06_Wet.f k (w : Int) (h : Int) C K (t : Int)) (wet w C K t) := by
 unfold hinterlandref06_Wet.f
 refine Ev.pos (by omega) (Ev.pos (by omega) ?_)
 rw [rdN]
 unfold wet
 unfold MayAt at hm
 unfold KAt at hk
 by_cases h0 : K.getD t 0 = 0
 ·refine Ev.pos h0 (Ev.bind (sea_ev L ht) (Ev.eq (Ev.now _) ?_))
  rw [h0]
  simp
 refine Ev.neg h0 ?_
 have e1 : (sea w C t || (K.getD t 0 != 0)) = true:=by rw [show (K.getD t 0 != 0) = true from bne_iff_ne.2 h0];simp
 rw [e1]
 by_cases h1 : K.getD t 0 = 1
 ·refine Ev.pos h1 (Ev.bind (sea_ev L ht) ?_)
  have : sea w C t = false:=by
   cases he : sea w C t with
   | false => rfl
   | true => rw [h1,he] at hm;simp [lie] at hm
  exact Ev.neg (by simp [this]) (Ev.now _)
 refine Ev.neg h1 ?_
 by_cases h2 : K.getD t 0 = 2
 ·refine Ev.pos h2 (Ev.bind (sea_ev L ht) ?_)
  have : sea w C t = false:=by
   cases he : sea w C t with
   | false => rfl
   | true => rw [h2,he] at hm;simp [lie] at hm
  exact Ev.neg (by simp [this]) (Ev.now _)
 exact Ev.neg h2 (Ev.now _)
open Classical in
theorem rcheck4 (L : Land w h C) (hK : K.length = w * h) (hB : B.length ≤ 4000) (hin : InB B (w * h)) (hk : KOK K) (hm : May w C K) : Ev (fun k => hinterlandref06_Validate.l4 k B (B.length : Int) 0 (w : Int) (h : Int) C K B) (if WetB w C K B then 0 else 9) := by
 have hend : Ev (fun k => hinterlandref06_Validate.l4 k B (B.length : Int) (B.length : Int) (w : Int) (h : Int) C K B) 0:=Ev.step (fun k => by simp only [hinterlandref06_Validate.l4];rfl) (Ev.neg (by omega) (Ev.now _))
 have val : ∀ i,i < B.length → Ev (fun k => hinterlandref06_Wet.f k (w : Int) (h : Int) C K (B.getD i 0)) (wet w C K (B.getD i 0).toNat):=by
  intro i hi
  obtain ⟨h1,h2⟩:=hin i (Nat.zero_le _) hi
  have hl : (B.getD i 0).toNat < w * h:=by omega
  have:=ref_wet_ev L hl hK (hk _ (Nat.zero_le _) (by omega)) (hm _ (Nat.zero_le _) (by omega))
  rw [Int.toNat_of_nonneg h1] at this
  exact this
 have good : ∀ i,i < B.length → WetAt w C K B i → ∀ r,Ev (fun k => hinterlandref06_Validate.l4 k B (B.length : Int) ((i : Int) + 1) (w : Int) (h : Int) C K B) r → Ev (fun k => hinterlandref06_Validate.l4 k B (B.length : Int) (i : Int) (w : Int) (h : Int) C K B) r:=by
  intro i hi p r hr
  refine Ev.step (fun k => by simp only [hinterlandref06_Validate.l4];rfl) ?_
  rw [rdN,wrap_in (x:=(i : Int) + 1) (by omega) (by omega)]
  exact Ev.pos (by omega) (Ev.pos (by omega) (Ev.pos (by omega) (Ev.bind (val i hi) (Ev.pos p hr))))
 have bad : ∀ i,i < B.length → ¬ WetAt w C K B i → Ev (fun k => hinterlandref06_Validate.l4 k B (B.length : Int) (i : Int) (w : Int) (h : Int) C K B) 9:=by
  intro i hi p
  refine Ev.step (fun k => by simp only [hinterlandref06_Validate.l4];rfl) ?_
  rw [rdN]
  exact Ev.pos (by omega) (Ev.pos (by omega) (Ev.pos (by omega) (Ev.bind (val i hi) (Ev.neg p (Ev.now _)))))
 by_cases g : WetB w C K B
 ·rw [if_pos g]
  exact Ev.scan_all (g:=fun k i => hinterlandref06_Validate.l4 k B (B.length : Int) i (w : Int) (h : Int) C K B) hend good B.length 0 (by omega) g
 ·rw [if_neg g]
  exact Ev.scan_some (g:=fun k i => hinterlandref06_Validate.l4 k B (B.length : Int) i (w : Int) (h : Int) C K B) good bad B.length 0 (by omega) (not_all g)
open Classical in
theorem rcheck3 (L : Land w h C) (hK : K.length = w * h) (hB : B.length ≤ 4000) (hin : InB B (w * h)) (hk : KOK K) : Ev (fun k => hinterlandref06_Validate.l3 k K (K.length : Int) 0 (w : Int) (h : Int) C K B) (if May w C K then (if WetB w C K B then 0 else 9) else 9) := by
 have hwh : w * h ≤ 32 * 32:=mulle L.w1 L.h1
 have hend : ∀ r,Ev (fun k => hinterlandref06_Validate.l4 k B (B.length : Int) 0 (w : Int) (h : Int) C K B) r → Ev (fun k => hinterlandref06_Validate.l3 k K (K.length : Int) (K.length : Int) (w : Int) (h : Int) C K B) r:=fun r hr => Ev.step (fun k => by simp only [hinterlandref06_Validate.l3];rfl) (Ev.neg (by omega) hr)
 have good : ∀ i,i < K.length → MayAt w C K i → ∀ r,Ev (fun k => hinterlandref06_Validate.l3 k K (K.length : Int) ((i : Int) + 1) (w : Int) (h : Int) C K B) r → Ev (fun k => hinterlandref06_Validate.l3 k K (K.length : Int) (i : Int) (w : Int) (h : Int) C K B) r:=by
  intro i hi p r hr
  refine Ev.step (fun k => by simp only [hinterlandref06_Validate.l3];rfl) ?_
  rw [rdN,wrap_in (x:=(i : Int) + 1) (by omega) (by omega)]
  exact Ev.pos (by omega) (Ev.pos (by omega) (Ev.pos (by omega) (Ev.bind (lies_ev L (by omega) _) (Ev.pos p hr))))
 have bad : ∀ i,i < K.length → ¬ MayAt w C K i → Ev (fun k => hinterlandref06_Validate.l3 k K (K.length : Int) (i : Int) (w : Int) (h : Int) C K B) 9:=by
  intro i hi p
  refine Ev.step (fun k => by simp only [hinterlandref06_Validate.l3];rfl) ?_
  rw [rdN]
  exact Ev.pos (by omega) (Ev.pos (by omega) (Ev.pos (by omega) (Ev.bind (lies_ev L (by omega) _) (Ev.neg p (Ev.now _)))))
 by_cases g : May w C K
 ·rw [if_pos g]
  exact Ev.scan_all (g:=fun k i => hinterlandref06_Validate.l3 k K (K.length : Int) i (w : Int) (h : Int) C K B) (hend _ (rcheck4 L hK hB hin hk g)) good K.length 0 (by omega) g
 ·rw [if_neg g]
  exact Ev.scan_some (g:=fun k i => hinterlandref06_Validate.l3 k K (K.length : Int) i (w : Int) (h : Int) C K B) good bad K.length 0 (by omega) (not_all g)
open Classical in
theorem rcheck2 (L : Land w h C) (hK : K.length = w * h) (hB : B.length ≤ 4000) (hk : KOK K) : Ev (fun k => hinterlandref06_Validate.l2 k B (B.length : Int) 0 (w : Int) (h : Int) C K B) (if InB B (w * h) then (if May w C K then (if WetB w C K B then 0 else 9) else 9) else 2) := by
 have hwh : w * h ≤ 32 * 32:=mulle L.w1 L.h1
 have hend : ∀ r,Ev (fun k => hinterlandref06_Validate.l3 k K (K.length : Int) 0 (w : Int) (h : Int) C K B) r → Ev (fun k => hinterlandref06_Validate.l2 k B (B.length : Int) (B.length : Int) (w : Int) (h : Int) C K B) r:=fun r hr => Ev.step (fun k => by simp only [hinterlandref06_Validate.l2];rfl) (Ev.neg (by omega) hr)
 have good : ∀ i,i < B.length → InAt B (w * h) i → ∀ r,Ev (fun k => hinterlandref06_Validate.l2 k B (B.length : Int) ((i : Int) + 1) (w : Int) (h : Int) C K B) r → Ev (fun k => hinterlandref06_Validate.l2 k B (B.length : Int) (i : Int) (w : Int) (h : Int) C K B) r:=by
  intro i hi p r hr
  unfold InAt at p
  refine Ev.step (fun k => by simp only [hinterlandref06_Validate.l2];rfl) ?_
  rw [rdN,wrap_in (x:=(i : Int) + 1) (by omega) (by omega)]
  exact Ev.pos (by omega) (Ev.pos (by omega) (Ev.pos (by omega) (Ev.bindc (is_eq L _) (Ev.pos (by rw [decide_eq_true_eq];exact p) hr))))
 have bad : ∀ i,i < B.length → ¬ InAt B (w * h) i → Ev (fun k => hinterlandref06_Validate.l2 k B (B.length : Int) (i : Int) (w : Int) (h : Int) C K B) 2:=by
  intro i hi p
  refine Ev.step (fun k => by simp only [hinterlandref06_Validate.l2];rfl) ?_
  rw [rdN]
  exact Ev.pos (by omega) (Ev.pos (by omega) (Ev.pos (by omega) (Ev.bindc (is_eq L _) (Ev.neg (fun hc => p (by rw [decide_eq_true_eq] at hc;exact hc)) (Ev.now _)))))
 by_cases g : InB B (w * h)
 ·rw [if_pos g]
  exact Ev.scan_all (g:=fun k i => hinterlandref06_Validate.l2 k B (B.length : Int) i (w : Int) (h : Int) C K B) (hend _ (rcheck3 L hK hB g hk)) good B.length 0 (by omega) g
 ·rw [if_neg g]
  exact Ev.scan_some (g:=fun k i => hinterlandref06_Validate.l2 k B (B.length : Int) i (w : Int) (h : Int) C K B) good bad B.length 0 (by omega) (not_all g)
open Classical in
theorem rcheck1 (L : Land w h C) (hK : K.length = w * h) (hB : B.length ≤ 4000) (hk : KOK K) : Ev (fun k => hinterlandref06_Validate.l1 k 1 (w : Int) (h : Int) C K B) (if Inc B then (if InB B (w * h) then (if May w C K then (if WetB w C K B then 0 else 9) else 9) else 2) else 1) := by
 have hend : ∀ r,Ev (fun k => hinterlandref06_Validate.l2 k B (B.length : Int) 0 (w : Int) (h : Int) C K B) r → Ev (fun k => hinterlandref06_Validate.l1 k ((max 1 B.length : Nat) : Int) (w : Int) (h : Int) C K B) r:=fun r hr => Ev.step (fun k => by simp only [hinterlandref06_Validate.l1];rfl) (Ev.neg (by omega) hr)
 have pre : ∀ i : Nat,1 ≤ i → i ≤ 4000 → wrap64 ((i : Int) - 1) = ((i - 1 : Nat) : Int):=by intro i h1 h2;rw [wrap_in (by omega) (by omega)];omega
 have good : ∀ i,i < max 1 B.length → IncAt B i → 1 ≤ i → ∀ r,Ev (fun k => hinterlandref06_Validate.l1 k ((i : Int) + 1) (w : Int) (h : Int) C K B) r → Ev (fun k => hinterlandref06_Validate.l1 k (i : Int) (w : Int) (h : Int) C K B) r:=by
  intro i hi p p1 r hr
  unfold IncAt at p
  refine Ev.step (fun k => by simp only [hinterlandref06_Validate.l1];rfl) ?_
  rw [pre i p1 (by omega),rdN,rdN,wrap_in (x:=(i : Int) + 1) (by omega) (by omega)]
  exact Ev.pos (by omega) (Ev.pos (by omega) (Ev.pos (by omega) (Ev.pos (by omega) (Ev.neg (by omega) hr))))
 have bad : ∀ i,i < max 1 B.length → ¬ IncAt B i → 1 ≤ i → Ev (fun k => hinterlandref06_Validate.l1 k (i : Int) (w : Int) (h : Int) C K B) 1:=by
  intro i hi p p1
  unfold IncAt at p
  refine Ev.step (fun k => by simp only [hinterlandref06_Validate.l1];rfl) ?_
  rw [pre i p1 (by omega),rdN,rdN]
  exact Ev.pos (by omega) (Ev.pos (by omega) (Ev.pos (by omega) (Ev.pos (by omega) (Ev.pos (by omega) (Ev.now _)))))
 have go : ∀ d i,1 ≤ i → i + d = max 1 B.length → Ev (fun k => hinterlandref06_Validate.l1 k (i : Int) (w : Int) (h : Int) C K B) (if (∀ j,i ≤ j → j < max 1 B.length → IncAt B j) then (if InB B (w * h) then (if May w C K then (if WetB w C K B then 0 else 9) else 9) else 2) else 1):=by
  intro d
  induction d with
  | zero =>
   intro i h1 e
   rw [if_pos (fun j a b => by omega)]
   rw [show i = max 1 B.length by omega]
   exact hend _ (rcheck2 L hK hB hk)
  | succ d ih =>
   intro i h1 e
   by_cases hp : IncAt B i
   ·refine good i (by omega) hp h1 _ (Ev.eq (by simpa using ih (i + 1) (by omega) (by omega)) ?_)
    have : (∀ j,i + 1 ≤ j → j < max 1 B.length → IncAt B j) ↔ (∀ j,i ≤ j → j < max 1 B.length → IncAt B j):=by
     constructor
     ·intro f j a b
      by_cases he : j = i
      ·rw [he];exact hp
      ·exact f j (by omega) b
     ·intro f j a b;exact f j (by omega) b
    simp only [this]
   ·rw [if_neg (fun f => hp (f i (Nat.le_refl _) (by omega)))]
    exact bad i (by omega) hp h1
 exact go (max 1 B.length - 1) 1 (Nat.le_refl _) (by omega)
open Classical in
theorem rcheck0 (L : Land w h C) (hK : K.length = w * h) (hB : B.length ≤ 4000) : Ev (fun k => hinterlandref06_Validate.l0 k K (K.length : Int) 0 (w : Int) (h : Int) C K B) (ucode w h C K B) := by
 have hwh : w * h ≤ 32 * 32:=mulle L.w1 L.h1
 unfold ucode
 rw [if_pos hK]
 have hend : ∀ r,Ev (fun k => hinterlandref06_Validate.l1 k 1 (w : Int) (h : Int) C K B) r → Ev (fun k => hinterlandref06_Validate.l0 k K (K.length : Int) (K.length : Int) (w : Int) (h : Int) C K B) r:=fun r hr => Ev.step (fun k => by simp only [hinterlandref06_Validate.l0];rfl) (Ev.neg (by omega) hr)
 have good : ∀ i,i < K.length → KAt K i → ∀ r,Ev (fun k => hinterlandref06_Validate.l0 k K (K.length : Int) ((i : Int) + 1) (w : Int) (h : Int) C K B) r → Ev (fun k => hinterlandref06_Validate.l0 k K (K.length : Int) (i : Int) (w : Int) (h : Int) C K B) r:=by
  intro i hi p r hr
  unfold KAt at p
  refine Ev.step (fun k => by simp only [hinterlandref06_Validate.l0];rfl) ?_
  rw [rdN,wrap_in (x:=(i : Int) + 1) (by omega) (by omega)]
  exact Ev.pos (by omega) (Ev.pos (by omega) (Ev.pos (by omega) (Ev.neg (by omega) (Ev.neg (by omega) hr))))
 have bad : ∀ i,i < K.length → ¬ KAt K i → Ev (fun k => hinterlandref06_Validate.l0 k K (K.length : Int) (i : Int) (w : Int) (h : Int) C K B) 1:=by
  intro i hi p
  unfold KAt at p
  refine Ev.step (fun k => by simp only [hinterlandref06_Validate.l0];rfl) ?_
  rw [rdN]
  refine Ev.pos (by omega) (Ev.pos (by omega) (Ev.pos (by omega) ?_))
  by_cases q : K.getD i 0 < 0
  ·exact Ev.pos q (Ev.now _)
  ·exact Ev.neg q (Ev.pos (by omega) (Ev.now _))
 by_cases g : KOK K
 ·rw [if_pos g]
  exact Ev.scan_all (g:=fun k i => hinterlandref06_Validate.l0 k K (K.length : Int) i (w : Int) (h : Int) C K B) (hend _ (rcheck1 L hK hB g)) good K.length 0 (by omega) g
 ·rw [if_neg g]
  exact Ev.scan_some (g:=fun k i => hinterlandref06_Validate.l0 k K (K.length : Int) i (w : Int) (h : Int) C K B) good bad K.length 0 (by omega) (not_all g)
end
theorem ref_validate_ev {W H : Int} {C K B : List Int} (hC : C.length ≤ 4000) (hB : B.length ≤ 4000) : Ev (fun k => hinterlandref06_Validate.f k W H C K B) (wcode W H C K B) := by
 unfold hinterlandref06_Validate.f
 refine Ev.bind (ref_land_ev hC) ?_
 by_cases e : lcode W H C = 0
 ·refine Ev.pos e ?_
  obtain ⟨w,h,rfl,rfl,L⟩:=land_of e
  have hwh : w * h ≤ 32 * 32:=mulle L.w1 L.h1
  have ew : wcode (w : Int) (h : Int) C K B = ucode w h C K B:=by unfold wcode;rw [if_pos e];simp
  rw [ew]
  have ee : wrap64 ((w : Int) * (h : Int)) = ((w * h : Nat) : Int):=by rw [← Int.natCast_mul,wrap_in (by omega) (by omega)]
  rw [ee]
  by_cases hK : K.length = w * h
  ·exact Ev.pos (by omega) (rcheck0 L hK hB)
  ·refine Ev.neg (by omega) (Ev.eq (Ev.now _) ?_)
   unfold ucode
   rw [if_neg hK]
 ·have ew : wcode W H C K B = lcode W H C:=by unfold wcode;rw [if_neg e]
  rw [ew]
  exact Ev.neg e (Ev.now _)
end Go.Proofs.Ytiencnnkphipoaa.Pure
