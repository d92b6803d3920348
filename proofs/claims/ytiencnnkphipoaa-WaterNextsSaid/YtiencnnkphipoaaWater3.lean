/- What the functions of layer 6 (waters) come to, in plain words: waters. No conditions. -/
import Derived.Test.YtiencnnkphipoaaPx0
import Derived.Test.YtiencnnkphipoaaPx1
import Derived.Test.YtiencnnkphipoaaPx4
import Derived.Test.YtiencnnkphipoaaPx8
import Derived.Test.YtiencnnkphipoaaWater0
namespace Go.Proofs.Ytiencnnkphipoaa.Pure
set_option linter.unusedVariables false
set_option linter.unusedSimpArgs false
open Go.RowKit Go.Proofs.YtiencnnkphipoaaW.PrintWords Go.Proofs.YtiencnnkphipoaaW.PrintMore Go.Proofs.Ytiencnnkphipoaa.P Go.Proofs.Ytiencnnkphipoaa

def KAt (K : List Int) (j : Nat) : Prop := 0 ≤ K.getD j 0 ∧ K.getD j 0 ≤ 3
def KOK (K : List Int) : Prop := ∀ j, 0 ≤ j → j < K.length → KAt K j
def IncAt (B : List Int) (j : Nat) : Prop := B.getD (j - 1) 0 < B.getD j 0
def Inc (B : List Int) : Prop := ∀ j, 1 ≤ j → j < max 1 B.length → IncAt B j
def InAt (B : List Int) (n j : Nat) : Prop := 0 ≤ B.getD j 0 ∧ B.getD j 0 < (n : Int)
def InB (B : List Int) (n : Nat) : Prop := ∀ j, 0 ≤ j → j < B.length → InAt B n j
def MayAt (w : Nat) (C K : List Int) (j : Nat) : Prop := lie (sea w C j) (slope w C j) (K.getD j 0) = 0
def May (w : Nat) (C K : List Int) : Prop := ∀ j, 0 ≤ j → j < K.length → MayAt w C K j
def wet (w : Nat) (C K : List Int) (t : Nat) : Bool := sea w C t || (K.getD t 0 != 0)
def WetAt (w : Nat) (C K B : List Int) (j : Nat) : Prop := wet w C K (B.getD j 0).toNat = true
def WetB (w : Nat) (C K B : List Int) : Prop := ∀ j, 0 ≤ j → j < B.length → WetAt w C K B j
structure Waters (w h : Nat) (C K B : List Int) : Prop where
 land : Land w h C
 len : K.length = w * h
 kinds : KOK K
 inc : Inc B
 inB : InB B (w * h)
 may : May w C K
 wetB : WetB w C K B
open Classical in
noncomputable def ucode (w h : Nat) (C K B : List Int) : Int := if K.length = w * h then (if KOK K then (if Inc B then (if InB B (w * h) then (if May w C K then (if WetB w C K B then 0 else 9) else 9) else 2) else 1) else 1) else 1
open Classical in
noncomputable def wcode (W H : Int) (C K B : List Int) : Int := if lcode W H C = 0 then ucode W.toNat H.toNat C K B else lcode W H C
theorem ucode_zero {w h : Nat} {C K B : List Int} (L : Land w h C) : ucode w h C K B = 0 ↔ Waters w h C K B := by
 unfold ucode
 by_cases h1 : K.length = w * h
 ·by_cases h2 : KOK K
  ·by_cases h3 : Inc B
   ·by_cases h4 : InB B (w * h)
    ·by_cases h5 : May w C K
     ·by_cases h6 : WetB w C K B
      ·simp only [h1,h2,h3,h4,h5,h6,if_true,true_iff];exact ⟨L,h1,h2,h3,h4,h5,h6⟩
      ·simp only [h1,h2,h3,h4,h5,h6,if_true,if_false];exact ⟨fun h => absurd h (by decide),fun U => absurd U.wetB h6⟩
     ·simp only [h1,h2,h3,h4,h5,if_true,if_false];exact ⟨fun h => absurd h (by decide),fun U => absurd U.may h5⟩
    ·simp only [h1,h2,h3,h4,if_true,if_false];exact ⟨fun h => absurd h (by decide),fun U => absurd U.inB h4⟩
   ·simp only [h1,h2,h3,if_true,if_false];exact ⟨fun h => absurd h (by decide),fun U => absurd U.inc h3⟩
  ·simp only [h1,h2,if_true,if_false];exact ⟨fun h => absurd h (by decide),fun U => absurd U.kinds h2⟩
 ·simp only [h1,if_false];exact ⟨fun h => absurd h (by decide),fun U => absurd U.len h1⟩
theorem waters_of {W H : Int} {C K B : List Int} (e : wcode W H C K B = 0) : ∃ w h : Nat, W = (w : Int) ∧ H = (h : Int) ∧ Waters w h C K B := by
 unfold wcode at e
 by_cases hl : lcode W H C = 0
 ·rw [if_pos hl] at e
  obtain ⟨w,h,rfl,rfl,L⟩:=land_of hl
  exact ⟨w,h,rfl,rfl,(ucode_zero L).1 (by simpa using e)⟩
 ·rw [if_neg hl] at e;exact absurd e hl
theorem of_waters {w h : Nat} {C K B : List Int} (U : Waters w h C K B) : wcode (w : Int) (h : Int) C K B = 0 := by
 unfold wcode
 rw [if_pos (of_land U.land)]
 exact (ucode_zero U.land).2 U
theorem wet_lt {w h : Nat} {C K B : List Int} {t : Nat} (hK : K.length = w * h) (ht : t < w * h) : water_ground_wet.f (w : Int) (h : Int) (gS w h C) (gB w h C) (gE w h C) K B (t : Int) = some (wet w C K t) := by
 obtain ⟨l1,l2,l3⟩:=g_len (w:=w) (h:=h) (C:=C)
 unfold water_ground_wet.f wet
 rw [if_pos (by omega),if_pos (by omega),rdB,gE_at ht,rdN]
 cases he : sea w C t with
 | true => simp
 | false => rw [if_neg (by simp),if_pos (by omega)];simp
noncomputable def gr (w h : Nat) (C : List Int) (c : Int) : Int × Int × List Int × List Int × List Bool × Int := ((w : Int), (h : Int), gS w h C, gB w h C, gE w h C, c)
section
variable {w h : Nat} {C K B : List Int}
theorem check4 (L : Land w h C) (hK : K.length = w * h) (hB : B.length ≤ 4000) (hin : InB B (w * h)) : Ev (fun k => water_check.l4 k B (B.length : Int) 0 K B (w : Int) (h : Int) (gS w h C) (gB w h C) (gE w h C)) (gr w h C (open Classical in if WetB w C K B then 0 else 9)) := by
 have hend : Ev (fun k => water_check.l4 k B (B.length : Int) (B.length : Int) K B (w : Int) (h : Int) (gS w h C) (gB w h C) (gE w h C)) (gr w h C 0):=Ev.step (fun k => by simp only [water_check.l4];rfl) (Ev.neg (by omega) (Ev.now _))
 have val : ∀ i,i < B.length → water_ground_wet.f (w : Int) (h : Int) (gS w h C) (gB w h C) (gE w h C) K B (B.getD i 0) = some (wet w C K (B.getD i 0).toNat):=by
  intro i hi
  obtain ⟨h1,h2⟩:=hin i (Nat.zero_le _) hi
  have:=wet_lt (B:=B) (C:=C) hK (t:=(B.getD i 0).toNat) (by omega)
  rw [Int.toNat_of_nonneg h1] at this
  exact this
 have good : ∀ i,i < B.length → WetAt w C K B i → ∀ r,Ev (fun k => water_check.l4 k B (B.length : Int) ((i : Int) + 1) K B (w : Int) (h : Int) (gS w h C) (gB w h C) (gE w h C)) r → Ev (fun k => water_check.l4 k B (B.length : Int) (i : Int) K B (w : Int) (h : Int) (gS w h C) (gB w h C) (gE w h C)) r:=by
  intro i hi p r hr
  refine Ev.step (fun k => by simp only [water_check.l4];rfl) ?_
  rw [rdN,wrap_in (x:=(i : Int) + 1) (by omega) (by omega)]
  exact Ev.pos (by omega) (Ev.pos (by omega) (Ev.pos (by omega) (Ev.bindc (val i hi) (Ev.pos p hr))))
 have bad : ∀ i,i < B.length → ¬ WetAt w C K B i → Ev (fun k => water_check.l4 k B (B.length : Int) (i : Int) K B (w : Int) (h : Int) (gS w h C) (gB w h C) (gE w h C)) (gr w h C 9):=by
  intro i hi p
  refine Ev.step (fun k => by simp only [water_check.l4];rfl) ?_
  rw [rdN]
  exact Ev.pos (by omega) (Ev.pos (by omega) (Ev.pos (by omega) (Ev.bindc (val i hi) (Ev.neg p (Ev.now _)))))
 by_cases g : WetB w C K B
 ·rw [if_pos g]
  exact Ev.scan_all (g:=fun k i => water_check.l4 k B (B.length : Int) i K B (w : Int) (h : Int) (gS w h C) (gB w h C) (gE w h C)) hend good B.length 0 (by omega) g
 ·rw [if_neg g]
  exact Ev.scan_some (g:=fun k i => water_check.l4 k B (B.length : Int) i K B (w : Int) (h : Int) (gS w h C) (gB w h C) (gE w h C)) good bad B.length 0 (by omega) (not_all g)
open Classical in
theorem check3 (L : Land w h C) (hK : K.length = w * h) (hB : B.length ≤ 4000) (hin : InB B (w * h)) : Ev (fun k => water_check.l3 k K (K.length : Int) 0 K B (w : Int) (h : Int) (gS w h C) (gB w h C) (gE w h C)) (gr w h C (if May w C K then (if WetB w C K B then 0 else 9) else 9)) := by
 have hwh : w * h ≤ 32 * 32:=mulle L.w1 L.h1
 have hend : ∀ r,Ev (fun k => water_check.l4 k B (B.length : Int) 0 K B (w : Int) (h : Int) (gS w h C) (gB w h C) (gE w h C)) r → Ev (fun k => water_check.l3 k K (K.length : Int) (K.length : Int) K B (w : Int) (h : Int) (gS w h C) (gB w h C) (gE w h C)) r:=fun r hr => Ev.step (fun k => by simp only [water_check.l3];rfl) (Ev.neg (by omega) hr)
 have good : ∀ i,i < K.length → MayAt w C K i → ∀ r,Ev (fun k => water_check.l3 k K (K.length : Int) ((i : Int) + 1) K B (w : Int) (h : Int) (gS w h C) (gB w h C) (gE w h C)) r → Ev (fun k => water_check.l3 k K (K.length : Int) (i : Int) K B (w : Int) (h : Int) (gS w h C) (gB w h C) (gE w h C)) r:=by
  intro i hi p r hr
  refine Ev.step (fun k => by simp only [water_check.l3];rfl) ?_
  rw [rdN,wrap_in (x:=(i : Int) + 1) (by omega) (by omega)]
  exact Ev.pos (by omega) (Ev.pos (by omega) (Ev.pos (by omega) (Ev.bind (may_ev (by omega) _) (Ev.pos p hr))))
 have bad : ∀ i,i < K.length → ¬ MayAt w C K i → Ev (fun k => water_check.l3 k K (K.length : Int) (i : Int) K B (w : Int) (h : Int) (gS w h C) (gB w h C) (gE w h C)) (gr w h C 9):=by
  intro i hi p
  refine Ev.step (fun k => by simp only [water_check.l3];rfl) ?_
  rw [rdN]
  exact Ev.pos (by omega) (Ev.pos (by omega) (Ev.pos (by omega) (Ev.bind (may_ev (by omega) _) (Ev.neg p (Ev.now _)))))
 by_cases g : May w C K
 ·rw [if_pos g]
  exact Ev.scan_all (g:=fun k i => water_check.l3 k K (K.length : Int) i K B (w : Int) (h : Int) (gS w h C) (gB w h C) (gE w h C)) (hend _ (check4 L hK hB hin)) good K.length 0 (by omega) g
 ·rw [if_neg g]
  exact Ev.scan_some (g:=fun k i => water_check.l3 k K (K.length : Int) i K B (w : Int) (h : Int) (gS w h C) (gB w h C) (gE w h C)) good bad K.length 0 (by omega) (not_all g)
open Classical in
theorem check2 (L : Land w h C) (hK : K.length = w * h) (hB : B.length ≤ 4000) : Ev (fun k => water_check.l2 k B (B.length : Int) 0 (w : Int) (h : Int) C K B (w : Int) (h : Int) (gS w h C) (gB w h C) (gE w h C)) (gr w h C (if InB B (w * h) then (if May w C K then (if WetB w C K B then 0 else 9) else 9) else 2)) := by
 have hwh : w * h ≤ 32 * 32:=mulle L.w1 L.h1
 have e : wrap64 ((w : Int) * (h : Int)) = ((w * h : Nat) : Int):=by rw [← Int.natCast_mul,wrap_in (by omega) (by omega)]
 have hend : ∀ r,Ev (fun k => water_check.l3 k K (K.length : Int) 0 K B (w : Int) (h : Int) (gS w h C) (gB w h C) (gE w h C)) r → Ev (fun k => water_check.l2 k B (B.length : Int) (B.length : Int) (w : Int) (h : Int) C K B (w : Int) (h : Int) (gS w h C) (gB w h C) (gE w h C)) r:=fun r hr => Ev.step (fun k => by simp only [water_check.l2];rfl) (Ev.neg (by omega) hr)
 have good : ∀ i,i < B.length → InAt B (w * h) i → ∀ r,Ev (fun k => water_check.l2 k B (B.length : Int) ((i : Int) + 1) (w : Int) (h : Int) C K B (w : Int) (h : Int) (gS w h C) (gB w h C) (gE w h C)) r → Ev (fun k => water_check.l2 k B (B.length : Int) (i : Int) (w : Int) (h : Int) C K B (w : Int) (h : Int) (gS w h C) (gB w h C) (gE w h C)) r:=by
  intro i hi p r hr
  unfold InAt at p
  refine Ev.step (fun k => by simp only [water_check.l2];rfl) ?_
  rw [rdN,e,wrap_in (x:=(i : Int) + 1) (by omega) (by omega)]
  exact Ev.pos (by omega) (Ev.pos (by omega) (Ev.pos (by omega) (Ev.neg (by omega) (Ev.neg (by omega) hr))))
 have bad : ∀ i,i < B.length → ¬ InAt B (w * h) i → Ev (fun k => water_check.l2 k B (B.length : Int) (i : Int) (w : Int) (h : Int) C K B (w : Int) (h : Int) (gS w h C) (gB w h C) (gE w h C)) (gr w h C 2):=by
  intro i hi p
  unfold InAt at p
  refine Ev.step (fun k => by simp only [water_check.l2];rfl) ?_
  rw [rdN,e]
  refine Ev.pos (by omega) (Ev.pos (by omega) (Ev.pos (by omega) ?_))
  by_cases q : B.getD i 0 < 0
  ·exact Ev.pos q (Ev.now _)
  ·exact Ev.neg q (Ev.pos (by omega) (Ev.now _))
 by_cases g : InB B (w * h)
 ·rw [if_pos g]
  exact Ev.scan_all (g:=fun k i => water_check.l2 k B (B.length : Int) i (w : Int) (h : Int) C K B (w : Int) (h : Int) (gS w h C) (gB w h C) (gE w h C)) (hend _ (check3 L hK hB g)) good B.length 0 (by omega) g
 ·rw [if_neg g]
  exact Ev.scan_some (g:=fun k i => water_check.l2 k B (B.length : Int) i (w : Int) (h : Int) C K B (w : Int) (h : Int) (gS w h C) (gB w h C) (gE w h C)) good bad B.length 0 (by omega) (not_all g)
theorem not_all1 {p : Nat → Prop} {n : Nat} (h : ¬ ∀ j, 1 ≤ j → j < n → p j) : ∃ j, 1 ≤ j ∧ j < n ∧ ¬ p j := by
 apply Classical.byContradiction
 intro hc
 exact h fun j h1 h2 => Classical.byContradiction fun h3 => hc ⟨j,h1,h2,h3⟩
open Classical in
theorem check1 (L : Land w h C) (hK : K.length = w * h) (hB : B.length ≤ 4000) : Ev (fun k => water_check.l1 k 1 (w : Int) (h : Int) C K B (w : Int) (h : Int) (gS w h C) (gB w h C) (gE w h C)) (gr w h C (if Inc B then (if InB B (w * h) then (if May w C K then (if WetB w C K B then 0 else 9) else 9) else 2) else 1)) := by
 have hend : ∀ r,Ev (fun k => water_check.l2 k B (B.length : Int) 0 (w : Int) (h : Int) C K B (w : Int) (h : Int) (gS w h C) (gB w h C) (gE w h C)) r → Ev (fun k => water_check.l1 k ((max 1 B.length : Nat) : Int) (w : Int) (h : Int) C K B (w : Int) (h : Int) (gS w h C) (gB w h C) (gE w h C)) r:=fun r hr => Ev.step (fun k => by simp only [water_check.l1];rfl) (Ev.neg (by omega) hr)
 have pre : ∀ i : Nat,1 ≤ i → i ≤ 4000 → wrap64 ((i : Int) - 1) = ((i - 1 : Nat) : Int):=by intro i h1 h2;rw [wrap_in (by omega) (by omega)];omega
 have good : ∀ i,i < max 1 B.length → (1 ≤ i → IncAt B i) ∧ 1 ≤ i → ∀ r,Ev (fun k => water_check.l1 k ((i : Int) + 1) (w : Int) (h : Int) C K B (w : Int) (h : Int) (gS w h C) (gB w h C) (gE w h C)) r → Ev (fun k => water_check.l1 k (i : Int) (w : Int) (h : Int) C K B (w : Int) (h : Int) (gS w h C) (gB w h C) (gE w h C)) r:=by
  intro i hi ⟨p0,p1⟩ r hr
  have p:=p0 p1
  unfold IncAt at p
  refine Ev.step (fun k => by simp only [water_check.l1];rfl) ?_
  rw [pre i p1 (by omega),rdN,rdN,wrap_in (x:=(i : Int) + 1) (by omega) (by omega)]
  exact Ev.pos (by omega) (Ev.pos (by omega) (Ev.pos (by omega) (Ev.pos (by omega) (Ev.neg (by omega) hr))))
 have bad : ∀ i,i < max 1 B.length → ¬ ((1 ≤ i → IncAt B i) ∧ 1 ≤ i) → 1 ≤ i → Ev (fun k => water_check.l1 k (i : Int) (w : Int) (h : Int) C K B (w : Int) (h : Int) (gS w h C) (gB w h C) (gE w h C)) (gr w h C 1):=by
  intro i hi p p1
  have p : ¬ IncAt B i:=fun hc => p ⟨fun _ => hc,p1⟩
  unfold IncAt at p
  refine Ev.step (fun k => by simp only [water_check.l1];rfl) ?_
  rw [pre i p1 (by omega),rdN,rdN]
  exact Ev.pos (by omega) (Ev.pos (by omega) (Ev.pos (by omega) (Ev.pos (by omega) (Ev.pos (by omega) (Ev.now _)))))
 have go : ∀ d i,1 ≤ i → i + d = max 1 B.length → Ev (fun k => water_check.l1 k (i : Int) (w : Int) (h : Int) C K B (w : Int) (h : Int) (gS w h C) (gB w h C) (gE w h C)) (gr w h C (if (∀ j,i ≤ j → j < max 1 B.length → IncAt B j) then (if InB B (w * h) then (if May w C K then (if WetB w C K B then 0 else 9) else 9) else 2) else 1)):=by
  intro d
  induction d with
  | zero =>
   intro i h1 e
   rw [if_pos (fun j a b => by omega)]
   rw [show i = max 1 B.length by omega]
   exact hend _ (check2 L hK hB)
  | succ d ih =>
   intro i h1 e
   by_cases hp : IncAt B i
   ·refine good i (by omega) ⟨fun _ => hp,h1⟩ _ (Ev.eq (by simpa using ih (i + 1) (by omega) (by omega)) ?_)
    have : (∀ j,i + 1 ≤ j → j < max 1 B.length → IncAt B j) ↔ (∀ j,i ≤ j → j < max 1 B.length → IncAt B j):=by
     constructor
     ·intro f j a b
      by_cases he : j = i
      ·rw [he];exact hp
      ·exact f j (by omega) b
     ·intro f j a b;exact f j (by omega) b
    simp only [this]
   ·rw [if_neg (fun f => hp (f i (Nat.le_refl _) (by omega)))]
    exact bad i (by omega) (fun hc => hp (hc.1 h1)) h1
 have:=go (max 1 B.length - 1) 1 (Nat.le_refl _) (by omega)
 exact this
open Classical in
theorem check0 (L : Land w h C) (hK : K.length = w * h) (hB : B.length ≤ 4000) : Ev (fun k => water_check.l0 k K (K.length : Int) 0 (w : Int) (h : Int) C K B (w : Int) (h : Int) (gS w h C) (gB w h C) (gE w h C)) (gr w h C (ucode w h C K B)) := by
 have hwh : w * h ≤ 32 * 32:=mulle L.w1 L.h1
 unfold ucode
 rw [if_pos hK]
 have hend : ∀ r,Ev (fun k => water_check.l1 k 1 (w : Int) (h : Int) C K B (w : Int) (h : Int) (gS w h C) (gB w h C) (gE w h C)) r → Ev (fun k => water_check.l0 k K (K.length : Int) (K.length : Int) (w : Int) (h : Int) C K B (w : Int) (h : Int) (gS w h C) (gB w h C) (gE w h C)) r:=fun r hr => Ev.step (fun k => by simp only [water_check.l0];rfl) (Ev.neg (by omega) hr)
 have good : ∀ i,i < K.length → KAt K i → ∀ r,Ev (fun k => water_check.l0 k K (K.length : Int) ((i : Int) + 1) (w : Int) (h : Int) C K B (w : Int) (h : Int) (gS w h C) (gB w h C) (gE w h C)) r → Ev (fun k => water_check.l0 k K (K.length : Int) (i : Int) (w : Int) (h : Int) C K B (w : Int) (h : Int) (gS w h C) (gB w h C) (gE w h C)) r:=by
  intro i hi p r hr
  unfold KAt at p
  refine Ev.step (fun k => by simp only [water_check.l0];rfl) ?_
  rw [rdN,wrap_in (x:=(i : Int) + 1) (by omega) (by omega)]
  exact Ev.pos (by omega) (Ev.pos (by omega) (Ev.pos (by omega) (Ev.neg (by omega) (Ev.neg (by omega) hr))))
 have bad : ∀ i,i < K.length → ¬ KAt K i → Ev (fun k => water_check.l0 k K (K.length : Int) (i : Int) (w : Int) (h : Int) C K B (w : Int) (h : Int) (gS w h C) (gB w h C) (gE w h C)) (gr w h C 1):=by
  intro i hi p
  unfold KAt at p
  refine Ev.step (fun k => by simp only [water_check.l0];rfl) ?_
  rw [rdN]
  refine Ev.pos (by omega) (Ev.pos (by omega) (Ev.pos (by omega) ?_))
  by_cases q : K.getD i 0 < 0
  ·exact Ev.pos q (Ev.now _)
  ·exact Ev.neg q (Ev.pos (by omega) (Ev.now _))
 by_cases g : KOK K
 ·rw [if_pos g]
  exact Ev.scan_all (g:=fun k i => water_check.l0 k K (K.length : Int) i (w : Int) (h : Int) C K B (w : Int) (h : Int) (gS w h C) (gB w h C) (gE w h C)) (hend _ (check1 L hK hB)) good K.length 0 (by omega) g
 ·rw [if_neg g]
  exact Ev.scan_some (g:=fun k i => water_check.l0 k K (K.length : Int) i (w : Int) (h : Int) C K B (w : Int) (h : Int) (gS w h C) (gB w h C) (gE w h C)) good bad K.length 0 (by omega) (not_all g)
end
open Classical in
theorem check_ev {W H : Int} {C K B : List Int} (hC : C.length ≤ 4000) (hB : B.length ≤ 4000) : Ev (fun k => water_check.f k W H C K B) (if lcode W H C = 0 then gr W.toNat H.toNat C (wcode W H C K B) else (0, 0, [], [], [], wcode W H C K B)) := by
 unfold water_check.f
 refine Ev.bind (ground_ev hC) ?_
 by_cases e : lcode W H C = 0
 ·simp only [if_pos e]
  obtain ⟨w,h,rfl,rfl,L⟩:=land_of e
  have hwh : w * h ≤ 32 * 32:=mulle L.w1 L.h1
  simp only [Int.toNat_natCast]
  have ew : wcode (w : Int) (h : Int) C K B = ucode w h C K B:=by unfold wcode;rw [if_pos e];simp
  rw [ew]
  refine Ev.pos (by first | rfl | trivial) ?_
  have ee : wrap64 ((w : Int) * (h : Int)) = ((w * h : Nat) : Int):=by rw [← Int.natCast_mul,wrap_in (by omega) (by omega)]
  rw [ee]
  by_cases hK : K.length = w * h
  ·exact Ev.pos (by omega) (check0 L hK hB)
  ·refine Ev.neg (by omega) (Ev.eq (Ev.now _) ?_)
   unfold ucode
   rw [if_neg hK]
   rfl
 ·simp only [if_neg e]
  have ew : wcode W H C K B = lcode W H C:=by unfold wcode;rw [if_neg e]
  rw [ew]
  exact Ev.now _
theorem validate_ev {W H : Int} {C K B : List Int} (hC : C.length ≤ 4000) (hB : B.length ≤ 4000) : Ev (fun k => water_Validate.f k W H C K B) (wcode W H C K B) := by
 unfold water_Validate.f
 refine Ev.bind (check_ev hC hB) (Ev.eq (Ev.now _) ?_)
 by_cases e : lcode W H C = 0
 ·rw [if_pos e];rfl
 ·rw [if_neg e]
section
variable {w h : Nat} {C K B : List Int}
theorem is_eq (L : Land w h C) (b : Int) : hinterlandref02_Is.f (w : Int) (h : Int) C b = some (decide (0 ≤ b ∧ b < ((w * h : Nat) : Int))) := by
 have hwh : w * h ≤ 32 * 32:=mulle L.w1 L.h1
 unfold hinterlandref02_Is.f
 rw [← Int.natCast_mul,wrap_in (by omega) (by omega)]
 by_cases hb : b ≥ 0
 ·rw [if_pos hb];congr 1;apply decide_eq_decide.2;omega
 ·rw [if_neg hb,decide_eq_false (by omega)]
end
theorem known_ev : Ev (fun k => hinterlandlaw06_known.f k) true := by
 refine Ev.of (fun k => hinterlandlaw06_known.mono k) (k:=600) ?_
 decide +kernel
theorem known_then : Ev (fun k => (hinterlandlaw06_known.f k).bind fun t => some t) true := Ev.bind known_ev (Ev.now _)
end Go.Proofs.Ytiencnnkphipoaa.Pure
