/- Layer 6, WaterMarks (P6.2): where buoys are put and taken away, and that doing so twice changes nothing. No conditions. -/
import Derived.Test.YtiencnnkphipoaaPx0
import Derived.Test.YtiencnnkphipoaaPx1
import Derived.Test.YtiencnnkphipoaaPx5
import Derived.Test.YtiencnnkphipoaaPx6
import Derived.Test.YtiencnnkphipoaaPx7
import Derived.Test.YtiencnnkphipoaaPx8
import Derived.Test.YtiencnnkphipoaaPx11
import Derived.Test.YtiencnnkphipoaaPx12
import Derived.Test.YtiencnnkphipoaaPx13
import Derived.Test.YtiencnnkphipoaaPSWaterMarks
import Derived.Test.YtiencnnkphipoaaMarkA
namespace Go.Proofs.Ytiencnnkphipoaa.Pure
set_option linter.unusedVariables false
set_option linter.unusedSimpArgs false
open Go.RowKit Go.Proofs.YtiencnnkphipoaaW.PrintWords Go.Proofs.YtiencnnkphipoaaW.PrintMore Go.Proofs.Ytiencnnkphipoaa.P Go.Proofs.Ytiencnnkphipoaa

theorem less_eq (a b:Int):cmp_Less_int.f a b = some (decide (a < b)) := by
 unfold cmp_Less_int.f cmp_isNaN_int.f
 rw [Option.bind_some,show (a != a) = false from bne_eq_false_iff_eq.2 rfl,if_neg (by simp)]
theorem mid_eq {x y:Int} (h0:0 ≤ x) (h1:0 ≤ y) (h2:x ≤ 8000) (h3:y ≤ 8000):wrap64 ((IntKind.u64.wrap (wrap64 (x + y))) / 2) = (x + y) / 2 := by
 rw [wrap_in (x:=x + y) (by omega) (by omega),show IntKind.u64.wrap (x + y) = x + y by simp [IntKind.wrap,IntKind.bits,IntKind.signed];omega,wrap_in (by omega) (by omega)]
theorem bs_ev {B:List Int} {n:Nat} {v:Int} (hB:B.length ≤ 8000) (hn:n ≤ B.length) (h1:∀ j,j < n → B.getD j 0 < v) (h2:∀ j,n ≤ j → j < B.length → v ≤ B.getD j 0):Ev (fun k => slices_BinarySearch_int_int.f k B v) ((n:Int),decide (n < B.length ∧ B.getD n 0 = v)) := by
 unfold slices_BinarySearch_int_int.f
 have fin:Ev (fun k=>slices_BinarySearch_int_int.l0 k B v (B.length:Int) (n:Int) (n:Int)) ((n:Int),decide (n < B.length ∧ B.getD n 0 = v)):=by
  by_cases e:n < B.length
  ·by_cases c:B.getD n 0 = v
   ·refine Ev.step (fun k=>by simp only [slices_BinarySearch_int_int.l0];rfl) (Ev.neg (by omega) (Ev.pos (by omega) (Ev.pos (by omega) (Ev.pos (by omega) ?_))))
    rw [rdN,decide_eq_true (show n < B.length ∧ B.getD n 0 = v from ⟨e,c⟩)]
    exact Ev.pos c (Ev.now _)
   ·refine Ev.step (fun k=>by simp only [slices_BinarySearch_int_int.l0];rfl) (Ev.neg (by omega) (Ev.pos (by omega) (Ev.pos (by omega) (Ev.pos (by omega) ?_))))
    rw [rdN,decide_eq_false (show ¬ (n < B.length ∧ B.getD n 0 = v) from fun z=>c z.2)]
    exact Ev.neg c (Ev.bindc (show slices_isNaN_int.f (B.getD n 0) = some false by unfold slices_isNaN_int.f;rw [show (B.getD n 0 != B.getD n 0) = false from bne_eq_false_iff_eq.2 rfl]) (Ev.neg (by simp) (Ev.now _)))
  ·refine Ev.step (fun k=>by simp only [slices_BinarySearch_int_int.l0];rfl) (Ev.neg (by omega) (Ev.neg (by omega) ?_))
   rw [decide_eq_false (show ¬ (n < B.length ∧ B.getD n 0 = v) from fun z=>e z.1)]
   exact Ev.now _
 have key:∀ d lo hi:Nat,hi - lo ≤ d → lo ≤ n → n ≤ hi → hi ≤ B.length → Ev (fun k=>slices_BinarySearch_int_int.l0 k B v (B.length:Int) (lo:Int) (hi:Int)) ((n:Int),decide (n < B.length ∧ B.getD n 0 = v)):=by
  intro d
  induction d with
  | zero =>
   intro lo hi hd hl hh hb
   obtain rfl:lo = n:=by omega
   obtain rfl:hi = lo:=by omega
   exact fin
  | succ d ih =>
   intro lo hi hd hl hh hb
   by_cases e:lo = hi
   ·exact ih lo hi (by omega) hl hh hb
   have hm:((lo:Int) + (hi:Int)) / 2 = (((lo + hi) / 2:Nat):Int):=by omega
   by_cases c:B.getD ((lo + hi) / 2) 0 < v
   ·have hp:=ih ((lo + hi) / 2 + 1) hi (by omega) (by
     apply Classical.byContradiction
     intro q
     have:=h2 ((lo + hi) / 2) (by omega) (by omega)
     omega) hh hb
    refine Ev.step (fun k=>by simp only [slices_BinarySearch_int_int.l0];rfl) (Ev.pos (by omega) ?_)
    rw [mid_eq (by omega) (by omega) (by omega) (by omega),hm,rdN,wrap_in (x:=(((lo + hi) / 2:Nat):Int) + 1) (by omega) (by omega)]
    exact Ev.pos (by omega) (Ev.pos (by omega) (Ev.bindc (less_eq _ _) (Ev.pos (decide_eq_true c) hp)))
   ·have hp:=ih lo ((lo + hi) / 2) (by omega) hl (by
     apply Classical.byContradiction
     intro q
     have:=h1 ((lo + hi) / 2) (by omega)
     omega) (by omega)
    refine Ev.step (fun k=>by simp only [slices_BinarySearch_int_int.l0];rfl) (Ev.pos (by omega) ?_)
    rw [mid_eq (by omega) (by omega) (by omega) (by omega),hm,rdN]
    exact Ev.pos (by omega) (Ev.pos (by omega) (Ev.bindc (less_eq _ _) (Ev.neg (fun z=>c (of_decide_eq_true z)) hp)))
 exact key B.length 0 B.length (by omega) (by omega) hn (Nat.le_refl _)
structure Spl (B : List Int) (t : Int) (P Q : List Int) (b : Bool) : Prop where
 all:B = P ++ (if b = true then t :: Q else Q)
 lo:∀ x ∈ P,x < t
 hi:∀ x ∈ Q,t < x
theorem inc_pw {B:List Int}:Inc B ↔ B.Pairwise (· < ·) := by
 constructor
 ·intro h
  have lt:∀ j i,i < j → j < B.length → B.getD i 0 < B.getD j 0:=by
   intro j
   induction j with
   | zero=>intro i h1;omega
   | succ j ih =>
    intro i h1 h2
    have h3:=h (j + 1) (by omega) (by omega)
    unfold IncAt at h3
    rw [Nat.add_sub_cancel] at h3
    by_cases e:i = j
    ·rw [e];exact h3
    ·exact Int.lt_trans (ih i (by omega) (by omega)) h3
  rw [List.pairwise_iff_getElem]
  intro i j hi hj hij
  have:=lt j i hij hj
  rw [List.getD_eq_getElem?_getD,List.getD_eq_getElem?_getD,List.getElem?_eq_getElem hi,List.getElem?_eq_getElem hj] at this
  exact this
 ·intro h j h1 h2
  rw [List.pairwise_iff_getElem] at h
  have hj:j < B.length:=by omega
  have:=h (j - 1) j (by omega) hj (by omega)
  unfold IncAt
  rw [List.getD_eq_getElem?_getD,List.getD_eq_getElem?_getD,List.getElem?_eq_getElem (show j - 1 < B.length by omega),List.getElem?_eq_getElem hj]
  exact this
theorem spl_ex (t:Int):∀ B:List Int,B.Pairwise (· < ·) → ∃ P Q b,Spl B t P Q b
 | [],_=>⟨[],[],false,rfl,by simp,by simp⟩
 | x :: B,h=>by
  rw [List.pairwise_cons] at h
  rcases Int.lt_trichotomy x t with c | c | c
  ·obtain ⟨P,Q,b,s⟩:=spl_ex t B h.2
   refine ⟨x :: P,Q,b,by rw [s.all];rfl,?_,s.hi⟩
   intro y hy
   rcases List.mem_cons.1 hy with rfl | hy
   ·exact c
   ·exact s.lo y hy
  ·subst c
   exact ⟨[],B,true,rfl,by simp,h.1⟩
  ·refine ⟨[],x :: B,false,rfl,by simp,?_⟩
   intro y hy
   rcases List.mem_cons.1 hy with rfl | hy
   ·exact c
   ·exact Int.lt_trans c (h.1 y hy)
def Spl.out (t : Int) (P Q : List Int) (b : Bool) : List Int := P ++ (if b = true then Q else t :: Q)
theorem Spl.turn {B P Q:List Int} {t:Int} {b:Bool} (s:Spl B t P Q b):Spl (Spl.out t P Q b) t P Q (!b) ∧ Spl.out t P Q (!b) = B := by
 refine ⟨⟨?_,s.lo,s.hi⟩,?_⟩
 ·unfold Spl.out;cases b <;> rfl
 ·rw [s.all];unfold Spl.out;cases b <;> rfl
theorem app_lo {P Q:List Int} {j:Nat} (h:j < P.length):(P ++ Q).getD j 0 = P.getD j 0 := by
 rw [List.getD_eq_getElem?_getD,List.getElem?_append_left h,← List.getD_eq_getElem?_getD]
theorem app_hi {P Q:List Int} {j:Nat} (h:P.length ≤ j):(P ++ Q).getD j 0 = Q.getD (j - P.length) 0 := by
 rw [List.getD_eq_getElem?_getD,List.getElem?_append_right h,← List.getD_eq_getElem?_getD]
theorem get_mem {P:List Int} {j:Nat} (h:j < P.length):P.getD j 0 ∈ P := at_mem h
theorem Spl.search {B P Q:List Int} {t:Int} {b:Bool} (s:Spl B t P Q b) (hB:B.length ≤ 8000):Ev (fun k => slices_BinarySearch_int_int.f k B t) ((P.length:Int),b) := by
 have e:=s.all
 have hl:B.length = P.length + (if b = true then t :: Q else Q).length:=by rw [e,List.length_append]
 refine Ev.eq (bs_ev (n:=P.length) hB (by omega) (fun j hj=>?_) (fun j hj hj2=>?_)) ?_
 ·rw [e,app_lo hj];exact s.lo _ (get_mem hj)
 ·rw [e,app_hi hj]
  have hm:=get_mem (P:=if b = true then t :: Q else Q) (j:=j - P.length) (by omega)
  generalize (if b = true then t :: Q else Q).getD (j - P.length) 0 = x at hm ⊢
  cases b with
  | true =>
   rcases List.mem_cons.1 hm with rfl | hm
   ·exact Int.le_refl _
   ·exact Int.le_of_lt (s.hi x hm)
  | false=>exact Int.le_of_lt (s.hi x hm)
 ·congr 1
  cases b with
  | true =>
   rw [decide_eq_true]
   rw [e,app_hi (Nat.le_refl _),Nat.sub_self]
   exact ⟨by simp,rfl⟩
  | false =>
   rw [decide_eq_false]
   rintro ⟨h1,h2⟩
   rw [e,app_hi (Nat.le_refl _)] at h2
   have hq:P.length - P.length < Q.length:=by rw [e] at h1;simp at h1;omega
   have:=s.hi _ (get_mem (P:=Q) (j:=P.length - P.length) hq)
   have h2':Q.getD (P.length - P.length) 0 = t:=h2
   omega
section
variable {w h : Nat} {C K B P Q : List Int} {b : Bool}
theorem buoys (U:Waters w h C K B) {t:Nat} (ht:t < w * h) (hw:wet w C K t = true) (s:Spl B (t:Int) P Q b):Waters w h C K (Spl.out (t:Int) P Q b) := by
 have pw:=inc_pw.1 U.inc
 have pq:∀ x,x ∈ Spl.out (t:Int) P Q b → x ∈ B ∨ x = (t:Int):=by
  intro x hx
  unfold Spl.out at hx
  rw [s.all]
  cases b with
  | true=>rcases List.mem_append.1 hx with q | q <;> simp_all
  | false =>
   rcases List.mem_append.1 hx with q | q
   ·exact .inl (List.mem_append_left _ q)
   ·rcases List.mem_cons.1 q with rfl | q
    ·exact .inr rfl
    ·exact .inl (List.mem_append_right _ q)
 have each:∀ x,x ∈ Spl.out (t:Int) P Q b → (0 ≤ x ∧ x < ((w * h:Nat):Int)) ∧ wet w C K x.toNat = true:=by
  intro x hx
  rcases pq x hx with q | rfl
  ·obtain ⟨j,hj,e⟩:=mem_at q
   have h1:=U.inB j (Nat.zero_le _) hj
   have h2:=U.wetB j (Nat.zero_le _) hj
   unfold InAt at h1
   unfold WetAt at h2
   rw [e] at h1 h2
   exact ⟨h1,h2⟩
  ·exact ⟨by omega,by rw [Int.toNat_natCast];exact hw⟩
 refine ⟨U.land,U.len,U.kinds,inc_pw.2 ?_,fun j _ hj=>(each _ (at_mem hj)).1,U.may,fun j _ hj=>(each _ (at_mem hj)).2⟩
 rw [s.all] at pw
 unfold Spl.out
 rw [List.pairwise_append] at pw ⊢
 cases b with
 | true =>
  have p2:(((t:Int) :: Q).Pairwise (· < ·)):=pw.2.1
  rw [List.pairwise_cons] at p2
  exact ⟨pw.1,p2.2,fun x hx y hy=>pw.2.2 x hx y (List.mem_cons_of_mem _ hy)⟩
 | false =>
  refine ⟨pw.1,List.pairwise_cons.2 ⟨s.hi,pw.2.1⟩,fun x hx y hy=>?_⟩
  rcases List.mem_cons.1 hy with rfl | hy
  ·exact s.lo x hx
  ·exact pw.2.2 x hx y hy
abbrev noW (c : Int) : List Int × List Int × Int := ([], [], c)
theorem mark_ev (U:Waters w h C K B) (hC:C.length ≤ 4000) (hK:K.length ≤ 4000) (hB:B.length ≤ 4000) (hB2:B.length ≤ 4000) {t:Nat} (ht:t < w * h) (s:Spl B (t:Int) P Q b):Ev (fun k => water_Mark.f k (w:Int) (h:Int) C K B (t:Int)) (if wet w C K t = true then (K,Spl.out (t:Int) P Q b,0) else noW 9) := by
 unfold water_Mark.f
 have e:=of_acode U ht
 refine Ev.bind (at_ev hC hB) ?_
 simp only [if_pos (of_land U.land),Int.toNat_natCast]
 refine Ev.pos e (Ev.bindc (show water_ground_wet.f (w:Int) (h:Int) (gS w h C) (gB w h C) (gE w h C) K B (t:Int) = some (wet w C K t) from wet_lt U.len ht) ?_)
 by_cases hw:wet w C K t = true
 rotate_left
 ·exact Ev.eq (Ev.neg hw (Ev.now _)) (if_neg hw).symm
 refine Ev.eq (Ev.pos hw (Ev.bindc (clone_eq K B (by omega) (by omega)) (Ev.bind (s.search (by omega)) ?_))) (if_pos hw).symm
 have hl:B.length = P.length + (if b = true then (t:Int) :: Q else Q).length:=by rw [s.all,List.length_append]
 cases b with
 | true =>
  have hl':B.length = P.length + (Q.length + 1):=hl
  refine Ev.pos rfl ?_
  rw [wrap_in (x:=(P.length:Int) + 1) (by omega) (by omega)]
  refine Ev.bindc (show slices_Delete_int_int.f B (P.length:Int) ((P.length:Int) + 1) = some (P ++ Q) from ?_) (Ev.now _)
  unfold slices_Delete_int_int.f
  rw [if_pos ⟨by omega,by omega,by omega⟩,Int.toNat_natCast,show ((P.length:Int) + 1).toNat = P.length + 1 by omega,s.all]
  simp
 | false =>
  have hl':B.length = P.length + Q.length:=hl
  refine Ev.neg (by simp) ?_
  refine Ev.bindc (show slices_Insert_int_int.f B (P.length:Int) [(t:Int)] = some (P ++ (t:Int) :: Q) from ?_) (Ev.now _)
  unfold slices_Insert_int_int.f
  rw [if_pos ⟨by omega,by omega,by simp,by simp;omega⟩,Int.toNat_natCast,s.all]
  simp
theorem marked_ev {t:Int} (s:Spl B t P Q b) (hB:B.length ≤ 4000):Ev (fun k => hinterlandref06_marked.f k K B t) b := by
 unfold hinterlandref06_marked.f
 have good:∀ i,i < B.length → (¬ B.getD i 0 = t) → ∀ r,Ev (fun k=>hinterlandref06_marked.l0 k t B (B.length:Int) ((i:Int) + 1)) r → Ev (fun k=>hinterlandref06_marked.l0 k t B (B.length:Int) (i:Int)) r:=by
  intro i hi hp r hr
  refine Ev.step (fun k=>by simp only [hinterlandref06_marked.l0];rfl) (Ev.pos (by omega) (Ev.pos (by omega) (Ev.pos (by omega) ?_)))
  rw [rdN,wrap_in (x:=(i:Int) + 1) (by omega) (by omega)]
  exact Ev.neg hp hr
 have bad:∀ i,i < B.length → ¬ ¬ B.getD i 0 = t → Ev (fun k=>hinterlandref06_marked.l0 k t B (B.length:Int) (i:Int)) true:=by
  intro i hi hp
  refine Ev.step (fun k=>by simp only [hinterlandref06_marked.l0];rfl) (Ev.pos (by omega) (Ev.pos (by omega) (Ev.pos (by omega) ?_)))
  rw [rdN]
  exact Ev.pos (Classical.not_not.1 hp) (Ev.now _)
 have hl:B.length = P.length + (if b = true then t :: Q else Q).length:=by rw [s.all,List.length_append]
 cases b with
 | true =>
  refine Ev.scan_some (g:=fun k i=>hinterlandref06_marked.l0 k t B (B.length:Int) i) good bad B.length 0 (by omega) ⟨P.length,Nat.zero_le _,?_,fun q=>q ?_⟩
  ·have:B.length = P.length + (Q.length + 1):=hl
   omega
  ·rw [s.all,app_hi (Nat.le_refl _),Nat.sub_self];rfl
 | false =>
  refine Ev.scan_all (g:=fun k i=>hinterlandref06_marked.l0 k t B (B.length:Int) i) (Ev.step (fun k=>by simp only [hinterlandref06_marked.l0];rfl) (Ev.neg (by omega) (Ev.now _))) good B.length 0 (by omega) (fun j _ hj e=>?_)
  have hm:=at_mem hj
  rw [e,s.all] at hm
  rcases List.mem_append.1 hm with q | q
  ·exact absurd (s.lo _ q) (by omega)
  ·exact absurd (s.hi _ q) (by omega)
theorem j1f {t x:Int} {L O:List Int} {i:Nat} {put:Bool} {r:List Int × List Int × Int} (hi:i < L.length) (hL:L.length ≤ 4000) (hO:O.length ≤ 8000) (h1:x = t → Ev (fun k => hinterlandref06_Mark.l0 k t put L (L.length:Int) ((i + 1:Nat):Int) K O) r) (h2:¬ x = t → Ev (fun k => hinterlandref06_Mark.l0 k t put L (L.length:Int) ((i + 1:Nat):Int) K (O ++ [x])) r) :
  Ev (fun k=>hinterlandref06_Mark.j1 k t put x L (L.length:Int) (i:Int) false K O) r:=by
 have w1:wrap64 ((i:Int) + 1) = ((i + 1:Nat):Int):=by rw [wrap_in (by omega) (by omega)];omega
 refine Ev.step (fun k=>by simp only [hinterlandref06_Mark.j1];rfl) (Ev.neg Bool.false_ne_true ?_)
 rw [w1]
 by_cases c:x = t
 ·exact Ev.pos c (h1 c)
 ·exact Ev.neg c (Ev.pos (by omega) (h2 c))
theorem j1t {t x:Int} {L O:List Int} {i:Nat} {put:Bool} {r:List Int × List Int × Int} (hi:i < L.length) (hL:L.length ≤ 4000) (hO:O.length ≤ 8000) (c:¬ x = t) (h2:Ev (fun k => hinterlandref06_Mark.l0 k t false L (L.length:Int) ((i + 1:Nat):Int) K (O ++ [t] ++ [x])) r) :
  Ev (fun k=>hinterlandref06_Mark.j1 k t put x L (L.length:Int) (i:Int) true K O) r:=by
 have w1:wrap64 ((i:Int) + 1) = ((i + 1:Nat):Int):=by rw [wrap_in (by omega) (by omega)];omega
 refine Ev.step (fun k=>by simp only [hinterlandref06_Mark.j1];rfl) (Ev.pos (show true = true from rfl) (Ev.pos (by omega) (Ev.bindc rfl ?_)))
 rw [w1]
 exact Ev.neg c (Ev.pos (by simp;omega) h2)
theorem rloop0 {t:Int} {L:List Int} (hL:L.length ≤ 4000):∀ (R:List Int) (i:Nat) (O:List Int),i + R.length = L.length → L.drop i = R → O.length ≤ 4001 + i →
  Ev (fun k=>hinterlandref06_Mark.l0 k t false L (L.length:Int) (i:Int) K O) (K,O ++ R.filter (fun x=>x != t),0)
 | [],i,O,e,ed,hO=>by
  have e':i = L.length:=by simpa using e
  exact Ev.step (fun k=>by simp only [hinterlandref06_Mark.l0];rfl) (Ev.neg (by omega) (Ev.neg Bool.false_ne_true (Ev.const (by simp))))
 | x :: R,i,O,e,ed,hO=>by
  have el:i + (R.length + 1) = L.length:=e
  have hi:i < L.length:=by omega
  have hd:=drop_at (B:=L) (i:=i) hi
  rw [hd] at ed
  obtain ⟨hx,hR⟩:=List.cons.inj ed
  refine Ev.step (fun k=>by simp only [hinterlandref06_Mark.l0];rfl) (Ev.pos (by omega) (Ev.pos (by omega) (Ev.pos (by omega) (Ev.neg Bool.false_ne_true ?_))))
  rw [rdN,hx]
  refine j1f hi hL (by omega) (fun c=>?_) (fun c=>?_)
  ·refine Ev.eq (rloop0 hL R (i + 1) O (by omega) hR (by omega)) ?_
   simp [c]
  ·refine Ev.eq (rloop0 hL R (i + 1) (O ++ [x]) (by omega) hR (by simp;omega)) ?_
   have:(x != t) = true:=by simpa using c
   simp [this]
theorem rloop1 {t:Int} {L Q:List Int} (hL:L.length ≤ 4000) (hq:∀ x ∈ Q,t < x):∀ (P:List Int) (i:Nat) (O:List Int),i + (P.length + Q.length) = L.length → L.drop i = P ++ Q → (∀ x ∈ P,x < t) → O.length ≤ 4000 + i →
  Ev (fun k=>hinterlandref06_Mark.l0 k t true L (L.length:Int) (i:Int) K O) (K,O ++ P ++ t :: Q,0)
 | [],i,O,e,ed,hp,hO=>by
  cases Q with
  | nil =>
   have e':i = L.length:=by simpa using e
   exact Ev.step (fun k=>by simp only [hinterlandref06_Mark.l0];rfl) (Ev.neg (by omega) (Ev.pos (show true = true from rfl) (Ev.pos (by omega) (Ev.const (by simp)))))
  | cons x R =>
   have el:i + (R.length + 1) = L.length:=by simpa using e
   have hi:i < L.length:=by omega
   have hd:=drop_at (B:=L) (i:=i) hi
   rw [hd] at ed
   obtain ⟨hx,hR⟩:=List.cons.inj ed
   have hxt:t < x:=hq x (List.mem_cons_self ..)
   refine Ev.step (fun k=>by simp only [hinterlandref06_Mark.l0];rfl) (Ev.pos (by omega) (Ev.pos (by omega) (Ev.pos (by omega) (Ev.pos (show true = true from rfl) ?_))))
   rw [rdN,hx,decide_eq_true (show x > t from hxt)]
   refine j1t hi hL (by omega) (by omega) (Ev.eq (rloop0 hL R (i + 1) (O ++ [t] ++ [x]) (by omega) hR (by simp;omega)) ?_)
   have:R.filter (fun x=>x != t) = R:=List.filter_eq_self.2 (fun y hy=>by
    have:=hq y (List.mem_cons_of_mem _ hy)
    rw [bne_iff_ne];omega)
   rw [this]
   simp
 | x :: P,i,O,e,ed,hp,hO=>by
  have el:i + (P.length + 1 + Q.length) = L.length:=e
  have hi:i < L.length:=by omega
  have hd:=drop_at (B:=L) (i:=i) hi
  rw [hd] at ed
  obtain ⟨hx,hR⟩:=List.cons.inj ed
  have hxt:x < t:=hp x (List.mem_cons_self ..)
  refine Ev.step (fun k=>by simp only [hinterlandref06_Mark.l0];rfl) (Ev.pos (by omega) (Ev.pos (by omega) (Ev.pos (by omega) (Ev.pos (show true = true from rfl) ?_))))
  rw [rdN,hx,decide_eq_false (show ¬ x > t by omega)]
  refine j1f hi hL (by omega) (fun c=>absurd c (by omega)) (fun c=>?_)
  refine Ev.eq (rloop1 hL hq P (i + 1) (O ++ [x]) (by omega) hR (fun y hy=>hp y (List.mem_cons_of_mem _ hy)) (by simp;omega)) ?_
  simp
theorem rmark_ev (U:Waters w h C K B) (hC:C.length ≤ 4000) (hK:K.length ≤ 4000) (hB:B.length ≤ 4000) {t:Nat} (ht:t < w * h) (s:Spl B (t:Int) P Q b):Ev (fun k => hinterlandref06_Mark.f k (w:Int) (h:Int) C K B (t:Int)) (if wet w C K t = true then (K,Spl.out (t:Int) P Q b,0) else noW 9) := by
 unfold hinterlandref06_Mark.f
 have e:=of_acode U ht
 have hKl:=U.len
 refine Ev.bind (place_ev hC hB) (Ev.pos e (Ev.bind (ref_wet_ev U.land ht hKl (U.kinds _ (Nat.zero_le _) (by omega)) (U.may _ (Nat.zero_le _) (by omega))) ?_))
 by_cases hw:wet w C K t = true
 rotate_left
 ·exact Ev.eq (Ev.neg hw (Ev.now _)) (if_neg hw).symm
 refine Ev.eq (Ev.pos hw (Ev.pos (by simp;omega) (Ev.bind (marked_ev (K:=K) s hB) ?_))) (if_pos hw).symm
 rw [List.nil_append]
 cases b with
 | true =>
  refine Ev.eq (rloop0 hB B 0 [] (by omega) rfl (by simp)) ?_
  unfold Spl.out
  rw [List.nil_append,s.all]
  have f1:P.filter (fun x=>x != (t:Int)) = P:=List.filter_eq_self.2 (fun y hy=>by
   have:=s.lo y hy
   rw [bne_iff_ne];omega)
  have f2:Q.filter (fun x=>x != (t:Int)) = Q:=List.filter_eq_self.2 (fun y hy=>by
   have:=s.hi y hy
   rw [bne_iff_ne];omega)
  simp [List.filter_append,f1,f2]
 | false =>
  have al:B = P ++ Q:=s.all
  refine Ev.eq (rloop1 hB s.hi P 0 [] (by rw [al,List.length_append];omega) al s.lo (by simp)) ?_
  unfold Spl.out
  simp
end
section
variable {W H : Int} {C K B : List Int} {t : Int}
theorem mark_bad (hC:C.length ≤ 4000) (hB:B.length ≤ 4000) (e:¬ acode W H C K B t = 0):Ev (fun k => water_Mark.f k W H C K B t) (noW (acode W H C K B t)) := by
 unfold water_Mark.f
 refine Ev.bind (at_ev hC hB) ?_
 by_cases l:lcode W H C = 0
 ·simp only [if_pos l];exact Ev.neg e (Ev.now _)
 ·simp only [if_neg l];exact Ev.neg e (Ev.now _)
theorem rmark_bad (hC:C.length ≤ 4000) (hB:B.length ≤ 4000) (e:¬ acode W H C K B t = 0):Ev (fun k => hinterlandref06_Mark.f k W H C K B t) (noW (acode W H C K B t)) := by
 unfold hinterlandref06_Mark.f
 exact Ev.bind (place_ev hC hB) (Ev.neg e (Ev.now _))
end
theorem none_bad {W H:Int} {C:List Int} {t:Int}:¬ acode W H C [] [] t = 0 := by
 intro e
 obtain ⟨w,h,n,_,_,_,hn,U⟩:=acode_zero e
 have h1:=U.len
 have h2:4 * 4 ≤ w * h:=Nat.mul_le_mul U.land.w0 U.land.h0
 simp only [List.length_nil] at h1
 omega
theorem buoys_len {w h:Nat} {C K B:List Int} (U:Waters w h C K B):B.length ≤ w * h := by
 have ge:∀ j,j < B.length → (j:Int) ≤ B.getD j 0:=by
  intro j
  induction j with
  | zero=>intro hj;exact (U.inB 0 (Nat.le_refl _) hj).1
  | succ j ih =>
   intro hj
   have h1:=ih (by omega)
   have h2:=U.inc (j + 1) (by omega) (by omega)
   unfold IncAt at h2
   rw [Nat.add_sub_cancel] at h2
   omega
 by_cases c:B.length = 0
 ·omega
 have h1:=ge (B.length - 1) (by omega)
 have h2:=(U.inB (B.length - 1) (Nat.zero_le _) (by omega)).2
 omega
theorem out_len {B P Q:List Int} {t:Int} {b:Bool} (s:Spl B t P Q b):(Spl.out t P Q b).length ≤ B.length + 1 := by
 rw [s.all]
 unfold Spl.out
 cases b
 ·simp;omega
 ·simp;omega
theorem WaterMarks:hinterlandlaw06_WaterMarks.Pure := by
 intro W H C K B t _ _ _ _ _ _
 refine Ev.rounds ?_
 unfold hinterlandlaw06_WaterMarks.f
 refine Ev.bindc (large_eq _ _ _ _ _) ?_
 by_cases hfar:(C.length:Int) > 4000 ∨ (K.length:Int) > 4000 ∨ (B.length:Int) > 4000
 ·exact Ev.pos (decide_eq_true hfar) known_then
 refine Ev.neg (fun h=>hfar (of_decide_eq_true h)) ?_
 have hC:C.length ≤ 4000:=by omega
 have hK:K.length ≤ 4000:=by omega
 have hB:B.length ≤ 4000:=by omega
 have bad:∀ c:Int,¬ c = 0 → Ev (fun k=>hinterlandlaw06_WaterMarks.j0 k t c (!true) W H C K B [] []) true:=by
  intro c hc
  exact Ev.step (fun k=>by simp only [hinterlandlaw06_WaterMarks.j0];rfl) (Ev.neg (by simp) (Ev.bind (mark_bad (K:=[]) (B:=[]) hC (by simp) none_bad) (Ev.neg hc known_then)))
 by_cases e:acode W H C K B t = 0
 rotate_left
 ·exact Ev.bind (mark_bad hC hB e) (Ev.bind (rmark_bad hC hB e) (Ev.pos rfl (Ev.bind (same_waters_ev [] [] (by simp) (by simp)) (bad _ e))))
 obtain ⟨w,h,n,rfl,rfl,rfl,hn,U⟩:=acode_zero e
 have hwh:w * h ≤ 32 * 32:=mulle U.land.w1 U.land.h1
 obtain ⟨P,Q,b,s⟩:=spl_ex (n:Int) B (inc_pw.1 U.inc)
 refine Ev.bind (mark_ev U hC hK hB hB hn s) (Ev.bind (rmark_ev U hC hK hB hn s) ?_)
 by_cases hw:wet w C K n = true
 rotate_left
 ·rw [if_neg hw]
  exact Ev.pos rfl (Ev.bind (same_waters_ev [] [] (by simp) (by simp)) (bad 9 (by decide)))
 rw [if_pos hw]
 have bl:=buoys_len U
 have ol:=out_len s
 have hO:(Spl.out (n:Int) P Q b).length ≤ 4000:=by omega
 refine Ev.pos rfl (Ev.bind (same_waters_ev K (Spl.out (n:Int) P Q b) (by omega) (by omega)) ?_)
 have m2:=mark_ev (buoys U hn hw s) hC hK hO hO hn s.turn.1
 rw [if_pos hw,s.turn.2] at m2
 exact Ev.step (fun k=>by simp only [hinterlandlaw06_WaterMarks.j0];rfl) (Ev.neg (by simp) (Ev.bind m2 (Ev.pos trivial (Ev.pos rfl (Ev.bind (same_waters_ev K B (by omega) (by omega)) (Ev.pos rfl known_then))))))

end Go.Proofs.Ytiencnnkphipoaa.Pure
