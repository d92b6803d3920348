/- What the functions of layer 11 (towns) come to, in plain words: which towns are right, and towns that are alike. No conditions. -/
import Derived.Test.YtbdijpjlgokfkaaPx0
import Derived.Test.YtbdijpjlgokfkaaPx2
import Derived.Test.YtbdijpjlgokfkaaPx3
import Derived.Test.YtbdijpjlgokfkaaPx4
import Derived.Test.YtbdijpjlgokfkaaPx5
import Derived.Test.YtbdijpjlgokfkaaEvKit
import Derived.Test.YtbdijpjlgokfkaaVOpen
namespace Go.Proofs.Ytbdijpjlgokfkaa.Pure
set_option linter.unusedVariables false
set_option linter.unusedSimpArgs false
open Go.RowKit Go.Proofs.YtbdijpjlgokfkaaW.PrintWords Go.Proofs.Ytbdijpjlgokfkaa.P Go.Proofs.Ytbdijpjlgokfkaa

theorem within_eq (a b:Int):town_within.f a b=some (decide (0≤a∧a≤b)):=by
 unfold town_within.f
 by_cases h:a≥0
 ·rw [if_pos h];congr 1;apply decide_eq_decide.2;omega
 ·rw [if_neg h];congr 1;symm;apply decide_eq_false;omega
theorem out_eq (a b:Int):h09_Out.f a b=some (decide (¬ (0≤a∧a≤b))):=by
 unfold h09_Out.f
 by_cases h:a<0
 ·rw [if_pos h];congr 1;symm;apply decide_eq_true;omega
 ·rw [if_neg h];congr 1;apply decide_eq_decide.2;omega

theorem rdN (l:List Int) (i:Nat):rd l (i:Int)=l.getD i 0:=by unfold rd;simp
theorem rdH (l:List S68) (i:Nat):rd_T68 l (i:Int)=l.getD i z68:=by unfold rd_T68;simp
theorem not_all {p:Nat→Prop} {n:Nat} (h:¬ ∀ j,0≤j→j<n→p j):∃ j,0≤j∧j<n∧¬ p j:=by
 apply Classical.byContradiction
 intro hc
 exact h fun j h1 h2=>Classical.byContradiction fun h3=>hc ⟨j,h1,h2,h3⟩

def MoodAt (M:List Int) (j:Nat):Prop := -1000≤M.getD j 0∧M.getD j 0≤1000
def Moods (M:List Int):Prop:=(∀ j,0≤j→j<M.length→MoodAt M j)∧M.length=12
open Classical in
theorem moods_ev (M:List Int) (hl:M.length≤9223372036854775807):Ev (fun k=>town_moods.f k M) (decide (Moods M)):=by
 unfold town_moods.f
 have hgood:∀ i,i<M.length→MoodAt M i→∀ r,Ev (fun k=>town_moods.l0 k M M (M.length:Int) ((i:Int)+1)) r→Ev (fun k=>town_moods.l0 k M M (M.length:Int) (i:Int)) r:=by
  intro i hi hp r hr
  unfold MoodAt at hp
  refine Ev.step (fun k=>by simp only [town_moods.l0];rfl) ?_
  refine Ev.pos (by omega) (Ev.pos (by omega) (Ev.pos (by omega) ?_))
  rw [rdN,wrap_in (by omega) (by omega)]
  exact Ev.neg (by omega) (Ev.neg (by omega) hr)
 have hbad:∀ i,i<M.length→¬ MoodAt M i→Ev (fun k=>town_moods.l0 k M M (M.length:Int) (i:Int)) false:=by
  intro i hi hp
  unfold MoodAt at hp
  refine Ev.step (fun k=>by simp only [town_moods.l0];rfl) ?_
  refine Ev.pos (by omega) (Ev.pos (by omega) (Ev.pos (by omega) ?_))
  rw [rdN]
  by_cases h0:M.getD i 0 < -1000
  ·exact Ev.pos h0 (Ev.now _)
  ·exact Ev.neg h0 (Ev.pos (by omega) (Ev.now _))
 have hend:Ev (fun k=>town_moods.l0 k M M (M.length:Int) (M.length:Int)) ((M.length:Int) == 12):=by
  refine Ev.step (fun k=>by simp only [town_moods.l0];rfl) ?_
  exact Ev.neg (by omega) (Ev.now _)
 by_cases H:∀ j,0≤j→j<M.length→MoodAt M j
 ·refine Ev.eq (Ev.scan_all (g:=fun k i=>town_moods.l0 k M M (M.length:Int) i) hend hgood M.length 0 (by omega) H) ?_
  by_cases h12:M.length=12
  ·rw [decide_eq_true (show Moods M from ⟨H,h12⟩),h12];rfl
  ·rw [decide_eq_false (fun h:Moods M=>h12 h.2)]
   exact beq_eq_false_iff_ne.2 (by omega)
 ·refine Ev.eq (Ev.scan_some (g:=fun k i=>town_moods.l0 k M M (M.length:Int) i) hgood hbad M.length 0 (by omega) (not_all H)) ?_
  rw [decide_eq_false (fun h:Moods M=>H h.1)]
open Classical in
theorem ref_moods_ev (a:Int) (H0:List S68) (M:List Int) (b c:Int):Ev (fun k=>h11_moods.f k a H0 M b c) (decide (Moods M)):=by
 unfold h11_moods.f
 by_cases h12:M.length=12
 rotate_left
 ·rw [decide_eq_false (fun h:Moods M=>h12 h.2)]
  exact Ev.neg (by omega) (Ev.now _)
 refine Ev.pos (by omega) ?_
 have hgood:∀ i,i<M.length→MoodAt M i→∀ r,Ev (fun k=>h11_moods.l0 k ((i:Int)+1) a H0 M b c) r→Ev (fun k=>h11_moods.l0 k (i:Int) a H0 M b c) r:=by
  intro i hi hp r hr
  unfold MoodAt at hp
  refine Ev.step (fun k=>by simp only [h11_moods.l0];rfl) ?_
  refine Ev.pos (by omega) (Ev.pos (by omega) ?_)
  rw [rdN,wrap_in (by omega) (by omega)]
  exact Ev.neg (by omega) (Ev.neg (by omega) hr)
 have hbad:∀ i,i<M.length→¬ MoodAt M i→Ev (fun k=>h11_moods.l0 k (i:Int) a H0 M b c) false:=by
  intro i hi hp
  unfold MoodAt at hp
  refine Ev.step (fun k=>by simp only [h11_moods.l0];rfl) ?_
  refine Ev.pos (by omega) (Ev.pos (by omega) ?_)
  rw [rdN]
  by_cases h0:M.getD i 0 < -1000
  ·exact Ev.pos h0 (Ev.now _)
  ·exact Ev.neg h0 (Ev.pos (by omega) (Ev.now _))
 have hend:Ev (fun k=>h11_moods.l0 k (M.length:Int) a H0 M b c) true:=by
  refine Ev.step (fun k=>by simp only [h11_moods.l0];rfl) ?_
  exact Ev.neg (by omega) (Ev.now _)
 by_cases H:∀ j,0≤j→j<M.length→MoodAt M j
 ·rw [decide_eq_true (show Moods M from ⟨H,h12⟩)]
  exact Ev.scan_all (g:=fun k i=>h11_moods.l0 k i a H0 M b c) hend hgood M.length 0 (by omega) H
 ·rw [decide_eq_false (fun h:Moods M=>H h.1)]
  exact Ev.scan_some (g:=fun k i=>h11_moods.l0 k i a H0 M b c) hgood hbad M.length 0 (by omega) (not_all H)

def HouseAt (H:List S68) (j:Nat):Prop :=
 (0≤(H.getD j z68).f0∧(H.getD j z68).f0≤1000000)∧(0≤(H.getD j z68).f2∧(H.getD j z68).f2≤100000)∧(0<j→(H.getD (j - 1) z68).f0<(H.getD j z68).f0)
def Fields (tile:Int) (M:List Int) (mv du:Int):Prop:=(0≤tile∧tile≤1000000)∧Moods M∧(0≤mv∧mv≤1000000)∧(0≤du∧du≤1000000)
def Houses (H:List S68):Prop:=∀ j,0≤j→j<H.length→HouseAt H j
open Classical in
noncomputable def tcode (tile:Int) (H:List S68) (M:List Int) (mv du:Int):Int:=if H.length > 200 then 4 else if Fields tile M mv du then (if Houses H then 0 else 1) else 1
theorem tcode_zero {tile:Int} {H:List S68} {M:List Int} {mv du:Int}:tcode tile H M mv du=0↔H.length≤200∧Fields tile M mv du∧Houses H:=by
 unfold tcode
 by_cases h:H.length > 200
 ·rw [if_pos h];constructor <;> intro h' <;> omega
 ·rw [if_neg h]
  by_cases h1:Fields tile M mv du
  ·rw [if_pos h1]
   by_cases h2:Houses H
   ·simp [h1,h2];omega
   ·simp [h2]
  ·simp [h1]
theorem prev_at (i:Nat) (hi:0<i):wrap64 ((i:Int) - 1)=((i - 1:Nat):Int)∨9223372036854775807<(i:Int):=by
 by_cases h:(i:Int)≤9223372036854775807
 ·exact .inl (by rw [wrap_in (by omega) (by omega)];omega)
 ·exact .inr (by omega)

open Classical in
theorem sound_ev (tile:Int) (H:List S68) (M:List Int) (mv du:Int) (hl:M.length≤9223372036854775807):Ev (fun k=>town_sound.f k tile H M mv du) (tcode tile H M mv du):=by
 unfold town_sound.f tcode
 by_cases h:H.length > 200
 ·rw [if_pos h];exact Ev.pos (by omega) (Ev.now _)
 rw [if_neg h]
 refine Ev.neg (by omega) ?_
 have out:Ev (fun k=>town_sound.j0 k true tile H M mv du) 1:=by
  refine Ev.step (fun k=>by simp only [town_sound.j0];rfl) ?_
  exact Ev.pos (by trivial) (Ev.now _)
 refine Ev.bindc (within_eq _ _) ?_
 by_cases h1:0≤tile∧tile≤1000000
 rotate_left
 ·rw [if_neg (fun h:Fields tile M mv du=>h1 h.1)]
  exact Ev.neg (fun h=>h1 (of_decide_eq_true h)) out
 refine Ev.pos (decide_eq_true h1) (Ev.bind (moods_ev M hl) ?_)
 by_cases h2:Moods M
 rotate_left
 ·rw [if_neg (fun h:Fields tile M mv du=>h2 h.2.1)]
  exact Ev.neg (fun h=>h2 (of_decide_eq_true h)) out
 refine Ev.pos (decide_eq_true h2) (Ev.bindc (within_eq _ _) ?_)
 by_cases h3:0≤mv∧mv≤1000000
 rotate_left
 ·rw [if_neg (fun h:Fields tile M mv du=>h3 h.2.2.1)]
  exact Ev.neg (fun h=>h3 (of_decide_eq_true h)) out
 refine Ev.pos (decide_eq_true h3) (Ev.bindc (within_eq _ _) ?_)
 by_cases h4:0≤du∧du≤1000000
 rotate_left
 ·rw [if_neg (fun h:Fields tile M mv du=>h4 h.2.2.2),decide_eq_false h4]
  exact out
 rw [if_pos (show Fields tile M mv du from ⟨h1,h2,h3,h4⟩),decide_eq_true h4]
 refine Ev.step (fun k=>by simp only [town_sound.j0];rfl) ?_
 refine Ev.neg (by simp) ?_
 have hgood:∀ i,i<H.length→HouseAt H i→∀ r,Ev (fun k=>town_sound.l0 k H (H.length:Int) ((i:Int)+1) tile H M mv du) r→Ev (fun k=>town_sound.l0 k H (H.length:Int) (i:Int) tile H M mv du) r:=by
  intro i hi hp r hr
  obtain ⟨p1,p2,p3⟩:=hp
  refine Ev.step (fun k=>by simp only [town_sound.l0];rfl) ?_
  refine Ev.pos (by omega) (Ev.pos (by omega) (Ev.pos (by omega) ?_))
  rw [rdH,wrap_in (x:=(i:Int)+1) (by omega) (by omega)]
  refine Ev.bindc (within_eq _ _) (Ev.pos (decide_eq_true p1) (Ev.bindc (within_eq _ _) (Ev.pos (decide_eq_true p2) ?_)))
  by_cases hi0:0<i
  ·refine Ev.pos (by omega) ?_
   rw [(prev_at i hi0).resolve_right (by omega),rdH]
   exact Ev.pos (by omega) (Ev.pos (by omega) (Ev.neg (by have:=p3 hi0;omega) hr))
  ·exact Ev.neg (by omega) hr
 have hbad:∀ i,i<H.length→¬ HouseAt H i→Ev (fun k=>town_sound.l0 k H (H.length:Int) (i:Int) tile H M mv du) 1:=by
  intro i hi hp
  refine Ev.step (fun k=>by simp only [town_sound.l0];rfl) ?_
  refine Ev.pos (by omega) (Ev.pos (by omega) (Ev.pos (by omega) ?_))
  rw [rdH]
  refine Ev.bindc (within_eq _ _) ?_
  by_cases p1:0≤(H.getD i z68).f0∧(H.getD i z68).f0≤1000000
  rotate_left
  ·exact Ev.neg (fun h=>p1 (of_decide_eq_true h)) (Ev.now _)
  refine Ev.pos (decide_eq_true p1) (Ev.bindc (within_eq _ _) ?_)
  by_cases p2:0≤(H.getD i z68).f2∧(H.getD i z68).f2≤100000
  rotate_left
  ·exact Ev.neg (fun h=>p2 (of_decide_eq_true h)) (Ev.now _)
  refine Ev.pos (decide_eq_true p2) ?_
  have p3:0<i∧¬ (H.getD (i - 1) z68).f0<(H.getD i z68).f0:=by
   apply Classical.byContradiction
   intro hc
   exact hp ⟨p1,p2,fun h0=>Classical.byContradiction fun hn=>hc ⟨h0,hn⟩⟩
  refine Ev.pos (by omega) ?_
  rw [(prev_at i p3.1).resolve_right (by omega),rdH]
  exact Ev.pos (by omega) (Ev.pos (by omega) (Ev.pos (by have:=p3.2;omega) (Ev.now _)))
 have hend:Ev (fun k=>town_sound.l0 k H (H.length:Int) (H.length:Int) tile H M mv du) 0:=by
  refine Ev.step (fun k=>by simp only [town_sound.l0];rfl) ?_
  exact Ev.neg (by omega) (Ev.now _)
 by_cases HH:Houses H
 ·rw [if_pos HH]
  exact Ev.scan_all (g:=fun k i=>town_sound.l0 k H (H.length:Int) i tile H M mv du) hend hgood H.length 0 (by omega) HH
 ·rw [if_neg HH]
  exact Ev.scan_some (g:=fun k i=>town_sound.l0 k H (H.length:Int) i tile H M mv du) hgood hbad H.length 0 (by omega) (not_all HH)
open Classical in
theorem fields_ev (tile:Int) (H:List S68) (M:List Int) (mv du:Int):Ev (fun k=>h11_fields.f k tile H M mv du) (tcode tile H M mv du):=by
 unfold h11_fields.f tcode
 by_cases h:H.length > 200
 ·rw [if_pos h];exact Ev.pos (by omega) (Ev.now _)
 rw [if_neg h]
 refine Ev.neg (by omega) ?_
 have out:Ev (fun k=>h11_fields.j0 k true tile H M mv du) 1:=by
  refine Ev.step (fun k=>by simp only [h11_fields.j0];rfl) ?_
  exact Ev.pos (by trivial) (Ev.now _)
 refine Ev.bindc (out_eq _ _) ?_
 by_cases h1:0≤tile∧tile≤1000000
 rotate_left
 ·rw [if_neg (fun h:Fields tile M mv du=>h1 h.1)]
  exact Ev.pos (decide_eq_true h1) out
 refine Ev.neg (fun h=>(of_decide_eq_true h) h1) (Ev.bind (ref_moods_ev tile H M mv du) ?_)
 by_cases h2:Moods M
 rotate_left
 ·rw [if_neg (fun h:Fields tile M mv du=>h2 h.2.1)]
  exact Ev.neg (fun h=>h2 (of_decide_eq_true h)) out
 refine Ev.pos (decide_eq_true h2) (Ev.bindc (out_eq _ _) ?_)
 by_cases h3:0≤mv∧mv≤1000000
 rotate_left
 ·rw [if_neg (fun h:Fields tile M mv du=>h3 h.2.2.1)]
  exact Ev.pos (decide_eq_true h3) out
 refine Ev.neg (fun h=>(of_decide_eq_true h) h3) (Ev.bindc (out_eq _ _) ?_)
 by_cases h4:0≤du∧du≤1000000
 rotate_left
 ·rw [if_neg (fun h:Fields tile M mv du=>h4 h.2.2.2),show decide (¬ (0≤du∧du≤1000000))=true from decide_eq_true h4]
  exact out
 rw [if_pos (show Fields tile M mv du from ⟨h1,h2,h3,h4⟩),show decide (¬ (0≤du∧du≤1000000))=false from decide_eq_false (fun h=>h h4)]
 refine Ev.step (fun k=>by simp only [h11_fields.j0];rfl) ?_
 refine Ev.neg (by simp) ?_
 have hgood:∀ i,i<H.length→HouseAt H i→∀ r,Ev (fun k=>h11_fields.l0 k ((i:Int)+1) tile H M mv du) r→Ev (fun k=>h11_fields.l0 k (i:Int) tile H M mv du) r:=by
  intro i hi hp r hr
  obtain ⟨p1,p2,p3⟩:=hp
  refine Ev.step (fun k=>by simp only [h11_fields.l0];rfl) ?_
  refine Ev.pos (by omega) (Ev.pos (by omega) ?_)
  rw [rdH,wrap_in (x:=(i:Int)+1) (by omega) (by omega)]
  refine Ev.bindc (out_eq _ _) (Ev.neg (fun h=>(of_decide_eq_true h) p1) (Ev.bindc (out_eq _ _) (Ev.neg (fun h=>(of_decide_eq_true h) p2) ?_)))
  by_cases hi0:0<i
  ·refine Ev.pos (by omega) ?_
   rw [(prev_at i hi0).resolve_right (by omega),rdH]
   exact Ev.pos (by omega) (Ev.pos (by omega) (Ev.neg (by have:=p3 hi0;omega) hr))
  ·exact Ev.neg (by omega) hr
 have hbad:∀ i,i<H.length→¬ HouseAt H i→Ev (fun k=>h11_fields.l0 k (i:Int) tile H M mv du) 1:=by
  intro i hi hp
  refine Ev.step (fun k=>by simp only [h11_fields.l0];rfl) ?_
  refine Ev.pos (by omega) (Ev.pos (by omega) ?_)
  rw [rdH]
  refine Ev.bindc (out_eq _ _) ?_
  by_cases p1:0≤(H.getD i z68).f0∧(H.getD i z68).f0≤1000000
  rotate_left
  ·exact Ev.pos (decide_eq_true p1) (Ev.now _)
  refine Ev.neg (fun h=>(of_decide_eq_true h) p1) (Ev.bindc (out_eq _ _) ?_)
  by_cases p2:0≤(H.getD i z68).f2∧(H.getD i z68).f2≤100000
  rotate_left
  ·exact Ev.pos (decide_eq_true p2) (Ev.now _)
  refine Ev.neg (fun h=>(of_decide_eq_true h) p2) ?_
  have p3:0<i∧¬ (H.getD (i - 1) z68).f0<(H.getD i z68).f0:=by
   apply Classical.byContradiction
   intro hc
   exact hp ⟨p1,p2,fun h0=>Classical.byContradiction fun hn=>hc ⟨h0,hn⟩⟩
  refine Ev.pos (by omega) ?_
  rw [(prev_at i p3.1).resolve_right (by omega),rdH]
  exact Ev.pos (by omega) (Ev.pos (by omega) (Ev.pos (by have:=p3.2;omega) (Ev.now _)))
 have hend:Ev (fun k=>h11_fields.l0 k (H.length:Int) tile H M mv du) 0:=by
  refine Ev.step (fun k=>by simp only [h11_fields.l0];rfl) ?_
  exact Ev.neg (by omega) (Ev.now _)
 by_cases HH:Houses H
 ·rw [if_pos HH]
  exact Ev.scan_all (g:=fun k i=>h11_fields.l0 k i tile H M mv du) hend hgood H.length 0 (by omega) HH
 ·rw [if_neg HH]
  exact Ev.scan_some (g:=fun k i=>h11_fields.l0 k i tile H M mv du) hgood hbad H.length 0 (by omega) (not_all HH)

theorem same_ints_ev (l:List Int) (hl:l.length≤9223372036854775807):Ev (fun k=>hs_List_int.f k l l) true:=by
 unfold hs_List_int.f
 refine Ev.pos (by trivial) ?_
 refine Ev.scan_all (g:=fun k i=>hs_List_int.l0 k l l i) (n:=l.length) (p:=fun _=>True) ?_ ?_ l.length 0 (by omega) (fun _ _ _=>trivial)
 ·refine Ev.step (fun k=>by simp only [hs_List_int.l0];rfl) ?_
  exact Ev.neg (by omega) (Ev.now _)
 ·intro i hi _ r hr
  refine Ev.step (fun k=>by simp only [hs_List_int.l0];rfl) ?_
  refine Ev.pos (by omega) (Ev.pos (by omega) (Ev.pos (by omega) (Ev.pos (by trivial) ?_)))
  rw [wrap_in (by omega) (by omega)]
  exact hr
theorem same_houses_ev (l:List S68) (hl:l.length≤9223372036854775807):Ev (fun k=>api_House_44.f k l l) true:=by
 unfold api_House_44.f
 refine Ev.pos (by trivial) ?_
 refine Ev.scan_all (g:=fun k i=>api_House_44.l0 k l l i) (n:=l.length) (p:=fun _=>True) ?_ ?_ l.length 0 (by omega) (fun _ _ _=>trivial)
 ·refine Ev.step (fun k=>by simp only [api_House_44.l0];rfl) ?_
  exact Ev.neg (by omega) (Ev.now _)
 ·intro i hi _ r hr
  refine Ev.step (fun k=>by simp only [api_House_44.l0];rfl) ?_
  refine Ev.pos (by omega) (Ev.pos (by omega) (Ev.pos (by omega) (Ev.neg (by simp) ?_)))
  rw [wrap_in (by omega) (by omega)]
  exact hr
theorem same_town_ev (a:Int) (H:List S68) (M:List Int) (b c:Int) (hH:H.length≤9223372036854775807) (hM:M.length≤9223372036854775807):Ev (fun k=>hs_Town.f k a H M b c a H M b c) true:=by
 unfold hs_Town.f
 exact Ev.pos (by trivial) (Ev.bind (same_houses_ev H hH) (Ev.pos (by trivial) (Ev.bind (same_ints_ev M hM) (Ev.pos (by trivial) (Ev.pos (by trivial) (Ev.const (by simp)))))))

theorem copied_eq {a:Int} {H:List S68} {M:List Int} {b c:Int} (hH:H.length≤200) (hM:M.length=12):town_copied.f a H M b c=some (a,H,M,b,c):=by
 unfold town_copied.f api_House_77.f sClo_int_int.f
 rw [if_pos (by omega),if_pos (by omega)]
 rfl
theorem Copy_eq {a:Int} {H:List S68} {M:List Int} {b c:Int} (hH:H.length≤200) (hM:M.length=12):h11_Copy.f a H M b c=some (a,H,M,b,c):=by
 unfold h11_Copy.f
 simp only [Option.bind_some,List.nil_append,List.length_nil,Nat.zero_add]
 rw [if_pos (by omega),if_pos (by omega)]

theorem known_ev:Ev (fun k=>w11_known.f k) true:=by
 refine Ev.of (fun k=>w11_known.mono k) (k:=40) ?_
 decide +kernel

theorem far_eq (l:List S80) (a:Int) (H:List S68) (M:List Int) (b c:Int):w11_far.f l a H M b c=some (decide ((l.length:Int) > 300∨(H.length:Int) > 600∨(M.length:Int) > 300)):=by
 unfold w11_far.f
 by_cases h1:(l.length:Int) > 300
 ·rw [if_pos h1,decide_eq_true (.inl h1)]
 ·rw [if_neg h1]
  by_cases h2:(H.length:Int) > 600
  ·rw [if_pos h2,decide_eq_true (.inr (.inl h2))]
  ·rw [if_neg h2];congr 1;apply decide_eq_decide.2;omega

theorem known_then:Ev (fun k=>(w11_known.f k).bind fun t=>some t) true:=Ev.bind known_ev (Ev.now _)

end Go.Proofs.Ytbdijpjlgokfkaa.Pure
