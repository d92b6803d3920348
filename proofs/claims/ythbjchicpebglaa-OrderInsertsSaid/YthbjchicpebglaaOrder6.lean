/- Layer 15: a list with an order more, as the reference builds it. No conditions. -/
import Derived.Test.YthbjchicpebglaaPx0
import Derived.Test.YthbjchicpebglaaPx6
import Derived.Test.YthbjchicpebglaaOrder4
namespace Go.Proofs.Ythbjchicpebglaa.Pure
set_option linter.unusedVariables false
set_option linter.unusedSimpArgs false
open Go.RowKit Go.Proofs.YthbjchicpebglaaW.PrintWords Go.Proofs.Ythbjchicpebglaa.P Go.Proofs.Ythbjchicpebglaa

def rb (l : List S33) (a : Nat) (o : S33) (i : Nat) : List S33 := if a < i then (l.map (ux a)).take a ++ [o] ++ ((l.map (ux a)).take i).drop a else (l.map (ux a)).take i
def rb2 (l : List S33) (a : Nat) (o : S33) (i : Nat) : List S33 := if i = a then rb l a o i ++ [o] else rb l a o i
theorem rb_len (l : List S33) (a : Nat) (o : S33) (i : Nat) : (rb l a o i).length ≤ l.length + 1 := by
 unfold rb
 split <;> simp <;> omega
theorem rb2_len (l : List S33) (a : Nat) (o : S33) (i : Nat) : (rb2 l a o i).length ≤ l.length + 2 := by
 unfold rb2
 have:=rb_len l a o i
 split <;> simp <;> omega
theorem rb_next {l : List S33} {a : Nat} (o : S33) {i : Nat} (ha : a ≤ l.length) (hi : i < l.length) : rb2 l a o i ++ [ux a (l.getD i z33)] = rb l a o (i + 1) := by
 have hm : i < (l.map (ux a)).length:=by simpa using hi
 have ht : (l.map (ux a)).take (i + 1) = (l.map (ux a)).take i ++ [ux a (l.getD i z33)]:=by
  rw [List.take_succ_eq_append_getElem hm,← map_at l a i hi,List.getD_eq_getElem?_getD,List.getElem?_eq_getElem hm];rfl
 have hl : ((l.map (ux a)).take i).length = i:=by rw [List.length_take,List.length_map];omega
 unfold rb2 rb
 rcases Nat.lt_trichotomy i a with h | h | h
 ·rw [if_neg (by omega),if_neg (by omega),if_neg (by omega),ht]
 ·subst h
  rw [if_pos rfl,if_neg (by omega),if_pos (by omega),ht,List.drop_append_of_le_length (by omega),List.drop_of_length_le (by omega),List.nil_append]
 ·rw [if_neg (by omega),if_pos h,if_pos (by omega),ht,List.drop_append_of_le_length (by omega),← List.append_assoc]
theorem rb_end {l : List S33} {a : Nat} (o : S33) (ha : a ≤ l.length) : rb2 l a o l.length = insd l a o := by
 unfold rb2 rb insd
 by_cases h : l.length = a
 ·rw [if_pos h,if_neg (by omega),List.drop_of_length_le (by simp;omega),List.append_nil,h]
 ·rw [if_neg h,if_pos (by omega),List.take_of_length_le (i:=l.length) (by simp)]
theorem ref_insert_ev (l : List S33) (a : Int) (o : S33) : Ev (fun k => hinterlandref15_Insert.f k l a o.f0 o.f1 o.f2 o.f3 o.f4 o.f5 o.f6 o.f7 o.f8) (insAns l a o) := by
 unfold hinterlandref15_Insert.f insAns
 refine Ev.bind (ref_validate_ev l) ?_
 by_cases hv : vcode l = 0
 rotate_left
 ·rw [if_neg hv];exact Ev.neg hv (Ev.now _)
 rw [if_pos hv]
 refine Ev.pos hv ?_
 have j0 : ∀ q,q = decide (¬ (0 ≤ a ∧ a ≤ (l.length : Int))) → Ev (fun k => hinterlandref15_Insert.j0 k l a q o.f0 o.f1 o.f2 o.f3 o.f4 o.f5 o.f6 o.f7 o.f8) (if 0 ≤ a ∧ a ≤ (l.length : Int) then (if l.length < 40 then (if vcode (insd l a.toNat o) = 0 then (insd l a.toNat o,0) else ([],vcode (insd l a.toNat o))) else ([],4)) else ([],2)):=by
  intro q hq
  refine Ev.step (fun k => by simp only [hinterlandref15_Insert.j0];rfl) ?_
  by_cases ha : 0 ≤ a ∧ a ≤ (l.length : Int)
  rotate_left
  ·rw [if_neg ha];exact Ev.pos (by rw [hq];exact decide_eq_true ha) (Ev.now _)
  rw [if_pos ha]
  refine Ev.neg (by rw [hq];simpa using ha) ?_
  by_cases h40 : l.length < 40
  rotate_left
  ·rw [if_neg h40];exact Ev.pos (by omega) (Ev.now _)
  rw [if_pos h40]
  refine Ev.neg (by omega) ?_
  obtain ⟨n,rfl⟩:=Int.eq_ofNat_of_zero_le ha.1
  rw [Int.toNat_natCast]
  obtain ⟨R,hR⟩ : ∃ R,R = (if vcode (insd l n o) = 0 then (insd l n o,0) else ([],vcode (insd l n o))):=⟨_,rfl⟩
  rw [← hR]
  have fin : Ev (fun k => hinterlandref15_Insert.l0 k l (n : Int) (insd l n o) ((l.length : Int) + 1) o.f0 o.f1 o.f2 o.f3 o.f4 o.f5 o.f6 o.f7 o.f8) R:=by
   refine Ev.step (fun k => by simp only [hinterlandref15_Insert.l0];rfl) (Ev.neg (by omega) (Ev.bind (ref_validate_ev _) ?_))
   rw [hR]
   by_cases hw : vcode (insd l n o) = 0
   ·exact Ev.pos hw (Ev.eq (Ev.now _) (if_pos hw).symm)
   ·exact Ev.neg hw (Ev.eq (Ev.now _) (if_neg hw).symm)
  have go : ∀ d i : Nat,i + d = l.length → Ev (fun k => hinterlandref15_Insert.l0 k l (n : Int) (rb l n o i) (i : Int) o.f0 o.f1 o.f2 o.f3 o.f4 o.f5 o.f6 o.f7 o.f8) R:=by
   intro d
   induction d with
   | zero =>
    intro i h
    obtain rfl : i = l.length:=by omega
    have j2 : Ev (fun k => hinterlandref15_Insert.j2 k l (n : Int) (rb2 l n o l.length) (l.length : Int) o.f0 o.f1 o.f2 o.f3 o.f4 o.f5 o.f6 o.f7 o.f8) R:=by
     refine Ev.step (fun k => by simp only [hinterlandref15_Insert.j2];rfl) (Ev.neg (by omega) ?_)
     rw [rb_end o (by omega),wrap_in (x:=(l.length : Int) + 1) (by omega) (by omega)]
     exact fin
    refine Ev.step (fun k => by simp only [hinterlandref15_Insert.l0];rfl) (Ev.pos (by omega) ?_)
    have:=rb_len l n o l.length
    by_cases e : l.length = n
    ·unfold rb2 at j2
     rw [if_pos e] at j2
     exact Ev.pos (by omega) (Ev.pos (by omega) j2)
    ·unfold rb2 at j2
     rw [if_neg e] at j2
     exact Ev.neg (by omega) j2
   | succ d ih =>
    intro i h
    have ih:=ih (i + 1) (by omega)
    have hn:=rb_next (l:=l) (a:=n) o (i:=i) (by omega) (by omega)
    rw [show ((i + 1 : Nat) : Int) = (i : Int) + 1 from by omega,← hn] at ih
    have j2 : Ev (fun k => hinterlandref15_Insert.j2 k l (n : Int) (rb2 l n o i) (i : Int) o.f0 o.f1 o.f2 o.f3 o.f4 o.f5 o.f6 o.f7 o.f8) R:=by
     refine Ev.step (fun k => by simp only [hinterlandref15_Insert.j2];rfl) (Ev.pos (by omega) (Ev.pos (by omega) ?_))
     rw [rdN]
     have hlen:=rb2_len l n o i
     have j3 : ∀ q,q = decide ((l.getD i z33).f0 = 2 ∧ (l.getD i z33).f6 ≥ (n : Int)) → Ev (fun k => hinterlandref15_Insert.j3 k l (n : Int) (rb2 l n o i) (i : Int) q o.f0 o.f1 o.f2 o.f3 o.f4 o.f5 o.f6 o.f7 o.f8 (l.getD i z33).f0 (l.getD i z33).f1 (l.getD i z33).f2 (l.getD i z33).f3 (l.getD i z33).f4 (l.getD i z33).f5 (l.getD i z33).f6 (l.getD i z33).f7 (l.getD i z33).f8) R:=by
      intro q hq
      refine Ev.step (fun k => by simp only [hinterlandref15_Insert.j3];rfl) ?_
      rw [wrap_in (x:=(i : Int) + 1) (by omega) (by omega)]
      unfold ux at ih
      by_cases c : (l.getD i z33).f0 = 2 ∧ (l.getD i z33).f6 ≥ (n : Int)
      ·rw [if_pos c] at ih
       exact Ev.pos (by rw [hq];exact decide_eq_true c) (Ev.pos (by omega) ih)
      ·rw [if_neg c] at ih
       exact Ev.neg (by rw [hq];simpa using c) (Ev.pos (by omega) ih)
     by_cases c0 : (l.getD i z33).f0 = 2
     ·exact Ev.pos c0 (j3 _ (decide_eq_decide.2 ⟨fun h => ⟨c0,h⟩,fun h => h.2⟩))
     ·exact Ev.neg c0 (j3 _ (decide_eq_false (fun h => c0 h.1)).symm)
    refine Ev.step (fun k => by simp only [hinterlandref15_Insert.l0];rfl) (Ev.pos (by omega) ?_)
    have:=rb_len l n o i
    by_cases e : i = n
    ·unfold rb2 at j2
     rw [if_pos e] at j2
     exact Ev.pos (by omega) (Ev.pos (by omega) j2)
    ·unfold rb2 at j2
     rw [if_neg e] at j2
     exact Ev.neg (by omega) j2
  have:=go l.length 0 (by omega)
  simpa [rb] using this
 by_cases h0 : a < 0
 ·exact Ev.pos h0 (j0 _ (decide_eq_true (by omega)).symm)
 ·exact Ev.neg h0 (j0 _ (decide_eq_decide.2 (by omega)))

end Go.Proofs.Ythbjchicpebglaa.Pure
