/- What layer 11's growth leans on of sides, in plain words. No conditions. -/
import Derived.Test.YtbdijpjlgokfkaaPx0
import Derived.Test.YtbdijpjlgokfkaaPx6
import Derived.Test.YtbdijpjlgokfkaaPx13
import Derived.Test.YtbdijpjlgokfkaaTyW
namespace Go.Proofs.Ytbdijpjlgokfkaa.Pure
set_option linter.unusedVariables false
set_option linter.unusedSimpArgs false
open Go.RowKit Go.Proofs.YtbdijpjlgokfkaaW.PrintWords Go.Proofs.Ytbdijpjlgokfkaa.P Go.Proofs.Ytbdijpjlgokfkaa

section
variable {W H t s:Int}
theorem beside_eq (h:R.On W H t) (hs:0≤s∧s≤3):∃ y:Int,town_beside.f W H t s=some (y,decide (0≤R.bey W H t s))∧(0≤R.bey W H t s→y=R.bey W H t s):=by
 obtain ⟨⟨x0,x1⟩,⟨y0,y1⟩,e,a0,a1⟩:=h.xy
 have hW:=h.hW
 have hH:=h.hH
 have ht:=h.ht
 have m5:0≤t / W * W:=Int.mul_nonneg y0 (by omega)
 have m4:(t / W+1) * W=t / W * W+W:=by rw [Int.add_mul];omega
 have m7:(t / W - 1) * W=t / W * W - W:=by rw [Int.sub_mul];omega
 have m1:0<t / W→W≤t / W * W:=fun c=>by have:1 * W≤t / W * W:=Int.mul_le_mul_of_nonneg_right (by omega) (by omega);omega
 unfold town_beside.f R.bey
 rw [(R.tdm h).1,(R.tdm h).2,wrap_in (x:=t % W+1) (by omega) (by omega),wrap_in (x:=t % W - 1) (by omega) (by omega),wrap_in (x:=t / W) (by omega) (by omega),wrap_in (x:=t / W+1) (by omega) (by omega),wrap_in (x:=t / W - 1) (by omega) (by omega),m4,m7,wrap_in (x:=t / W * W) (by omega) (by omega),wrap_in (x:=t / W * W+W) (by omega) (by omega),wrap_in (x:=t / W * W - W) (by omega) (by omega),wrap_in (x:=t / W * W+(t % W+1)) (by omega) (by omega),wrap_in (x:=t / W * W+(t % W - 1)) (by omega) (by omega),wrap_in (x:=t / W * W+W+t % W) (by omega) (by omega),wrap_in (x:=t / W * W - W+t % W) (by omega) (by omega)]
 rw [if_neg (show ¬ W=0 by omega)]
 rcases (show s=0∨s=1∨s=2∨s=3 by omega) with rfl|rfl|rfl|rfl
 ·simp only [if_true]
  rw [if_pos (show t % W+1≥0 by omega)]
  by_cases c:t % W+1<W
  ·rw [if_pos c,if_pos c,if_pos (show t / W≥0 by omega),decide_eq_true y1,decide_eq_true (show 0≤t+1 by omega)];exact ⟨_,rfl,fun _=>by omega⟩
  ·rw [if_neg c,if_neg c];exact ⟨_,rfl,fun x=>absurd x (by decide)⟩
 ·simp only [show ((1:Int)=0)=False by simp,if_true,if_false]
  rw [if_pos (show t % W≥0 by omega),if_pos x1,if_pos (show t / W+1≥0 by omega)]
  by_cases c:t / W+1<H
  ·rw [if_pos c,decide_eq_true c,decide_eq_true (show 0≤t+W by omega)];exact ⟨_,rfl,fun _=>by omega⟩
  ·rw [if_neg c,decide_eq_false c];exact ⟨_,rfl,fun x=>absurd x (by decide)⟩
 ·simp only [show ((2:Int)=0)=False by simp,show ((2:Int)=1)=False by simp,if_true,if_false]
  by_cases c:0<t % W
  ·rw [if_pos c,if_pos (show t % W - 1≥0 by omega),if_pos (show t % W - 1<W by omega),if_pos (show t / W≥0 by omega),decide_eq_true y1,decide_eq_true (show 0≤t - 1 by omega)];exact ⟨_,rfl,fun _=>by omega⟩
  ·rw [if_neg c,if_neg (show ¬ t % W - 1≥0 by omega)];exact ⟨_,rfl,fun x=>absurd x (by decide)⟩
 ·simp only [show ((3:Int)=0)=False by simp,show ((3:Int)=1)=False by simp,show ((3:Int)=2)=False by simp,if_false]
  rw [if_pos (show t % W≥0 by omega),if_pos x1]
  by_cases c:0<t / W
  ·have:=m1 c
   rw [if_pos c,if_pos (show t / W - 1≥0 by omega),decide_eq_true (show t / W - 1<H by omega),decide_eq_true (show 0≤t - W by omega)];exact ⟨_,rfl,fun _=>by omega⟩
  ·rw [if_neg c,if_neg (show ¬ t / W - 1≥0 by omega)];exact ⟨_,rfl,fun x=>absurd x (by decide)⟩
theorem ref_beside_ev (C:List Int) (h:R.On W H t) (hs:0≤s∧s≤3):Ev (fun k=>h11_beyond.f k W H C t s) (R.bey W H t s):=by
 obtain ⟨⟨x0,x1⟩,⟨y0,y1⟩,e,a0,a1⟩:=h.xy
 have hW:=h.hW
 have hH:=h.hH
 have ht:=h.ht
 unfold h11_beyond.f R.bey
 rw [(R.tdm h).1,(R.tdm h).2,wrap_in (x:=t % W+1) (by omega) (by omega),wrap_in (x:=t / W) (by omega) (by omega)]
 refine Ev.neg (show ¬ W=0 by omega) ?_
 have j2:∀ b:Bool,(s≠0∧s≠1∧(s=2→b=decide (0<t % W))∧(s≠2→b=false))→Ev (fun k=>h11_beyond.j2 k t s (t / W) b W H C) (if s=2 then (if 0<t % W then t - 1 else -1) else (if 0<t / W then t - W else -1)):=by
  intro b ⟨n0,n1,h2,h3⟩
  refine Ev.step (fun k=>by simp only [h11_beyond.j2];rfl) ?_
  rw [wrap_in (x:=t - 1) (by omega) (by omega),wrap_in (x:=t - W) (by omega) (by omega)]
  by_cases c:s=2
  ·rw [if_pos c]
   have hb:=h2 c
   by_cases d:0<t % W
   ·exact Ev.pos (by rw [hb,decide_eq_true d]) (Ev.eq (Ev.now _) (by rw [if_pos d]))
   ·exact Ev.neg (by rw [hb,decide_eq_false d];decide) (Ev.neg (by omega) (Ev.eq (Ev.now _) (by rw [if_neg d])))
  ·rw [if_neg c]
   refine Ev.neg (by rw [h3 c];decide) (Ev.pos (show s=3 by omega) ?_)
   by_cases d:0<t / W
   ·exact Ev.pos d (Ev.eq (Ev.now _) (by rw [if_pos d]))
   ·exact Ev.neg d (Ev.eq (Ev.now _) (by rw [if_neg d]))
 have j2n:s≠0→s≠1→Ev (fun k=>if s=2 then h11_beyond.j2 k t s (t / W) (decide (t % W > 0)) W H C else h11_beyond.j2 k t s (t / W) false W H C) (if s=2 then (if 0<t % W then t - 1 else -1) else (if 0<t / W then t - W else -1)):=by
  intro n0 n1
  by_cases c:s=2
  ·exact Ev.pos c (j2 _ ⟨n0,n1,fun _=>rfl,fun x=>absurd c x⟩)
  ·exact Ev.neg c (j2 _ ⟨n0,n1,fun x=>absurd x c,fun _=>rfl⟩)
 have j2z:(s=0∨s=1)→Ev (fun k=>if s=2 then h11_beyond.j2 k t s (t / W) (decide (t % W > 0)) W H C else h11_beyond.j2 k t s (t / W) false W H C) (-1):=by
  intro n0
  refine Ev.neg (by omega) (Ev.step (fun k=>by simp only [h11_beyond.j2];rfl) (Ev.neg (by decide) (Ev.neg (by omega) (Ev.now _))))
 have j1:∀ b:Bool,(s=1→b=decide (t / W+1<H))→(s≠1→b=false)→Ev (fun k=>h11_beyond.j1 k t s (t % W) (t / W) b W H C) (if s=0 then -1 else if s=1 then (if t / W+1<H then t+W else -1) else if s=2 then (if 0<t % W then t - 1 else -1) else (if 0<t / W then t - W else -1)):=by
  intro b h1 h2
  refine Ev.step (fun k=>by simp only [h11_beyond.j1];rfl) ?_
  rw [wrap_in (x:=t+W) (by omega) (by omega)]
  by_cases c0:s=0
  ·rw [if_pos c0]
   exact Ev.neg (by rw [h2 (by omega)];decide) (j2z (.inl c0))
  ·rw [if_neg c0]
   by_cases c1:s=1
   ·rw [if_pos c1]
    by_cases d:t / W+1<H
    ·exact Ev.pos (by rw [h1 c1,decide_eq_true d]) (Ev.eq (Ev.now _) (by rw [if_pos d]))
    ·rw [if_neg d]
     exact Ev.neg (by rw [h1 c1,decide_eq_false d];decide) (j2z (.inr c1))
   ·rw [if_neg c1]
    exact Ev.neg (by rw [h2 c1];decide) (j2n c0 c1)
 have j0:∀ b:Bool,(s=0→b=decide (t % W+1<W))→(s≠0→b=false)→Ev (fun k=>h11_beyond.j0 k t s (t % W) (t / W) b W H C) (if s=0 then (if t % W+1<W then t+1 else -1) else if s=1 then (if t / W+1<H then t+W else -1) else if s=2 then (if 0<t % W then t - 1 else -1) else (if 0<t / W then t - W else -1)):=by
  intro b h1 h2
  refine Ev.step (fun k=>by simp only [h11_beyond.j0];rfl) ?_
  rw [wrap_in (x:=t+1) (by omega) (by omega),wrap_in (x:=t / W+1) (by omega) (by omega)]
  by_cases c0:s=0
  ·rw [if_pos c0]
   by_cases d:t % W+1<W
   ·exact Ev.pos (by rw [h1 c0,decide_eq_true d]) (Ev.eq (Ev.now _) (by rw [if_pos d]))
   ·rw [if_neg d]
    refine Ev.neg (by rw [h1 c0,decide_eq_false d];decide) (Ev.neg (by omega) ?_)
    exact Ev.eq (j1 false (fun x=>by omega) (fun _=>rfl)) (by rw [if_pos c0])
  ·rw [if_neg c0]
   refine Ev.neg (by rw [h2 c0];decide) ?_
   by_cases c1:s=1
   ·exact Ev.pos c1 (Ev.eq (j1 _ (fun _=>rfl) (fun x=>absurd c1 x)) (by rw [if_neg c0]))
   ·exact Ev.neg c1 (Ev.eq (j1 _ (fun x=>absurd x c1) (fun _=>rfl)) (by rw [if_neg c0]))
 by_cases c0:s=0
 ·exact Ev.pos c0 (j0 _ (fun _=>rfl) (fun x=>absurd c0 x))
 ·exact Ev.neg c0 (j0 _ (fun x=>absurd x c0) (fun _=>rfl))
end
end Go.Proofs.Ytbdijpjlgokfkaa.Pure
