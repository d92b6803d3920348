/- Functions of this seat as plain Lean functions, with proofs that the Go code comes to just their answers, or what stands between them and a law's statement; no conditions. (Laid by a program of this session, out of the kit's print.) -/
import Derived.Test.YtbdekjjdojbokaaPx0
import Derived.Test.YtbdekjjdojbokaaPx2
namespace Go.Proofs.Ytbdekjjdojbokaa.P
open Go.RowKit Go.Proofs.YtbdekjjdojbokaaW.PrintWords Go.Proofs.YtbdekjjdojbokaaW.PrintLast Go.Proofs.YtbdekjjdojbokaaW.PrintMore
attribute [local go_sem] max2_int min2_int max_two min_two max_three min_three max_four min_four   -- for this text's walks alone
set_option linter.unusedVariables false
set_option linter.unusedSimpArgs false

-- plug-in
/-! ### road_next: function 43 -/
/-- What one call of 'try' makes of the sides found so far. -/
def road_next.try_ (W H : Int) (l2 l3 : List Int) (tile : Int) (o : List Int) (s : Int) : Option (List Int) :=
 (road_may.f W H l2 l3 tile s).bind fun r => some (if r = true then o ++ [s] else o)
/-- The sides found ahead of a side. -/
def road_next.at_ (W H : Int) (l2 l3 : List Int) (tile from_ : Int) : Nat → Option (List Int)
 | 0 => some []
 | i + 1 => (road_next.at_ W H l2 l3 tile from_ i).bind fun o => if (i : Int) = from_ then some o else road_next.try_ W H l2 l3 tile o (i : Int)
def road_next.f (a0_0 a0_1 : Int) (l0_2 l0_3 : List Int) (a1 a2 : Int) : Option (List Int) :=
 (road_next.at_ a0_0 a0_1 l0_2 l0_3 a1 a2 4).bind fun o => if o = [] then (if a2 ≥ 0 then road_next.try_ a0_0 a0_1 l0_2 l0_3 a1 o a2 else some o) else some o
theorem road_next.at_some {W H : Int} {l2 l3 : List Int} {tile from_ : Int} {i : Nat} {o : List Int} (h : road_next.at_ W H l2 l3 tile from_ (i + 1) = some o) : ∃ o', road_next.at_ W H l2 l3 tile from_ i = some o' ∧ (if (i : Int) = from_ then some o' else road_next.try_ W H l2 l3 tile o' (i : Int)) = some o := by
 rw [road_next.at_] at h
 exact Option.bind_eq_some_iff.1 h
theorem road_next.at_len {W H : Int} {l2 l3 : List Int} {tile from_ : Int} : ∀ (i : Nat) (o : List Int), road_next.at_ W H l2 l3 tile from_ i = some o → o.length ≤ i
 | 0,o,h => by
  rw [road_next.at_] at h
  obtain rfl:=Option.some.inj h
  simp
 | i + 1,o,h => by
  obtain ⟨o',h1,h2⟩:=road_next.at_some h
  have:=road_next.at_len i o' h1
  split at h2
  ·obtain rfl:=Option.some.inj h2
   omega
  ·obtain ⟨r,_,h3⟩:=Option.bind_eq_some_iff.1 h2
   obtain rfl:=Option.some.inj h3
   split
   ·simp;omega
   ·omega
theorem road_next.at_lower {W H : Int} {l2 l3 : List Int} {tile from_ : Int} : ∀ (d i : Nat) (o : List Int), road_next.at_ W H l2 l3 tile from_ (i + d) = some o → ∃ o', road_next.at_ W H l2 l3 tile from_ i = some o'
 | 0,i,o,h => ⟨o,h⟩
 | d + 1,i,o,h => by
  obtain ⟨o',h1,_⟩:=road_next.at_some (show road_next.at_ W H l2 l3 tile from_ (i + d + 1) = some o from h)
  exact road_next.at_lower d i o' h1
/-- The captured variables, and the list: what a call of 'try' needs and leaves. -/
structure road_next.Cap (w0 w : World) (W H tile : Int) (A2 : Option Addr) (c2 : Nat) (l2 : List Int) (A3 : Option Addr) (c3 : Nat) (l3 : List Int) (gt gn go : Nat) (o : List Int) : Prop where
 ht : w.heap[gt]? = some (.cells #[.int .i64 W,.int .i64 H,.slice A2 l2.length c2,.slice A3 l3.length c3] 24 (0,0))
 hn : w.heap[gn]? = some (.cells #[.int .i64 tile] 3 (0,0))
 hv : ∃ v,w.heap[go]? = some (.cells #[v] 22 (0,0)) ∧ Kd.R (Kd.int .i64) 3 w w0.heap.size (fun k => k ≠ gn) v o ∧ (o = [] → v = .slice none 0 0)
 hB : Below w0.heap.size w0 w
 hg : w0.heap.size ≤ gt ∧ w0.heap.size ≤ gn ∧ w0.heap.size ≤ go ∧ gt ≠ gn ∧ gt ≠ go ∧ gn ≠ go
theorem road_next.nil_or {w0 w : World} {gn : Nat} {v : Value} {o : List Int} (h : Kd.R (Kd.int .i64) 3 w w0.heap.size (fun k => k ≠ gn) v o) (hne : o ≠ []) : ∃ A c, v = .slice (some A) o.length c := by
 obtain ⟨A,c,e,_,hc⟩:=Kd.R_reads h
 have : 0 < o.length:=List.length_pos_iff.2 hne
 obtain ⟨ad,e2,_⟩:=hc.2.2 this
 exact ⟨ad,c,by rw [e,e2]⟩
def road_next.TryPost (w0 : World) (W H tile : Int) (A2 : Option Addr) (c2 : Nat) (l2 : List Int) (A3 : Option Addr) (c3 : Nat) (l3 : List Int) (gt gn go : Nat) (o : List Int) (e : Ending) (w' : World) : Prop :=
 e = .returned (.tuple #[]) ∧ road_next.Cap w0 w' W H tile A2 c2 l2 A3 c3 l3 gt gn go o
set_option maxHeartbeats 8000000 in
set_option maxRecDepth 100000 in
theorem road_next.try_no (s W H tile : Int) (A2 : Option Addr) (c2 : Nat) (l2 : List Int) (A3 : Option Addr) (c3 : Nat) (l3 : List Int) (gt gn go : Nat) (o : List Int) (w0 w : World)
  (hr2 : Kd.C (Kd.int .i64) w0 A2 l2.length l2) (hc2 : l2.length ≤ c2) (hr3 : Kd.C (Kd.int .i64) w0 A3 l3.length l3) (hc3 : l3.length ≤ c3) (hcap : road_next.Cap w0 w W H tile A2 c2 l2 A3 c3 l3 gt gn go o)
  (hm : road_may.f W H l2 l3 tile s = some false) :
  Calls Try.prog 52 #[.int .i64 s,.pointer (some ⟨gt,0,none⟩),.pointer (some ⟨gn,0,none⟩),.pointer (some ⟨go,0,none⟩)] w (road_next.TryPost w0 W H tile A2 c2 l2 A3 c3 l3 gt gn go o):=by
 obtain ⟨ht,hn,⟨v,hv,hR,h1⟩,hB,hg⟩:=hcap
 have hu24:=Try.underlying24
 have HR2:=Aside0.mk hr2
 have HC2:=Aside0.mk hc2
 have HR3:=Aside0.mk hr3
 have HC3:=Aside0.mk hc3
 have HT:=Aside0.mk ht
 have HN:=Aside0.mk hn
 have HV:=Aside0.mk hv
 have HL:=Aside0.mk hR
 have HB:=Aside0.mk hB
 have HG:=Aside0.mk hg
 have HM:=Aside0.mk hm
 have H1:=Aside0.mk h1
 have t0 : w.cell? ⟨gt,0,none⟩ = some (.int .i64 W):=(blk_cell HT.out 0).trans rfl
 have t1 : w.cell? ⟨gt,1,none⟩ = some (.int .i64 H):=(blk_cell HT.out 1).trans rfl
 have t2 : w.cell? ⟨gt,2,none⟩ = some (.slice A2 l2.length c2):=(blk_cell HT.out 2).trans rfl
 have t3 : w.cell? ⟨gt,3,none⟩ = some (.slice A3 l3.length c3):=(blk_cell HT.out 3).trans rfl
 have n0 : w.cell? ⟨gn,0,none⟩ = some (.int .i64 tile):=(blk_cell HN.out 0).trans rfl
 clear hr2 hc2 hr3 hc3 ht hn hv hR h1 hB hm hg
 go_enter Try.func52,Try.ntmps52
 go_wp2_with (go_at_call 53;(with_reducible refine (road_may.calls W H _ _ l2 _ _ l3 tile s false _ ?side1 ?side2 ?side3 ?side4 HM.out).mono ?_);(case side1 => repeat (first|exact (Kd.C_below HR2.out HB.out)|(with_reducible refine Kd.C_alloc ?_ _)|(with_reducible refine Kd.C_drewN ?_ _)|(with_reducible refine Kd.C_drew ?_)));(case side2 => exact HC2.out);(case side3 => repeat (first|exact (Kd.C_below HR3.out HB.out)|(with_reducible refine Kd.C_alloc ?_ _)|(with_reducible refine Kd.C_drewN ?_ _)|(with_reducible refine Kd.C_drew ?_)));(case side4 => exact HC3.out);rintro e w1 ⟨rfl,hb⟩;have n0_:=Aside0.mk (blk_below HT.out hb);have n1_:=Aside0.mk (blk_below HN.out hb);have n2_:=Aside0.mk (blk_below HV.out hb);have n3_:=Aside0.mk (Kd.R_below HL.out hb);have n4_:=Aside0.mk (below_step HB.out hb);clear HT HN HV HL HB;have HT:=n0_;have HN:=n1_;have HV:=n2_;have HL:=n3_;have HB:=n4_;clear n0_ n1_ n2_ n3_ n4_ hb)
 go_end0
 exact ⟨rfl,HT.out,HN.out,⟨v,HV.out,HL.out,H1.out⟩,HB.out,HG.out⟩
set_option maxHeartbeats 8000000 in
set_option maxRecDepth 100000 in
theorem road_next.try_yes (s W H tile : Int) (A2 : Option Addr) (c2 : Nat) (l2 : List Int) (A3 : Option Addr) (c3 : Nat) (l3 : List Int) (gt gn go : Nat) (o : List Int) (w0 w : World)
  (hr2 : Kd.C (Kd.int .i64) w0 A2 l2.length l2) (hc2 : l2.length ≤ c2) (hr3 : Kd.C (Kd.int .i64) w0 A3 l3.length l3) (hc3 : l3.length ≤ c3) (hcap : road_next.Cap w0 w W H tile A2 c2 l2 A3 c3 l3 gt gn go o)
  (hm : road_may.f W H l2 l3 tile s = some true) (hlen : o.length < 17592186044416) :
  Calls Try.prog 52 #[.int .i64 s,.pointer (some ⟨gt,0,none⟩),.pointer (some ⟨gn,0,none⟩),.pointer (some ⟨go,0,none⟩)] w (road_next.TryPost w0 W H tile A2 c2 l2 A3 c3 l3 gt gn go (o ++ [s])):=by
 obtain ⟨ht,hn,⟨v,hv,hR,h1⟩,hB,hg⟩:=hcap
 have hu24:=Try.underlying24
 have HR2:=Aside0.mk hr2
 have HC2:=Aside0.mk hc2
 have HR3:=Aside0.mk hr3
 have HC3:=Aside0.mk hc3
 have HT:=Aside0.mk ht
 have HN:=Aside0.mk hn
 have HV:=Aside0.mk hv
 have HL:=Aside0.mk hR
 have HB:=Aside0.mk hB
 have HG:=Aside0.mk hg
 have HM:=Aside0.mk hm
 have LM:=Aside0.mk hlen
 obtain ⟨y1,hy1⟩ : ∃ y_ : List Int,y_ = o ++ [s]:=⟨_,rfl⟩
 have Ny1:=Aside0.mk hy1
 obtain ⟨Av,cv,hev⟩:=Kd.R_slice HL.out
 subst hev
 have t0 : w.cell? ⟨gt,0,none⟩ = some (.int .i64 W):=(blk_cell HT.out 0).trans rfl
 have t1 : w.cell? ⟨gt,1,none⟩ = some (.int .i64 H):=(blk_cell HT.out 1).trans rfl
 have t2 : w.cell? ⟨gt,2,none⟩ = some (.slice A2 l2.length c2):=(blk_cell HT.out 2).trans rfl
 have t3 : w.cell? ⟨gt,3,none⟩ = some (.slice A3 l3.length c3):=(blk_cell HT.out 3).trans rfl
 have n0 : w.cell? ⟨gn,0,none⟩ = some (.int .i64 tile):=(blk_cell HN.out 0).trans rfl
 clear hr2 hc2 hr3 hc3 ht hn hv hR h1 hB hm hg hlen hy1
 go_enter Try.func52,Try.ntmps52
 go_wp2_with (first|(go_at_call 53;(with_reducible refine (road_may.calls W H _ _ l2 _ _ l3 tile s true _ ?side1 ?side2 ?side3 ?side4 HM.out).mono ?_);(case side1 => repeat (first|exact (Kd.C_below HR2.out HB.out)|(with_reducible refine Kd.C_alloc ?_ _)|(with_reducible refine Kd.C_drewN ?_ _)|(with_reducible refine Kd.C_drew ?_)));(case side2 => exact HC2.out);(case side3 => repeat (first|exact (Kd.C_below HR3.out HB.out)|(with_reducible refine Kd.C_alloc ?_ _)|(with_reducible refine Kd.C_drewN ?_ _)|(with_reducible refine Kd.C_drew ?_)));(case side4 => exact HC3.out);rintro e w1 ⟨rfl,hb⟩;have n0_:=Aside0.mk (blk_below HT.out hb);have n1_:=Aside0.mk (blk_below HN.out hb);have n2_:=Aside0.mk (blk_below HV.out hb);have n3_:=Aside0.mk (Kd.R_below HL.out hb);have n4_:=Aside0.mk (below_step HB.out hb);clear HT HN HV HL HB;have HT:=n0_;have HN:=n1_;have HV:=n2_;have HL:=n3_;have HB:=n4_;clear n0_ n1_ n2_ n3_ n4_ hb;have v0 : w1.cell? ⟨go,0,none⟩ = some (.slice Av o.length cv):=(blk_cell HV.out 0).trans rfl;have v1:=blk_frozen HV.out 0)|((with_reducible refine gate_builtin (b:=.append) (xs:=#[.tmp 9,.tmp 11]) rfl ?_);at_builtin;refine Kd.R_append (Kd.int .i64) (w0:=w0) w0.heap.size rfl (.tmp 9) (.tmp 11) 22 3 (.int .i64 0) 8 rfl Try.underlying22 info3 rfl (by decide) (by omega) (.slice Av o.length cv) o s [.int .i64 s] (fun k => k ≠ gn) (fun _ => False) rfl rfl ?aP (fun _ hk => hk.elim) ?aF ?aO ?aB ?aS ?aL ?_;(case aP => exact rfl);(case aB => exact (by repeat (first|(with_reducible first|exact HB.out|apply below_alloc|apply pw_below_drewN|apply below_drew1)|exact HB.out)));(case aF => exact (fun k_ hk e_ => by have h_:=blk_lt HN.out;have h2_:=hk;(try simp at h2_);omega));(case aO => exact (by (with_reducible repeat (first|apply Kd.R_alloc|apply Kd.R_drewN|apply Kd.R_drew));exact HL.out));(case aS => exact (below_size (by repeat (first|(with_reducible first|exact HB.out|apply below_alloc|apply pw_below_drewN|apply below_drew1)|exact HB.out))));(case aL => have:=LM.out;omega);intro v190 w12 ho hb hg hat;rw [← Ny1.out] at ho;obtain ⟨Ao,co,hvo⟩:=Kd.R_slice ho;subst hvo;have n0_:=Aside0.mk (blk_grown (g:=gt) (o:=.cells #[.int .i64 W,.int .i64 H,.slice A2 l2.length c2,.slice A3 l3.length c3] 24 (0,0)) (by (with_reducible repeat (first|refine blk_drewN ?_ _|refine blk_drew ?_|refine blk_alloc ?_ _));exact HT.out) hg (Kd.R_ne HL.out HT.out (by decide)));have n1_:=Aside0.mk (blk_grown (g:=gn) (o:=.cells #[.int .i64 tile] 3 (0,0)) (by (with_reducible repeat (first|refine blk_drewN ?_ _|refine blk_drew ?_|refine blk_alloc ?_ _));exact HN.out) hg (fun e_ => HL.out.1 gn e_.symm rfl));have n2_:=Aside0.mk (blk_grown (g:=go) (o:=.cells #[.slice Av o.length cv] 22 (0,0)) (by (with_reducible repeat (first|refine blk_drewN ?_ _|refine blk_drew ?_|refine blk_alloc ?_ _));exact HV.out) hg (Kd.R_ne HL.out HV.out (by decide)));have n3_:=Aside0.mk ho;have n4_:=Aside0.mk hb;clear HT HN HV HL HB v0 v1;have HT:=n0_;have HN:=n1_;have HV:=n2_;have HL:=n3_;have HB:=n4_;have v0 : w12.cell? ⟨go,0,none⟩ = some (.slice Av o.length cv):=(blk_cell HV.out 0).trans rfl;have v1:=blk_frozen HV.out 0;clear n0_ n1_ n2_ n3_ n4_ ho hb hg hat))
 go_end0
 refine ⟨rfl,blk_far HT.out HG.out.2.2.2.2.1 _,blk_far HN.out HG.out.2.2.2.2.2 _,⟨_,by simpa using blk_set HV.out 0 (.slice Ao y1.length co),?_,fun h => absurd h (by simp)⟩,below_set HB.out HG.out.2.2.1,HG.out⟩
 rw [← Ny1.out]
 exact Kd.R_set HL.out HV.out (by decide) 0 _
theorem road_next.cap0 (w : World) (W H tile : Int) (A2 : Option Addr) (c2 : Nat) (l2 : List Int) (A3 : Option Addr) (c3 : Nat) (l3 : List Int) :
  road_next.Cap w (((w.alloc (.cells #[.int .i64 W,.int .i64 H,.slice A2 l2.length c2,.slice A3 l3.length c3] 24)).alloc (.cells #[.int .i64 tile] 3)).alloc (.cells #[.slice none 0 0] 22)) W H tile A2 c2 l2 A3 c3 l3 w.heap.size (w.heap.size + 1) (w.heap.size + 1 + 1) []:=by
 have e1 : ∀ (w : World) (o : Obj),(w.alloc o).heap.size = w.heap.size + 1:=fun w o => by
  show (w.heap.push o).size = _
  simp
 refine ⟨blk_alloc (blk_alloc (blk_new w _) _) _,blk_alloc ?_ _,⟨_,?_,Kd.R_nil _ _ _ _ _,fun _ => rfl⟩,below_alloc (below_alloc (below_alloc (Below.refl _ _) _) _) _,by omega,by omega,by omega,by omega,by omega,by omega⟩
 ·have h:=blk_new (w.alloc (.cells #[.int .i64 W,.int .i64 H,.slice A2 l2.length c2,.slice A3 l3.length c3] 24)) (.cells #[.int .i64 tile] 3)
  rwa [e1] at h
 ·have h:=blk_new ((w.alloc (.cells #[.int .i64 W,.int .i64 H,.slice A2 l2.length c2,.slice A3 l3.length c3] 24)).alloc (.cells #[.int .i64 tile] 3)) (.cells #[.slice none 0 0] 22)
  rwa [e1,e1] at h
set_option maxHeartbeats 8000000 in
set_option maxRecDepth 100000 in
theorem road_next.calls (a0_0 a0_1 : Int) (A0_2 : Option Addr) (c0_2 : Nat) (l0_2 : List Int) (A0_3 : Option Addr) (c0_3 : Nat) (l0_3 : List Int) (a1 a2 : Int) (r : List Int) (w : World) (hr0_2 : Kd.C (Kd.int .i64) w A0_2 l0_2.length l0_2) (hc0_2 : l0_2.length ≤ c0_2) (hr0_3 : Kd.C (Kd.int .i64) w A0_3 l0_3.length l0_3) (hc0_3 : l0_3.length ≤ c0_3) (h : road_next.f a0_0 a0_1 l0_2 l0_3 a1 a2 = some r) :
  Calls Try.prog 43 #[.agg #[.int .i64 a0_0,.int .i64 a0_1,.slice A0_2 l0_2.length c0_2,.slice A0_3 l0_3.length c0_3],.int .i64 a1,.int .i64 a2] w fun e w' => ∃ v0_ : Value,e = .returned (v0_) ∧ Kd.R (Kd.int .i64) 3 w' w.heap.size (fun _ => True) v0_ r ∧ Below w.heap.size w w':=by
 obtain ⟨o4,h4,h5⟩:=Option.bind_eq_some_iff.1 h
 have hu24:=Try.underlying24
 have hmf : ∀ (fn : Fn) (first cap : Array Value) (w : World),(Instr.makeFunc fn first cap).run Try.prog w = .ok (.func fn first cap) w:=fun _ _ _ _ => rfl
 have HR2:=Aside0.mk hr0_2
 have HC2:=Aside0.mk hc0_2
 have HR3:=Aside0.mk hr0_3
 have HC3:=Aside0.mk hc0_3
 have H4:=Aside0.mk h4
 have H5:=Aside0.mk h5
 have HP:=Aside0.mk (road_next.cap0 w a0_0 a0_1 a1 A0_2 c0_2 l0_2 A0_3 c0_3 l0_3)
 clear hr0_2 hc0_2 hr0_3 hc0_3 h4 h5 h
 go_enter Try.func43,Try.ntmps43
 go_wp2
 go_step3
 go_wp2
 go_step3
 go_wp2
 go_loopg [11] 4 (fun kq v11 w' => ∃ (i : Nat) (o : List Int),v11 = .int .i64 (i : Int) ∧ Aside0 (i + kq = 4) ∧ Aside0 (road_next.at_ a0_0 a0_1 l0_2 l0_3 a1 a2 i = some o) ∧ Aside0 (road_next.Cap w w' a0_0 a0_1 a1 A0_2 c0_2 l0_2 A0_3 c0_3 l0_3 w.heap.size (w.heap.size + 1) (w.heap.size + 1 + 1) o))
 case atStart => exact ⟨0,[],by simp,⟨rfl⟩,⟨rfl⟩,HP⟩
 case round =>
  clear HP
  obtain ⟨i,o,rfl,HI,HA,HP⟩:=hrel
  by_cases hi : i < 4
  ·have c1 : decide ((i : Int) < 4) = true:=decide_eq_true (by omega)
   obtain ⟨o',hA',hs⟩ : ∃ o',road_next.at_ a0_0 a0_1 l0_2 l0_3 a1 a2 (i + 1) = some o' ∧ (if (i : Int) = a2 then some o else road_next.try_ a0_0 a0_1 l0_2 l0_3 a1 o (i : Int)) = some o':=by
    obtain ⟨o',ho'⟩:=road_next.at_lower (3 - i) (i + 1) o4 (by rw [show i + 1 + (3 - i) = 4 by omega];exact H4.out)
    obtain ⟨o2,h1,h2⟩:=road_next.at_some ho'
    rw [HA.out] at h1
    obtain rfl:=Option.some.inj h1
    exact ⟨o',ho',h2⟩
   have hw : wrap64 ((i : Int) + 1) = ((i + 1 : Nat) : Int):=by unfold wrap64;omega
   have hlen:=road_next.at_len i o HA.out
   have HA':=Aside0.mk hA'
   have HL:=Aside0.mk hlen
   have HIL:=Aside0.mk hi
   clear hA' hlen hi
   by_cases hf : (i : Int) = a2
   ·rw [if_pos hf] at hs
    obtain rfl:=Option.some.inj hs
    have c2 : ((i : Int) == a2) = true:=beq_iff_eq.mpr hf
    clear hs hf
    have HW:=Aside0.mk hw
    clear hw
    go_wp2
    go_roundg (3 - i)
    case measure => have:=HI.out;have:=HIL.out;omega
    case rel => exact ⟨i + 1,o,by rw [← HW.out],⟨by have:=HIL.out;omega⟩,HA',HP⟩
   ·rw [if_neg hf] at hs
    have c2 : ((i : Int) == a2) = false:=beq_eq_false_iff_ne.mpr hf
    obtain ⟨b,hm,hb⟩:=Option.bind_eq_some_iff.1 hs
    have hb:=Option.some.inj hb
    have HW:=Aside0.mk hw
    have HM:=Aside0.mk hm
    clear hs hf hw hm
    cases b with
    | false =>
     obtain rfl : o = o':=by simpa using hb
     clear hb
     go_wp2_with (go_at_call 52;(with_reducible refine (road_next.try_no (i : Int) a0_0 a0_1 a1 A0_2 c0_2 l0_2 A0_3 c0_3 l0_3 w.heap.size (w.heap.size + 1) (w.heap.size + 1 + 1) o w _ HR2.out HC2.out HR3.out HC3.out HP.out HM.out).mono ?_);rintro e w1 ⟨rfl,hp⟩;have n0_:=Aside0.mk hp;clear HP hp;have HP:=n0_;clear n0_)
     go_roundg (3 - i)
     case measure => have:=HI.out;have:=HIL.out;omega
     case rel => exact ⟨i + 1,o,by rw [← HW.out],⟨by have:=HIL.out;omega⟩,HA',HP⟩
    | true =>
     obtain rfl : o ++ [(i : Int)] = o':=by simpa using hb
     clear hb
     go_wp2_with (go_at_call 52;(with_reducible refine (road_next.try_yes (i : Int) a0_0 a0_1 a1 A0_2 c0_2 l0_2 A0_3 c0_3 l0_3 w.heap.size (w.heap.size + 1) (w.heap.size + 1 + 1) o w _ HR2.out HC2.out HR3.out HC3.out HP.out HM.out (by have:=HL.out;have:=HIL.out;omega)).mono ?_);rintro e w1 ⟨rfl,hp⟩;have n0_:=Aside0.mk hp;clear HP hp;have HP:=n0_;clear n0_)
     go_roundg (3 - i)
     case measure => have:=HI.out;have:=HIL.out;omega
     case rel => exact ⟨i + 1,_,by rw [← HW.out],⟨by have:=HIL.out;omega⟩,HA',HP⟩
  ·obtain rfl : i = 4:=by have:=HI.out;omega
   have h1:=HA.out
   rw [H4.out] at h1
   obtain rfl:=Option.some.inj h1
   have hlen:=road_next.at_len 4 o4 H4.out
   have HL:=Aside0.mk hlen
   clear h1 hi hlen
   have c1 : decide (((4 : Nat) : Int) < 4) = false:=by decide
   have H5':=H5.out
   by_cases hne : o4 = []
   ·rw [if_pos hne] at H5'
    obtain ⟨v,hv,hR,hn⟩:=HP.out.hv
    obtain rfl:=hn hne
    have HV:=Aside0.mk hv
    have HRR:=Aside0.mk hR
    have hnil:=fun (W_ : World) => Lib.run_eql_slice_nil (P:=Try.prog) W_ 22 3 none 0 0 0 0 Try.underlying22
    simp only [Option.isNone_none] at hnil
    have v0 : wr.cell? ⟨w.heap.size + 1 + 1,0,none⟩ = some (.slice none 0 0):=(blk_cell HV.out 0).trans rfl
    clear hv hR hn
    by_cases h2 : a2 ≥ 0
    ·rw [if_pos h2] at H5'
     obtain ⟨b,hm,hb⟩:=Option.bind_eq_some_iff.1 H5'
     have hb:=Option.some.inj hb
     have c2 : decide (0 ≤ a2) = true:=decide_eq_true h2
     have HM:=Aside0.mk hm
     have HNE:=Aside0.mk hne
     clear H5' hm h2 hne
     cases b with
     | false =>
      obtain rfl : o4 = r:=by simpa using hb
      clear hb
      go_wp2_with (go_at_call 52;(with_reducible refine (road_next.try_no a2 a0_0 a0_1 a1 A0_2 c0_2 l0_2 A0_3 c0_3 l0_3 w.heap.size (w.heap.size + 1) (w.heap.size + 1 + 1) o4 w _ HR2.out HC2.out HR3.out HC3.out HP.out HM.out).mono ?_);rintro e w1 ⟨rfl,hp⟩;obtain ⟨vv,hvv,hRv,_⟩:=hp.hv;obtain ⟨Av,cv,hve⟩:=Kd.R_slice hRv;subst hve;have v0' : w1.cell? ⟨w.heap.size + 1 + 1,0,none⟩ = some (.slice Av o4.length cv):=(blk_cell hvv 0).trans rfl;have HQ:=Aside0.mk hRv;have HP2:=Aside0.mk hp.hB;clear v0 HP HV hp hvv hRv)
      (try rw [Exit.noGoto_ret])
      go_ret
      exact ⟨_,rfl,Kd.R_mono HQ.out (fun _ _ => trivial),HP2.out⟩
     | true =>
      obtain rfl : o4 ++ [a2] = r:=by simpa using hb
      clear hb
      obtain ⟨yy,hyy⟩ : ∃ y_ : List Int,y_ = o4 ++ [a2]:=⟨_,rfl⟩
      have NY:=Aside0.mk hyy
      clear hyy
      go_wp2_with (go_at_call 52;(with_reducible refine (road_next.try_yes a2 a0_0 a0_1 a1 A0_2 c0_2 l0_2 A0_3 c0_3 l0_3 w.heap.size (w.heap.size + 1) (w.heap.size + 1 + 1) o4 w _ HR2.out HC2.out HR3.out HC3.out HP.out HM.out (by have:=HL.out;omega)).mono ?_);rintro e w1 ⟨rfl,hp⟩;obtain ⟨vv,hvv,hRv,_⟩:=hp.hv;rw [← NY.out] at hRv;obtain ⟨Av,cv,hve⟩:=Kd.R_slice hRv;subst hve;have v0' : w1.cell? ⟨w.heap.size + 1 + 1,0,none⟩ = some (.slice Av yy.length cv):=(blk_cell hvv 0).trans rfl;have HQ:=Aside0.mk hRv;have HP2:=Aside0.mk hp.hB;clear v0 HP HV hp hvv hRv)
      (try rw [Exit.noGoto_ret])
      go_ret
      refine ⟨_,rfl,?_,HP2.out⟩
      rw [← NY.out]
      exact Kd.R_mono HQ.out (fun _ _ => trivial)
    ·rw [if_neg h2] at H5'
     obtain rfl:=Option.some.inj H5'
     have c2 : decide (0 ≤ a2) = false:=decide_eq_false h2
     have HNE:=Aside0.mk hne
     clear H5' h2 hne
     go_wp2
     (try rw [Exit.noGoto_ret])
     go_ret
     exact ⟨_,rfl,Kd.R_mono HRR.out (fun _ _ => trivial),HP.out.hB⟩
   ·rw [if_neg hne] at H5'
    obtain rfl:=Option.some.inj H5'
    obtain ⟨v,hv,hR,hn⟩:=HP.out.hv
    obtain ⟨Av,cv,hve⟩:=road_next.nil_or hR hne
    subst hve
    have HV:=Aside0.mk hv
    have HRR:=Aside0.mk hR
    have hnil:=fun (W_ : World) => Lib.run_eql_slice_nil (P:=Try.prog) W_ 22 3 (some Av) o4.length cv 0 0 Try.underlying22
    simp only [Option.isNone_some] at hnil
    have v0 : wr.cell? ⟨w.heap.size + 1 + 1,0,none⟩ = some (.slice (some Av) o4.length cv):=(blk_cell HV.out 0).trans rfl
    clear hv hR hn hne H5'
    go_wp2
    (try rw [Exit.noGoto_ret])
    go_ret
    exact ⟨_,rfl,Kd.R_mono HRR.out (fun _ _ => trivial),HP.out.hB⟩


end Go.Proofs.Ytbdekjjdojbokaa.P
