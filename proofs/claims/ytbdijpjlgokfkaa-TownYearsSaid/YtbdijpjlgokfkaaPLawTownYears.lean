/- Functions of this seat as plain Lean functions, with proofs that the Go code comes to just their answers, or what stands between them and a law's statement; no conditions. (Laid by a program of this session, out of the kit's print.) -/
import Derived.Test.YtbdijpjlgokfkaaRows
import Derived.Test.YtbdijpjlgokfkaaPSTownYears
import Derived.Test.YtbdijpjlgokfkaaPureTownYears
import Derived.WalkKit
import Derived.ProofKit
import Derived.OpenShut
import Derived.ShutString
import Derived.ChangeOld
import Derived.Below
import Derived.SizedLaws
import Derived.Carry
namespace Go.Proofs.Ytbdijpjlgokfkaa.townYears
open Go.ChangeShapes Go.WideShapes Go.ChangeAt Go.RowKit Go.Proofs.YtbdijpjlgokfkaaW.PrintWords Go.Proofs.Ytbdijpjlgokfkaa.P Go.Proofs.Ytbdijpjlgokfkaa
open Go.ChangeMaps (open_string shut_string)
set_option linter.unusedVariables false
theorem own:ownKnob Try.prog.godebug=none:=by kernel_rfl
theorem laidOut:laidOutB Try.prog=true:=by kernel_rfl
set_option maxRecDepth 100000 in
theorem lifted (os:Os) (started:os.Started) (H:Type) (enc:TypeId × Value→H) :
    ReturnsInHanded {} Try.checked os 12 .any (Rows.townYearsSpec.pre6 enc Try.prog Try.f12 Rows.townYearsRow.domain false) (Rows.townYearsSpec.post enc Try.prog Try.f12 false true false false):=by
  refine returnsInHanded_of_change_sized (C:=Try.checked) own started (by kernel_rfl) Try.func12
    (ChangeSpec.witness6 (enc:=enc) (C:=Try.checked) false ⟨#[],#[.slice none 0 0,.agg #[.int .i64 0,.int .i64 0,.slice none 0 0,.int .i64 0,.int .i64 0,.slice none 0 0,.slice none 0 0,.slice none 0 0],.agg #[.int .i64 0,.slice none 0 0,.slice none 0 0,.int .i64 0,.int .i64 0],.int .i64 0,.agg #[.int .u64 0],.int .u8 0],[]⟩ 8 (by kernel_rfl) (by kernel_rfl) (by kernel_rfl) (by kernel_rfl)) ?_
  intro W base args ds gs before hval0 hW hcnd hsz0 _
  have hval:∀ (j:Nat) t v,Try.f12.params[j]?=some t→args[j]?=some v→Value.okWide Try.prog W .any base t v:=hval0
  have hW':=hW
  obtain ⟨p,q,hA0,hV,rfl,hfz,hnd⟩:=hW
  have hA:DataW.TrodAll enc Try.prog W 0 (fun _=>true) true Try.f12.params.toList args.toList ds p:=hA0
  rw [Try.params12] at hA hval
  obtain ⟨v0,vs0,d0,ds0,p0,q0,hargs,rfl,rfl,h0,r0⟩:=trodAll_cons hA
  obtain ⟨v1,vs1,d1,ds1,p1,q1,rfl,rfl,rfl,h1,r1⟩:=trodAll_cons r0
  obtain ⟨v2,vs2,d2,ds2,p2,q2,rfl,rfl,rfl,h2,r2⟩:=trodAll_cons r1
  obtain ⟨v3,vs3,d3,ds3,p3,q3,rfl,rfl,rfl,h3,r3⟩:=trodAll_cons r2
  obtain ⟨v4,vs4,d4,ds4,p4,q4,rfl,rfl,rfl,h4,r4⟩:=trodAll_cons r3
  obtain ⟨v5,vs5,d5,ds5,p5,q5,rfl,rfl,rfl,h5,r5⟩:=trodAll_cons r4
  obtain ⟨rfl,rfl,rfl⟩:=trodAll_nil r5
  obtain rfl:args=#[v0,v1,v2,v3,v4,v5]:=by cases args;simp_all
  obtain ⟨rfl,rfl⟩:=trodVars_none hV
  have k0:=h0
  have lt0:∀ x ∈ p0,x.block<W.heap.size:=by obtain ⟨m,hm⟩:=k0;exact DataW.trod_lt m _ _ _ hm
  obtain ⟨a0,len0,cap0,rfl⟩:=okWide_slice Try.underlying40 (hval 0 40 v0 rfl rfl)
  obtain ⟨fu0,hf0⟩:=h0
  obtain ⟨l0,⟨A0,c0,e0,hc0,hr0⟩,w0⟩:=opens40.opens hf0
  have e0':(Value.slice a0 len0 cap0)=.slice A0 l0.length c0:=by simpa [Value.cells] using e0
  injection e0' with ea0 eb0 ec0
  subst ea0 eb0 ec0
  have k1:=h1
  have lt1:∀ x ∈ p1,x.block<W.heap.size:=by obtain ⟨m,hm⟩:=k1;exact DataW.trod_lt m _ _ _ hm
  obtain ⟨cs1,rfl,_⟩:=okWide_struct Try.underlying62 (hval 1 62 v1 rfl rfl)
  obtain ⟨fu1,hf1⟩:=h1
  obtain ⟨x1,hK1,w1⟩:=opens62.opens hf1
  obtain ⟨A1_2,c1_2,A1_5,c1_5,A1_6,c1_6,A1_7,c1_7,hcs1,hc1_2,hr1_2,hc1_5,hr1_5,hc1_6,hr1_6,hc1_7,hr1_7⟩:=k62_open hK1
  obtain rfl:cs1=#[.int .i64 x1.f0.f0,.int .i64 x1.f0.f1,.slice A1_2 x1.f0.f2.length c1_2,.int .i64 x1.f1.f0,.int .i64 x1.f1.f1,.slice A1_5 x1.f1.f2.length c1_5,.slice A1_6 x1.f1.f3.length c1_6,.slice A1_7 x1.f2.length c1_7]:=by
    have hcs:cs1.toList=[.int .i64 x1.f0.f0,.int .i64 x1.f0.f1,.slice A1_2 x1.f0.f2.length c1_2,.int .i64 x1.f1.f0,.int .i64 x1.f1.f1,.slice A1_5 x1.f1.f2.length c1_5,.slice A1_6 x1.f1.f3.length c1_6,.slice A1_7 x1.f2.length c1_7]:=hcs1
    exact Array.toList_inj.1 hcs
  have k2:=h2
  have lt2:∀ x ∈ p2,x.block<W.heap.size:=by obtain ⟨m,hm⟩:=k2;exact DataW.trod_lt m _ _ _ hm
  obtain ⟨cs2,rfl,_⟩:=okWide_struct Try.underlying25 (hval 2 25 v2 rfl rfl)
  obtain ⟨fu2,hf2⟩:=h2
  obtain ⟨x2,hK2,w2⟩:=opens25.opens hf2
  obtain ⟨A2_1,c2_1,A2_2,c2_2,hcs2,hc2_1,hr2_1,hc2_2,hr2_2⟩:=k25_open hK2
  obtain rfl:cs2=#[.int .i64 x2.f0,.slice A2_1 x2.f1.length c2_1,.slice A2_2 x2.f2.length c2_2,.int .i64 x2.f3,.int .i64 x2.f4]:=by
    have hcs:cs2.toList=[.int .i64 x2.f0,.slice A2_1 x2.f1.length c2_1,.slice A2_2 x2.f2.length c2_2,.int .i64 x2.f3,.int .i64 x2.f4]:=hcs2
    exact Array.toList_inj.1 hcs
  obtain ⟨a3,rfl,rfl,rfl,w3⟩:=open_int Try.underlying3 (hval 3 3 v3 rfl rfl) h3
  have k4:=h4
  have lt4:∀ x ∈ p4,x.block<W.heap.size:=by obtain ⟨m,hm⟩:=k4;exact DataW.trod_lt m _ _ _ hm
  obtain ⟨cs4,rfl,_⟩:=okWide_struct Try.underlying45 (hval 4 45 v4 rfl rfl)
  obtain ⟨fu4,hf4⟩:=h4
  obtain ⟨x4,hK4,w4⟩:=opens45.opens hf4
  have hcs4:=k45_open hK4
  obtain rfl:cs4=#[.int .u64 x4.f0]:=by
    have hcs:cs4.toList=[.int .u64 x4.f0]:=hcs4
    exact Array.toList_inj.1 hcs
  obtain ⟨a5,rfl,rfl,rfl,w5⟩:=open_int Try.underlying5 (hval 5 5 v5 rfl rfl) h5
  clear hA0 hval0
  obtain ⟨k,hP⟩:=Pure.TownYears (l0) (x1.f0.f0) (x1.f0.f1) (x1.f0.f2) (x1.f1.f0) (x1.f1.f1) (x1.f1.f2) (x1.f1.f3) (x1.f2) (x2.f0) (x2.f1) (x2.f2) (x2.f3) (x2.f4) (a3) (x4.f0) (a5) w0 w1.1.1 w1.1.2.1 w1.1.2.2 w1.2.1.1 w1.2.1.2.1 w1.2.1.2.2.1 w1.2.1.2.2.2 w1.2.2 w2.1 w2.2.1 w2.2.2.1 w2.2.2.2.1 w2.2.2.2.2 w3 w4 w5
  refine (w11_TownYears.calls k _ _ (l0) (x1.f0.f0) (x1.f0.f1) _ _ (x1.f0.f2) (x1.f1.f0) (x1.f1.f1) _ _ (x1.f1.f2) _ _ (x1.f1.f3) _ _ (x1.f2) (x2.f0) _ _ (x2.f1) _ _ (x2.f2) (x2.f3) (x2.f4) (a3) (x4.f0) (a5) true W hr0 hc0 hr1_2 hc1_2 hr1_5 hc1_5 hr1_6 hc1_6 hr1_7 hc1_7 hr2_1 hc2_1 hr2_2 hc2_2 hP).mono fun e W' hh=>?_
  obtain ⟨he,hd⟩:=hh
  have bel:Below W.heap.size W W':=hd
  subst he
  exact ⟨_,rfl,_,_,_,[],_,[],hW',trodAll_mk1 (shut_bool Try.underlying4 _),(trodAll_cons_mk (Below.trod laidOut (by kernel_rfl) (of_decide_eq_true (by kernel_rfl)) k0 bel lt0) (trodAll_cons_mk (Below.trod laidOut (by kernel_rfl) (of_decide_eq_true (by kernel_rfl)) k1 bel lt1) (trodAll_cons_mk (Below.trod laidOut (by kernel_rfl) (of_decide_eq_true (by kernel_rfl)) k2 bel lt2) (trodAll_cons_mk (shut_int Try.underlying3 w3) (trodAll_cons_mk (Below.trod laidOut (by kernel_rfl) (of_decide_eq_true (by kernel_rfl)) k4 bel lt4) (trodAll_cons_mk (shut_int Try.underlying5 w5) trodAll_mk0)))))),rfl,bel.frame _,fun h=>by cases h⟩
theorem over:Rows.townYearsRow.holds Try.pinned (OpenSpec.ofChange Rows.townYearsSpec) :=
  OpenClaim.holds_of_wide 12 Try.f12 rfl rfl rfl rfl rfl rfl rfl ⟨rfl,rfl,rfl,rfl,rfl⟩ rfl rfl rfl rfl rfl (by kernel_rfl) Try.func12 (by kernel_rfl)
    (of_decide_eq_true (by kernel_rfl)) (by unfold Func.isWrapper;first|(rw [if_pos (by decide +kernel)];kernel_rfl)|(rw [if_neg (by decide +kernel)];exact ⟨rfl,rfl⟩))
    (fun os started H enc _=>lifted os started H enc)
theorem proved:Rows.TownYearsSaid:=over
#print axioms proved
end Go.Proofs.Ytbdijpjlgokfkaa.townYears
namespace Go.Proofs.Ytbdijpjlgokfkaa
theorem townYears_holds:Rows.TownYearsSaid:=townYears.proved
end Go.Proofs.Ytbdijpjlgokfkaa
