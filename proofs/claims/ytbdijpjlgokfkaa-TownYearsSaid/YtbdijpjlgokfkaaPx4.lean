/- Functions of this seat as plain Lean functions, with proofs that the Go code comes to just their answers, or what stands between them and a law's statement; no conditions. (Laid by a program of this session, out of the kit's print.) -/
import Derived.Test.YtbdijpjlgokfkaaPx0
namespace Go.Proofs.Ytbdijpjlgokfkaa.P
open Go.RowKit Go.Proofs.YtbdijpjlgokfkaaW.PrintWords Go.Proofs.YtbdijpjlgokfkaaW.PrintLast Go.Proofs.YtbdijpjlgokfkaaW.PrintMore
attribute [local go_sem] max2_int min2_int max_two min_two max_three min_three max_four min_four   -- for this text's walks alone
set_option maxHeartbeats 8000000
set_option maxRecDepth 100000
set_option linter.unusedVariables false
set_option linter.unusedSimpArgs false

-- plug-in
/-! ### api_House_77: function 77 -/
def api_House_77.f (l0:List (S68)):Option (List (S68)):=if l0.length<5864062014805 then some l0 else none
theorem api_House_77.calls_nil (c0:Nat) (w:World):Calls Try.prog 77 #[.slice none 0 c0] w fun e w'=>∃ v0_:Value,e=.returned (v0_)∧Kd.R k68 68 w' w.heap.size (fun _=>True) v0_ ([]:List (S68))∧Below w.heap.size w w':=by
 have hnil:=fun (W_:World)=>Lib.run_eql_slice_nil (P:=Try.prog) W_ 22 68 none 0 c0 0 0 Try.underlying22
 simp only [Option.isNone_none] at hnil;go_enter Try.func77,Try.ntmps77;go_wp2
 go_ret
 exact ⟨_,rfl,Kd.R_nil _ _ _ _ _,Below.refl _ _⟩
theorem api_House_77.calls (A0:Option Addr) (c0:Nat) (l0:List (S68)) (r:List (S68)) (w:World) (hr0:Kd.C k68 w A0 l0.length l0) (hc0:l0.length≤c0) (h:api_House_77.f l0=some r) :
  Calls Try.prog 77 #[.slice A0 l0.length c0] w fun e w'=>∃ v0_:Value,e=.returned (v0_)∧Kd.R k68 68 w' w.heap.size (fun _=>True) v0_ r∧Below w.heap.size w w':=by
 unfold api_House_77.f at h;by_cases hlim:l0.length<5864062014805;rotate_left
 ·rw [if_neg hlim] at h;exact absurd h (by simp)
 rw [if_pos hlim] at h;obtain rfl:=oj_ h;have hnil:=fun (W_:World)=>Lib.run_eql_slice_nil (P:=Try.prog) W_ 22 68 A0 l0.length c0 0 0 Try.underlying22
 have HN:=am_ hnil;clear hnil;cases A0 with
 | none =>
  have hl0:l0=[]:=by
   cases l0 with
   | nil=>rfl
   | cons x xs =>
    obtain ⟨ad,e,_⟩:=hr0.2.2 (by simp);cases e
  subst hl0;exact api_House_77.calls_nil c0 w
 | some ad =>
  have HR0:=am_ hr0;have HC0:=am_ hc0;have LM:=am_ hlim;have HB:=am_ (Below.refl w.heap.size w);have hnil:=HN.out;clear hr0 hc0 hlim h HN;simp only [Option.isNone_some] at hnil;obtain ⟨y1,hy1⟩:∃ y_:List (S68),y_=([]:List (S68)):=⟨_,rfl⟩;have Ny1:=am_ hy1;clear hy1;obtain ⟨y2,hy2⟩:∃ y_:List (S68),y_=y1 ++ l0:=⟨_,rfl⟩;have Ny2:=am_ hy2;clear hy2;go_enter Try.func77,Try.ntmps77;go_wp2_with (first|((with_reducible refine gate_dst (N:=5) rfl ?_);refine Kd.R_lit k68 _ 68 ?hg (N:=5) ?hd (xs:=([]:List (S68))) (inner:=[]) (ok:=fun _=>True) (okp:=fun _=>True) ?hr ?hp (fun _ hk=>hk) trivial (Below.refl _ _) (Nat.le_refl _) (by simp) ?_;(case hd=>rfl);(case hg=>rfl);(case hr=>first|(go_simp;done)|(go_simp;rfl));(case hp=>exact (Reps.none _ _));intro v1 w1 ho7 hb hg_ hnew_;clear hg_ hnew_;rw [← Ny1.out] at ho7;have n0_:=am_ (Kd.R_lower ho7 (below_size (by repeat (first|(with_reducible first|exact HB.out|apply below_alloc|apply pw_below_drewN|apply below_drew1)|exact HB.out))));have n3_:=am_ (below_step (by repeat (first|(with_reducible first|exact HB.out|apply below_alloc|apply pw_below_drewN|apply below_drew1)|exact HB.out)) hb);clear HB;have HO1:=n0_;have HB:=n3_;clear n0_ n3_;clear hb ho7)|((with_reducible refine gate_builtin (b:=.append) (xs:=#[.tmp 5,.tmp 6]) rfl ?_);at_builtin;refine Kd.R_append_rows k68 (w0:=w) w.heap.size rfl (.tmp 5) (.tmp 6) 22 68 (.agg #[(.int .i64 0),(.int .i64 0),(.int .i64 0)]) 24 rfl Try.underlying22 info68 rfl (by decide) (by omega) v1 y1 l0 _ _ _ (fun _=>True) (fun _=>False) rfl rfl ?aO ?aR (fun _ _ h=>h) (fun _ h=>h.elim) ?aF ?aB ?aS ?aL ?_;(case aR=>exact (Kd.C_below HR0.out HB.out));(case aB=>exact (by repeat (first|(with_reducible first|exact HB.out|apply below_alloc|apply pw_below_drewN|apply below_drew1)|exact HB.out)));(case aF=>exact (fun _ _=>trivial));(case aO=>exact (by (with_reducible repeat (first|apply Kd.R_alloc|apply Kd.R_drewN|apply Kd.R_drew));exact HO1.out));(case aS=>exact (below_size (by repeat (first|(with_reducible first|exact HB.out|apply below_alloc|apply pw_below_drewN|apply below_drew1)|exact HB.out))));(case aL=>have h_:=LM.out;have h2_:=Ny1.out;subst h2_;simp;omega);intro v2 w2 ho hb hg hat;rw [← Ny2.out] at ho;have n1_:=am_ (hb);have n2_:=am_ (ho);clear HB;clear HO1;have HB:=n1_;have HO2:=n2_;clear n1_ n2_;clear ho hb hg hat))
  go_ret
  have hy:y2=l0:=by rw [Ny2.out,Ny1.out];simp
  exact ⟨_,rfl,hy ▸ (by (with_reducible repeat (first|apply Kd.R_alloc|apply Kd.R_drewN|apply Kd.R_drew));exact HO2.out),by repeat (first|(with_reducible first|exact HB.out|apply below_alloc|apply pw_below_drewN|apply below_drew1)|exact HB.out)⟩


end Go.Proofs.Ytbdijpjlgokfkaa.P
