/- Functions of this seat as plain Lean functions, with proofs that the Go code comes to just their answers, or what stands between them and a law's statement; no conditions. (Laid by a program of this session, out of the kit's print.) -/
import Derived.Test.YtiencnnkphipoaaPx0
import Derived.Test.YtiencnnkphipoaaVOpen
namespace Go.Proofs.Ytiencnnkphipoaa.P
open Go.RowKit Go.ChangeShapes Go.WideShapes Go.Proofs.YtiencnnkphipoaaW.PrintWords Go.Proofs.Ytiencnnkphipoaa
set_option linter.unusedVariables false
def g24 (x : S24) : Prop := (V.gInt .i64) x.f0 ∧ (V.gInt .i64) x.f1 ∧ (V.gList (V.gInt .i64)) x.f2
theorem opens3 : V.Opens Try.prog 3 (Kd.int .i64) (V.gInt .i64) :=
  V.opens_int Try.underlying3 (by kernel_rfl)
theorem opens22 : V.Opens Try.prog 22 (Kd.slice 3 (Kd.int .i64)) (V.gList (V.gInt .i64)) :=
  V.opens_slice Try.underlying22 (by kernel_rfl) opens3
theorem opens24 : V.Opens Try.prog 24 k24 g24 :=
  ⟨by kernel_rfl, fun {H enc w base spare held fuel cs y} h => by
    obtain ⟨hl, hf⟩ := V.fields_of Try.underlying24 h
    replace hl : cs.length = 3 := hl.trans (by kernel_rfl)
    obtain ⟨x0, h0, g0⟩ := V.field_at opens3 (cs := cs) (o := 0) (s := 1) rfl (hf 0 _ rfl)
    obtain ⟨x1, h1, g1⟩ := V.field_at opens3 (cs := cs) (o := 1) (s := 1) rfl (hf 1 _ rfl)
    obtain ⟨x2, h2, g2⟩ := V.field_at opens22 (cs := cs) (o := 2) (s := 1) rfl (hf 2 _ rfl)
    exact ⟨⟨x0, x1, x2⟩, (V.pair_at h0 (V.pair_at h1 (V.last_at (by omega) h2)) : (k24.K) w _ (cs.drop 0)), ⟨g0, g1, g2⟩⟩⟩
def g26 (x : S26) : Prop := (V.gList (V.gInt .i64)) x.f0 ∧ (V.gList (V.gInt .i64)) x.f1
theorem opens26 : V.Opens Try.prog 26 k26 g26 :=
  ⟨by kernel_rfl, fun {H enc w base spare held fuel cs y} h => by
    obtain ⟨hl, hf⟩ := V.fields_of Try.underlying26 h
    replace hl : cs.length = 2 := hl.trans (by kernel_rfl)
    obtain ⟨x0, h0, g0⟩ := V.field_at opens22 (cs := cs) (o := 0) (s := 1) rfl (hf 0 _ rfl)
    obtain ⟨x1, h1, g1⟩ := V.field_at opens22 (cs := cs) (o := 1) (s := 1) rfl (hf 1 _ rfl)
    exact ⟨⟨x0, x1⟩, (V.pair_at h0 (V.last_at (by omega) h1) : (k26.K) w _ (cs.drop 0)), ⟨g0, g1⟩⟩⟩
end Go.Proofs.Ytiencnnkphipoaa.P
