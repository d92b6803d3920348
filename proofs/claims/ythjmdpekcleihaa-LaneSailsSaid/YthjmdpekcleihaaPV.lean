/- Functions of this seat as plain Lean functions, with proofs that the Go code comes to just their answers, or what stands between them and a law's statement; no conditions. (Laid by a program of this session, out of the kit's print.) -/
import Derived.Test.YthjmdpekcleihaaPx0
import Derived.Test.YthjmdpekcleihaaVOpen
namespace Go.Proofs.Ythjmdpekcleihaa.P
open Go.RowKit Go.ChangeShapes Go.WideShapes Go.Proofs.YthjmdpekcleihaaW.PrintWords Go.Proofs.Ythjmdpekcleihaa
set_option linter.unusedVariables false
def g53 (x : S53) : Prop := (V.gInt .i64) x.f0 ∧ (V.gInt .i64) x.f1 ∧ (V.gList (V.gInt .i64)) x.f2
theorem opens3 : V.Opens Try.prog 3 (Kd.int .i64) (V.gInt .i64) :=
  V.opens_int Try.underlying3 (by kernel_rfl)
theorem opens22 : V.Opens Try.prog 22 (Kd.slice 3 (Kd.int .i64)) (V.gList (V.gInt .i64)) :=
  V.opens_slice Try.underlying22 (by kernel_rfl) opens3
theorem opens53 : V.Opens Try.prog 53 k53 g53 :=
  ⟨by kernel_rfl, fun {H enc w base spare held fuel cs y} h => by
    obtain ⟨hl, hf⟩ := V.fields_of Try.underlying53 h
    replace hl : cs.length = 3 := hl.trans (by kernel_rfl)
    obtain ⟨x0, h0, g0⟩ := V.field_at opens3 (cs := cs) (o := 0) (s := 1) rfl (hf 0 _ rfl)
    obtain ⟨x1, h1, g1⟩ := V.field_at opens3 (cs := cs) (o := 1) (s := 1) rfl (hf 1 _ rfl)
    obtain ⟨x2, h2, g2⟩ := V.field_at opens22 (cs := cs) (o := 2) (s := 1) rfl (hf 2 _ rfl)
    exact ⟨⟨x0, x1, x2⟩, (V.pair_at h0 (V.pair_at h1 (V.last_at (by omega) h2)) : (k53.K) w _ (cs.drop 0)), ⟨g0, g1, g2⟩⟩⟩
def g55 (x : S55) : Prop := (V.gList (V.gInt .i64)) x.f0 ∧ (V.gList (V.gInt .i64)) x.f1
theorem opens55 : V.Opens Try.prog 55 k55 g55 :=
  ⟨by kernel_rfl, fun {H enc w base spare held fuel cs y} h => by
    obtain ⟨hl, hf⟩ := V.fields_of Try.underlying55 h
    replace hl : cs.length = 2 := hl.trans (by kernel_rfl)
    obtain ⟨x0, h0, g0⟩ := V.field_at opens22 (cs := cs) (o := 0) (s := 1) rfl (hf 0 _ rfl)
    obtain ⟨x1, h1, g1⟩ := V.field_at opens22 (cs := cs) (o := 1) (s := 1) rfl (hf 1 _ rfl)
    exact ⟨⟨x0, x1⟩, (V.pair_at h0 (V.last_at (by omega) h1) : (k55.K) w _ (cs.drop 0)), ⟨g0, g1⟩⟩⟩
def g57 (x : S57) : Prop := (V.gInt .i64) x.f0 ∧ (V.gInt .i64) x.f1 ∧ (V.gInt .i64) x.f2 ∧ (V.gInt .i64) x.f3 ∧ (V.gInt .i64) x.f4
theorem opens57 : V.Opens Try.prog 57 k57 g57 :=
  ⟨by kernel_rfl, fun {H enc w base spare held fuel cs y} h => by
    obtain ⟨hl, hf⟩ := V.fields_of Try.underlying57 h
    replace hl : cs.length = 5 := hl.trans (by kernel_rfl)
    obtain ⟨x0, h0, g0⟩ := V.field_at opens3 (cs := cs) (o := 0) (s := 1) rfl (hf 0 _ rfl)
    obtain ⟨x1, h1, g1⟩ := V.field_at opens3 (cs := cs) (o := 1) (s := 1) rfl (hf 1 _ rfl)
    obtain ⟨x2, h2, g2⟩ := V.field_at opens3 (cs := cs) (o := 2) (s := 1) rfl (hf 2 _ rfl)
    obtain ⟨x3, h3, g3⟩ := V.field_at opens3 (cs := cs) (o := 3) (s := 1) rfl (hf 3 _ rfl)
    obtain ⟨x4, h4, g4⟩ := V.field_at opens3 (cs := cs) (o := 4) (s := 1) rfl (hf 4 _ rfl)
    exact ⟨⟨x0, x1, x2, x3, x4⟩, (V.pair_at h0 (V.pair_at h1 (V.pair_at h2 (V.pair_at h3 (V.last_at (by omega) h4)))) : (k57.K) w _ (cs.drop 0)), ⟨g0, g1, g2, g3, g4⟩⟩⟩
end Go.Proofs.Ythjmdpekcleihaa.P
