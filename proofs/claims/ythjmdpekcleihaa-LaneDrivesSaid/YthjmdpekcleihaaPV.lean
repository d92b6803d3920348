/- Functions of this seat as plain Lean functions, with proofs that the Go code comes to just their answers, or what stands between them and a law's statement; no conditions. (Laid by a program of this session, out of the kit's print.) -/
import Derived.Test.YthjmdpekcleihaaPx0
import Derived.Test.YthjmdpekcleihaaVOpen
namespace Go.Proofs.Ythjmdpekcleihaa.P
open Go.RowKit Go.ChangeShapes Go.WideShapes Go.Proofs.YthjmdpekcleihaaW.PrintWords Go.Proofs.Ythjmdpekcleihaa
set_option linter.unusedVariables false
def g24 (x : S24) : Prop := (V.gInt .i64) x.f0 ∧ (V.gInt .i64) x.f1 ∧ (V.gList (V.gInt .i64)) x.f2 ∧ (V.gList (V.gInt .i64)) x.f3
def g50 (x : S50) : Prop := (V.gInt .i64) x.f0 ∧ (V.gInt .i64) x.f1 ∧ (V.gInt .i64) x.f2 ∧ (V.gInt .i64) x.f3 ∧ (V.gInt .i64) x.f4
def g33 (x : S33) : Prop := g24 x.f0 ∧ (V.gList (V.gInt .i64)) x.f1 ∧ (V.gList g50) x.f2
theorem opens3 : V.Opens Try.prog 3 (Kd.int .i64) (V.gInt .i64) :=
  V.opens_int Try.underlying3 (by kernel_rfl)
theorem opens22 : V.Opens Try.prog 22 (Kd.slice 3 (Kd.int .i64)) (V.gList (V.gInt .i64)) :=
  V.opens_slice Try.underlying22 (by kernel_rfl) opens3
theorem opens24 : V.Opens Try.prog 24 k24 g24 :=
  ⟨by kernel_rfl, fun {H enc w base spare held fuel cs y} h => by
    obtain ⟨hl, hf⟩ := V.fields_of Try.underlying24 h
    replace hl : cs.length = 4 := hl.trans (by kernel_rfl)
    obtain ⟨x0, h0, g0⟩ := V.field_at opens3 (cs := cs) (o := 0) (s := 1) rfl (hf 0 _ rfl)
    obtain ⟨x1, h1, g1⟩ := V.field_at opens3 (cs := cs) (o := 1) (s := 1) rfl (hf 1 _ rfl)
    obtain ⟨x2, h2, g2⟩ := V.field_at opens22 (cs := cs) (o := 2) (s := 1) rfl (hf 2 _ rfl)
    obtain ⟨x3, h3, g3⟩ := V.field_at opens22 (cs := cs) (o := 3) (s := 1) rfl (hf 3 _ rfl)
    exact ⟨⟨x0, x1, x2, x3⟩, (V.pair_at h0 (V.pair_at h1 (V.pair_at h2 (V.last_at (by omega) h3))) : (k24.K) w _ (cs.drop 0)), ⟨g0, g1, g2, g3⟩⟩⟩
theorem opens50 : V.Opens Try.prog 50 k50 g50 :=
  ⟨by kernel_rfl, fun {H enc w base spare held fuel cs y} h => by
    obtain ⟨hl, hf⟩ := V.fields_of Try.underlying50 h
    replace hl : cs.length = 5 := hl.trans (by kernel_rfl)
    obtain ⟨x0, h0, g0⟩ := V.field_at opens3 (cs := cs) (o := 0) (s := 1) rfl (hf 0 _ rfl)
    obtain ⟨x1, h1, g1⟩ := V.field_at opens3 (cs := cs) (o := 1) (s := 1) rfl (hf 1 _ rfl)
    obtain ⟨x2, h2, g2⟩ := V.field_at opens3 (cs := cs) (o := 2) (s := 1) rfl (hf 2 _ rfl)
    obtain ⟨x3, h3, g3⟩ := V.field_at opens3 (cs := cs) (o := 3) (s := 1) rfl (hf 3 _ rfl)
    obtain ⟨x4, h4, g4⟩ := V.field_at opens3 (cs := cs) (o := 4) (s := 1) rfl (hf 4 _ rfl)
    exact ⟨⟨x0, x1, x2, x3, x4⟩, (V.pair_at h0 (V.pair_at h1 (V.pair_at h2 (V.pair_at h3 (V.last_at (by omega) h4)))) : (k50.K) w _ (cs.drop 0)), ⟨g0, g1, g2, g3, g4⟩⟩⟩
theorem opens31 : V.Opens Try.prog 31 (Kd.slice 50 k50) (V.gList g50) :=
  V.opens_slice Try.underlying31 (by kernel_rfl) opens50
theorem opens33 : V.Opens Try.prog 33 k33 g33 :=
  ⟨by kernel_rfl, fun {H enc w base spare held fuel cs y} h => by
    obtain ⟨hl, hf⟩ := V.fields_of Try.underlying33 h
    replace hl : cs.length = 6 := hl.trans (by kernel_rfl)
    obtain ⟨x0, h0, g0⟩ := V.field_at opens24 (cs := cs) (o := 0) (s := 4) rfl (hf 0 _ rfl)
    obtain ⟨x1, h1, g1⟩ := V.field_at opens22 (cs := cs) (o := 4) (s := 1) rfl (hf 1 _ rfl)
    obtain ⟨x2, h2, g2⟩ := V.field_at opens31 (cs := cs) (o := 5) (s := 1) rfl (hf 2 _ rfl)
    exact ⟨⟨x0, x1, x2⟩, (V.pair_at h0 (V.pair_at h1 (V.last_at (by omega) h2)) : (k33.K) w _ (cs.drop 0)), ⟨g0, g1, g2⟩⟩⟩
theorem opens5 : V.Opens Try.prog 5 (Kd.int .u8) (V.gInt .u8) :=
  V.opens_int Try.underlying5 (by kernel_rfl)
theorem opens48 : V.Opens Try.prog 48 (Kd.slice 5 (Kd.int .u8)) (V.gList (V.gInt .u8)) :=
  V.opens_slice Try.underlying48 (by kernel_rfl) opens5
end Go.Proofs.Ythjmdpekcleihaa.P
