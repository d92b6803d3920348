/- Functions of this seat as plain Lean functions, with proofs that the Go code comes to just their answers, or what stands between them and a law's statement; no conditions. (Laid by a program of this session, out of the kit's print.) -/
import Derived.Test.YthbjchicpebglaaPx0
import Derived.Test.YthbjchicpebglaaVOpen
namespace Go.Proofs.Ythbjchicpebglaa.P
open Go.RowKit Go.ChangeShapes Go.WideShapes Go.Proofs.YthbjchicpebglaaW.PrintWords Go.Proofs.Ythbjchicpebglaa
set_option linter.unusedVariables false
def g33 (x : S33) : Prop := (V.gInt .i64) x.f0 ∧ (V.gInt .i64) x.f1 ∧ (V.gInt .i64) x.f2 ∧ (V.gInt .i64) x.f3 ∧ (V.gInt .i64) x.f4 ∧ (V.gInt .i64) x.f5 ∧ (V.gInt .i64) x.f6 ∧ (V.gInt .i64) x.f7 ∧ (V.gInt .i64) x.f8
theorem opens3 : V.Opens Try.prog 3 (Kd.int .i64) (V.gInt .i64) :=
  V.opens_int Try.underlying3 (by kernel_rfl)
theorem opens33 : V.Opens Try.prog 33 k33 g33 :=
  ⟨by kernel_rfl, fun {H enc w base spare held fuel cs y} h => by
    obtain ⟨hl, hf⟩ := V.fields_of Try.underlying33 h
    replace hl : cs.length = 9 := hl.trans (by kernel_rfl)
    obtain ⟨x0, h0, g0⟩ := V.field_at opens3 (cs := cs) (o := 0) (s := 1) rfl (hf 0 _ rfl)
    obtain ⟨x1, h1, g1⟩ := V.field_at opens3 (cs := cs) (o := 1) (s := 1) rfl (hf 1 _ rfl)
    obtain ⟨x2, h2, g2⟩ := V.field_at opens3 (cs := cs) (o := 2) (s := 1) rfl (hf 2 _ rfl)
    obtain ⟨x3, h3, g3⟩ := V.field_at opens3 (cs := cs) (o := 3) (s := 1) rfl (hf 3 _ rfl)
    obtain ⟨x4, h4, g4⟩ := V.field_at opens3 (cs := cs) (o := 4) (s := 1) rfl (hf 4 _ rfl)
    obtain ⟨x5, h5, g5⟩ := V.field_at opens3 (cs := cs) (o := 5) (s := 1) rfl (hf 5 _ rfl)
    obtain ⟨x6, h6, g6⟩ := V.field_at opens3 (cs := cs) (o := 6) (s := 1) rfl (hf 6 _ rfl)
    obtain ⟨x7, h7, g7⟩ := V.field_at opens3 (cs := cs) (o := 7) (s := 1) rfl (hf 7 _ rfl)
    obtain ⟨x8, h8, g8⟩ := V.field_at opens3 (cs := cs) (o := 8) (s := 1) rfl (hf 8 _ rfl)
    exact ⟨⟨x0, x1, x2, x3, x4, x5, x6, x7, x8⟩, (V.pair_at h0 (V.pair_at h1 (V.pair_at h2 (V.pair_at h3 (V.pair_at h4 (V.pair_at h5 (V.pair_at h6 (V.pair_at h7 (V.last_at (by omega) h8)))))))) : (k33.K) w _ (cs.drop 0)), ⟨g0, g1, g2, g3, g4, g5, g6, g7, g8⟩⟩⟩
theorem opens22 : V.Opens Try.prog 22 (Kd.slice 33 k33) (V.gList g33) :=
  V.opens_slice Try.underlying22 (by kernel_rfl) opens33
def g28 (x : S28) : Prop := (V.gInt .i64) x.f0 ∧ (V.gInt .i64) x.f1 ∧ (V.gInt .i64) x.f2 ∧ (V.gInt .i64) x.f3
theorem opens28 : V.Opens Try.prog 28 k28 g28 :=
  ⟨by kernel_rfl, fun {H enc w base spare held fuel cs y} h => by
    obtain ⟨hl, hf⟩ := V.fields_of Try.underlying28 h
    replace hl : cs.length = 4 := hl.trans (by kernel_rfl)
    obtain ⟨x0, h0, g0⟩ := V.field_at opens3 (cs := cs) (o := 0) (s := 1) rfl (hf 0 _ rfl)
    obtain ⟨x1, h1, g1⟩ := V.field_at opens3 (cs := cs) (o := 1) (s := 1) rfl (hf 1 _ rfl)
    obtain ⟨x2, h2, g2⟩ := V.field_at opens3 (cs := cs) (o := 2) (s := 1) rfl (hf 2 _ rfl)
    obtain ⟨x3, h3, g3⟩ := V.field_at opens3 (cs := cs) (o := 3) (s := 1) rfl (hf 3 _ rfl)
    exact ⟨⟨x0, x1, x2, x3⟩, (V.pair_at h0 (V.pair_at h1 (V.pair_at h2 (V.last_at (by omega) h3))) : (k28.K) w _ (cs.drop 0)), ⟨g0, g1, g2, g3⟩⟩⟩
end Go.Proofs.Ythbjchicpebglaa.P
