/- Functions of this seat as plain Lean functions, with proofs that the Go code comes to just their answers, or what stands between them and a law's statement; no conditions. (Laid by a program of this session, out of the kit's print.) -/
import Derived.Test.YtbdijpjlgokfkaaPx0
import Derived.Test.YtbdijpjlgokfkaaVOpen
namespace Go.Proofs.Ytbdijpjlgokfkaa.P
open Go.RowKit Go.ChangeShapes Go.WideShapes Go.Proofs.YtbdijpjlgokfkaaW.PrintWords Go.Proofs.Ytbdijpjlgokfkaa
set_option linter.unusedVariables false
def g68 (x : S68) : Prop := (V.gInt .i64) x.f0 ∧ (V.gInt .i64) x.f1 ∧ (V.gInt .i64) x.f2
def g25 (x : S25) : Prop := (V.gInt .i64) x.f0 ∧ (V.gList g68) x.f1 ∧ (V.gList (V.gInt .i64)) x.f2 ∧ (V.gInt .i64) x.f3 ∧ (V.gInt .i64) x.f4
theorem opens3 : V.Opens Try.prog 3 (Kd.int .i64) (V.gInt .i64) :=
  V.opens_int Try.underlying3 (by kernel_rfl)
theorem opens68 : V.Opens Try.prog 68 k68 g68 :=
  ⟨by kernel_rfl, fun {H enc w base spare held fuel cs y} h => by
    obtain ⟨hl, hf⟩ := V.fields_of Try.underlying68 h
    replace hl : cs.length = 3 := hl.trans (by kernel_rfl)
    obtain ⟨x0, h0, g0⟩ := V.field_at opens3 (cs := cs) (o := 0) (s := 1) rfl (hf 0 _ rfl)
    obtain ⟨x1, h1, g1⟩ := V.field_at opens3 (cs := cs) (o := 1) (s := 1) rfl (hf 1 _ rfl)
    obtain ⟨x2, h2, g2⟩ := V.field_at opens3 (cs := cs) (o := 2) (s := 1) rfl (hf 2 _ rfl)
    exact ⟨⟨x0, x1, x2⟩, (V.pair_at h0 (V.pair_at h1 (V.last_at (by omega) h2)) : (k68.K) w _ (cs.drop 0)), ⟨g0, g1, g2⟩⟩⟩
theorem opens22 : V.Opens Try.prog 22 (Kd.slice 68 k68) (V.gList g68) :=
  V.opens_slice Try.underlying22 (by kernel_rfl) opens68
theorem opens23 : V.Opens Try.prog 23 (Kd.slice 3 (Kd.int .i64)) (V.gList (V.gInt .i64)) :=
  V.opens_slice Try.underlying23 (by kernel_rfl) opens3
theorem opens25 : V.Opens Try.prog 25 k25 g25 :=
  ⟨by kernel_rfl, fun {H enc w base spare held fuel cs y} h => by
    obtain ⟨hl, hf⟩ := V.fields_of Try.underlying25 h
    replace hl : cs.length = 5 := hl.trans (by kernel_rfl)
    obtain ⟨x0, h0, g0⟩ := V.field_at opens3 (cs := cs) (o := 0) (s := 1) rfl (hf 0 _ rfl)
    obtain ⟨x1, h1, g1⟩ := V.field_at opens22 (cs := cs) (o := 1) (s := 1) rfl (hf 1 _ rfl)
    obtain ⟨x2, h2, g2⟩ := V.field_at opens23 (cs := cs) (o := 2) (s := 1) rfl (hf 2 _ rfl)
    obtain ⟨x3, h3, g3⟩ := V.field_at opens3 (cs := cs) (o := 3) (s := 1) rfl (hf 3 _ rfl)
    obtain ⟨x4, h4, g4⟩ := V.field_at opens3 (cs := cs) (o := 4) (s := 1) rfl (hf 4 _ rfl)
    exact ⟨⟨x0, x1, x2, x3, x4⟩, (V.pair_at h0 (V.pair_at h1 (V.pair_at h2 (V.pair_at h3 (V.last_at (by omega) h4)))) : (k25.K) w _ (cs.drop 0)), ⟨g0, g1, g2, g3, g4⟩⟩⟩
def g45 (x : S45) : Prop := (V.gInt .u64) x.f0
theorem opens43 : V.Opens Try.prog 43 (Kd.int .u64) (V.gInt .u64) :=
  V.opens_int Try.underlying43 (by kernel_rfl)
theorem opens45 : V.Opens Try.prog 45 k45 g45 :=
  ⟨by kernel_rfl, fun {H enc w base spare held fuel cs y} h => by
    obtain ⟨hl, hf⟩ := V.fields_of Try.underlying45 h
    replace hl : cs.length = 1 := hl.trans (by kernel_rfl)
    obtain ⟨x0, h0, g0⟩ := V.field_at opens43 (cs := cs) (o := 0) (s := 1) rfl (hf 0 _ rfl)
    exact ⟨⟨x0⟩, (V.last_at (by omega) h0 : (k45.K) w _ (cs.drop 0)), g0⟩⟩
end Go.Proofs.Ytbdijpjlgokfkaa.P
