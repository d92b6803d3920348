/- Functions of this seat as plain Lean functions, with proofs that the Go code comes to just their answers, or what stands between them and a law's statement; no conditions. (Laid by a program of this session, out of the kit's print.) -/
import Derived.Test.YtbdijpjlgokfkaaPx0
import Derived.Test.YtbdijpjlgokfkaaVOpen
namespace Go.Proofs.Ytbdijpjlgokfkaa.P
open Go.RowKit Go.ChangeShapes Go.WideShapes Go.Proofs.YtbdijpjlgokfkaaW.PrintWords Go.Proofs.Ytbdijpjlgokfkaa
set_option linter.unusedVariables false
def g80 (x:S80):Prop:=V.gStr x.f0∧(V.gInt .i64) x.f1∧(V.gInt .i64) x.f2∧(V.gInt .i64) x.f3
theorem opens9:V.Opens Try.prog 9 Kd.string V.gStr :=
  V.opens_string Try.underlying9 (by kernel_rfl)
theorem opens3:V.Opens Try.prog 3 (Kd.int .i64) (V.gInt .i64) :=
  V.opens_int Try.underlying3 (by kernel_rfl)
theorem opens80:V.Opens Try.prog 80 k80 g80 :=
  ⟨by kernel_rfl,fun {H enc w base spare held fuel cs y} h=>by
    obtain ⟨hl,hf⟩:=V.fields_of Try.underlying80 h
    replace hl:cs.length=4:=hl.trans (by kernel_rfl)
    obtain ⟨x0,h0,g0⟩:=V.field_at opens9 (cs:=cs) (o:=0) (s:=1) rfl (hf 0 _ rfl)
    obtain ⟨x1,h1,g1⟩:=V.field_at opens3 (cs:=cs) (o:=1) (s:=1) rfl (hf 1 _ rfl)
    obtain ⟨x2,h2,g2⟩:=V.field_at opens3 (cs:=cs) (o:=2) (s:=1) rfl (hf 2 _ rfl)
    obtain ⟨x3,h3,g3⟩:=V.field_at opens3 (cs:=cs) (o:=3) (s:=1) rfl (hf 3 _ rfl)
    exact ⟨⟨x0,x1,x2,x3⟩,(V.pair_at h0 (V.pair_at h1 (V.pair_at h2 (V.last_at (by omega) h3))):(k80.K) w _ (cs.drop 0)),⟨g0,g1,g2,g3⟩⟩⟩
theorem opens40:V.Opens Try.prog 40 (Kd.slice 80 k80) (V.gList g80) :=
  V.opens_slice Try.underlying40 (by kernel_rfl) opens80
def g58 (x:S58):Prop:=(V.gInt .i64) x.f0∧(V.gInt .i64) x.f1∧(V.gList (V.gInt .i64)) x.f2
def g60 (x:S60):Prop:=(V.gInt .i64) x.f0∧(V.gInt .i64) x.f1∧(V.gList (V.gInt .i64)) x.f2∧(V.gList (V.gInt .i64)) x.f3
def g62 (x:S62):Prop:=g58 x.f0∧g60 x.f1∧(V.gList (V.gInt .i64)) x.f2
theorem opens23:V.Opens Try.prog 23 (Kd.slice 3 (Kd.int .i64)) (V.gList (V.gInt .i64)) :=
  V.opens_slice Try.underlying23 (by kernel_rfl) opens3
theorem opens58:V.Opens Try.prog 58 k58 g58 :=
  ⟨by kernel_rfl,fun {H enc w base spare held fuel cs y} h=>by
    obtain ⟨hl,hf⟩:=V.fields_of Try.underlying58 h
    replace hl:cs.length=3:=hl.trans (by kernel_rfl)
    obtain ⟨x0,h0,g0⟩:=V.field_at opens3 (cs:=cs) (o:=0) (s:=1) rfl (hf 0 _ rfl)
    obtain ⟨x1,h1,g1⟩:=V.field_at opens3 (cs:=cs) (o:=1) (s:=1) rfl (hf 1 _ rfl)
    obtain ⟨x2,h2,g2⟩:=V.field_at opens23 (cs:=cs) (o:=2) (s:=1) rfl (hf 2 _ rfl)
    exact ⟨⟨x0,x1,x2⟩,(V.pair_at h0 (V.pair_at h1 (V.last_at (by omega) h2)):(k58.K) w _ (cs.drop 0)),⟨g0,g1,g2⟩⟩⟩
theorem opens60:V.Opens Try.prog 60 k60 g60 :=
  ⟨by kernel_rfl,fun {H enc w base spare held fuel cs y} h=>by
    obtain ⟨hl,hf⟩:=V.fields_of Try.underlying60 h
    replace hl:cs.length=4:=hl.trans (by kernel_rfl)
    obtain ⟨x0,h0,g0⟩:=V.field_at opens3 (cs:=cs) (o:=0) (s:=1) rfl (hf 0 _ rfl)
    obtain ⟨x1,h1,g1⟩:=V.field_at opens3 (cs:=cs) (o:=1) (s:=1) rfl (hf 1 _ rfl)
    obtain ⟨x2,h2,g2⟩:=V.field_at opens23 (cs:=cs) (o:=2) (s:=1) rfl (hf 2 _ rfl)
    obtain ⟨x3,h3,g3⟩:=V.field_at opens23 (cs:=cs) (o:=3) (s:=1) rfl (hf 3 _ rfl)
    exact ⟨⟨x0,x1,x2,x3⟩,(V.pair_at h0 (V.pair_at h1 (V.pair_at h2 (V.last_at (by omega) h3))):(k60.K) w _ (cs.drop 0)),⟨g0,g1,g2,g3⟩⟩⟩
theorem opens62:V.Opens Try.prog 62 k62 g62 :=
  ⟨by kernel_rfl,fun {H enc w base spare held fuel cs y} h=>by
    obtain ⟨hl,hf⟩:=V.fields_of Try.underlying62 h
    replace hl:cs.length=8:=hl.trans (by kernel_rfl)
    obtain ⟨x0,h0,g0⟩:=V.field_at opens58 (cs:=cs) (o:=0) (s:=3) rfl (hf 0 _ rfl)
    obtain ⟨x1,h1,g1⟩:=V.field_at opens60 (cs:=cs) (o:=3) (s:=4) rfl (hf 1 _ rfl)
    obtain ⟨x2,h2,g2⟩:=V.field_at opens23 (cs:=cs) (o:=7) (s:=1) rfl (hf 2 _ rfl)
    exact ⟨⟨x0,x1,x2⟩,(V.pair_at h0 (V.pair_at h1 (V.last_at (by omega) h2)):(k62.K) w _ (cs.drop 0)),⟨g0,g1,g2⟩⟩⟩
def g68 (x:S68):Prop:=(V.gInt .i64) x.f0∧(V.gInt .i64) x.f1∧(V.gInt .i64) x.f2
def g25 (x:S25):Prop:=(V.gInt .i64) x.f0∧(V.gList g68) x.f1∧(V.gList (V.gInt .i64)) x.f2∧(V.gInt .i64) x.f3∧(V.gInt .i64) x.f4
theorem opens68:V.Opens Try.prog 68 k68 g68 :=
  ⟨by kernel_rfl,fun {H enc w base spare held fuel cs y} h=>by
    obtain ⟨hl,hf⟩:=V.fields_of Try.underlying68 h
    replace hl:cs.length=3:=hl.trans (by kernel_rfl)
    obtain ⟨x0,h0,g0⟩:=V.field_at opens3 (cs:=cs) (o:=0) (s:=1) rfl (hf 0 _ rfl)
    obtain ⟨x1,h1,g1⟩:=V.field_at opens3 (cs:=cs) (o:=1) (s:=1) rfl (hf 1 _ rfl)
    obtain ⟨x2,h2,g2⟩:=V.field_at opens3 (cs:=cs) (o:=2) (s:=1) rfl (hf 2 _ rfl)
    exact ⟨⟨x0,x1,x2⟩,(V.pair_at h0 (V.pair_at h1 (V.last_at (by omega) h2)):(k68.K) w _ (cs.drop 0)),⟨g0,g1,g2⟩⟩⟩
theorem opens22:V.Opens Try.prog 22 (Kd.slice 68 k68) (V.gList g68) :=
  V.opens_slice Try.underlying22 (by kernel_rfl) opens68
theorem opens25:V.Opens Try.prog 25 k25 g25 :=
  ⟨by kernel_rfl,fun {H enc w base spare held fuel cs y} h=>by
    obtain ⟨hl,hf⟩:=V.fields_of Try.underlying25 h
    replace hl:cs.length=5:=hl.trans (by kernel_rfl)
    obtain ⟨x0,h0,g0⟩:=V.field_at opens3 (cs:=cs) (o:=0) (s:=1) rfl (hf 0 _ rfl)
    obtain ⟨x1,h1,g1⟩:=V.field_at opens22 (cs:=cs) (o:=1) (s:=1) rfl (hf 1 _ rfl)
    obtain ⟨x2,h2,g2⟩:=V.field_at opens23 (cs:=cs) (o:=2) (s:=1) rfl (hf 2 _ rfl)
    obtain ⟨x3,h3,g3⟩:=V.field_at opens3 (cs:=cs) (o:=3) (s:=1) rfl (hf 3 _ rfl)
    obtain ⟨x4,h4,g4⟩:=V.field_at opens3 (cs:=cs) (o:=4) (s:=1) rfl (hf 4 _ rfl)
    exact ⟨⟨x0,x1,x2,x3,x4⟩,(V.pair_at h0 (V.pair_at h1 (V.pair_at h2 (V.pair_at h3 (V.last_at (by omega) h4)))):(k25.K) w _ (cs.drop 0)),⟨g0,g1,g2,g3,g4⟩⟩⟩
def g45 (x:S45):Prop:=(V.gInt .u64) x.f0
theorem opens43:V.Opens Try.prog 43 (Kd.int .u64) (V.gInt .u64) :=
  V.opens_int Try.underlying43 (by kernel_rfl)
theorem opens45:V.Opens Try.prog 45 k45 g45 :=
  ⟨by kernel_rfl,fun {H enc w base spare held fuel cs y} h=>by
    obtain ⟨hl,hf⟩:=V.fields_of Try.underlying45 h
    replace hl:cs.length=1:=hl.trans (by kernel_rfl)
    obtain ⟨x0,h0,g0⟩:=V.field_at opens43 (cs:=cs) (o:=0) (s:=1) rfl (hf 0 _ rfl)
    exact ⟨⟨x0⟩,(V.last_at (by omega) h0:(k45.K) w _ (cs.drop 0)),g0⟩⟩
theorem opens5:V.Opens Try.prog 5 (Kd.int .u8) (V.gInt .u8) :=
  V.opens_int Try.underlying5 (by kernel_rfl)
end Go.Proofs.Ytbdijpjlgokfkaa.P
