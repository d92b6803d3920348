/- Layer 11, TownApart (P11.4): deeds of unlike companies come to the same in either order. No conditions. -/
import Derived.Test.YtbdijpjlgokfkaaPSTownApart
import Derived.Test.YtbdijpjlgokfkaaTown1
namespace Go.Proofs.Ytbdijpjlgokfkaa.Pure
set_option linter.unusedVariables false
set_option linter.unusedSimpArgs false
open Go.RowKit Go.Proofs.YtbdijpjlgokfkaaW.PrintWords Go.Proofs.Ytbdijpjlgokfkaa.P Go.Proofs.Ytbdijpjlgokfkaa
theorem felt_apart {M : List Int} {a b d e : Int} (hab : a.toNat ≠ b.toNat) : felt (felt M a d) b e = felt (felt M b e) a d := by
  unfold felt
  have e1 : (M.set a.toNat (mx (-1000) (mn (M.getD a.toNat 0 + adds d) 1000))).getD b.toNat 0 = M.getD b.toNat 0 := by
    simp [List.getD_eq_getElem?_getD, List.getElem?_set, hab]
  have e2 : (M.set b.toNat (mx (-1000) (mn (M.getD b.toNat 0 + adds e) 1000))).getD a.toNat 0 = M.getD a.toNat 0 := by
    simp [List.getD_eq_getElem?_getD, List.getElem?_set, Ne.symm hab]
  rw [e1, e2, List.set_comm _ _ hab]
theorem felt_code {tile : Int} {H : List S68} {M : List Int} {mv du c d a e : Int} (h : dcode tile H M mv du c d = 0) (k : dcode tile H M mv du a e = 0) : dcode tile H (felt M a e) mv du c d = 0 := by
  have h := dcode_zero.1 h
  have hz := tcode_zero.1 h.1
  exact dcode_zero.2 ⟨tcode_zero.2 ⟨hz.1, ⟨hz.2.1.1, felt_moods hz.2.1.2.1 a e, hz.2.1.2.2⟩, hz.2.2⟩, h.2⟩

theorem TownApart : hinterlandlaw11_TownApart.Pure := by
  intro tile H M mv du a b d e _ _ _ _ _ _ _ _ _
  refine Ev.rounds ?_
  unfold hinterlandlaw11_TownApart.f
  refine Ev.bindc (far_eq _ _ _ _ _ _) ?_
  have out : Ev (fun k => hinterlandlaw11_TownApart.j0 k a b d e true tile H M mv du) true := by
    refine Ev.step (fun k => by simp only [hinterlandlaw11_TownApart.j0]; rfl) ?_
    exact Ev.pos (by first | rfl | trivial) known_then
  by_cases hfar : ((([] : List S80).length : Nat) : Int) > 300 ∨ (H.length : Int) > 600 ∨ (M.length : Int) > 300
  · exact Ev.pos (decide_eq_true hfar) out
  refine Ev.neg (fun h => hfar (of_decide_eq_true h)) ?_
  by_cases hab : a = b
  · rw [show (a == b) = true from beq_iff_eq.2 hab]; exact out
  rw [show (a == b) = false from beq_eq_false_iff_ne.2 hab]
  refine Ev.step (fun k => by simp only [hinterlandlaw11_TownApart.j0]; rfl) ?_
  refine Ev.neg (by simp) ?_
  have out1 : ∀ x0 x1 x2 x3 x4 y0 y1 y2 y3 y4, Ev (fun k => hinterlandlaw11_TownApart.j1 k a b d e true x0 x1 x2 x3 x4 y0 y1 y2 y3 y4) true := by
    intro x0 x1 x2 x3 x4 y0 y1 y2 y3 y4
    refine Ev.step (fun k => by simp only [hinterlandlaw11_TownApart.j1]; rfl) ?_
    exact Ev.pos (by first | rfl | trivial) known_then
  by_cases h : dcode tile H M mv du a d = 0
  · refine Ev.bind (feel_ok h) ?_
    by_cases g : dcode tile H M mv du b e = 0
    · refine Ev.bind (feel_ok g) (Ev.pos (by first | rfl | trivial) ?_)
      dsimp only
      refine Ev.step (fun k => by simp only [hinterlandlaw11_TownApart.j1]; rfl) ?_
      have hd := dcode_zero.1 h
      have gd := dcode_zero.1 g
      have hv := tcode_zero.1 hd.1
      have h12 : M.length = 12 := hv.2.1.2.1.2
      refine Ev.neg (by simp) (Ev.bind (feel_ok (felt_code g h)) (Ev.bind (feel_ok (felt_code h g)) (Ev.pos (by first | rfl | trivial) (Ev.pos (by first | rfl | trivial) ?_))))
      dsimp only
      rw [felt_apart (a := a) (b := b) (by omega)]
      exact Ev.bind (same_town_ev _ _ _ _ _ (by omega) (by rw [felt_length, felt_length]; omega)) (Ev.pos (by first | rfl | trivial) known_then)
    · refine Ev.bind (feel_bad (by omega) g) (Ev.pos (by first | rfl | trivial) ?_)
      dsimp only
      rw [show (dcode tile H M mv du b e != 0) = true from bne_iff_ne.2 g]
      exact out1 _ _ _ _ _ _ _ _ _ _
  · refine Ev.bind (feel_bad (by omega) h) ?_
    by_cases g : dcode tile H M mv du b e = 0
    · exact Ev.bind (feel_ok g) (Ev.neg h (out1 _ _ _ _ _ _ _ _ _ _))
    · exact Ev.bind (feel_bad (by omega) g) (Ev.neg h (out1 _ _ _ _ _ _ _ _ _ _))

end Go.Proofs.Ytbdijpjlgokfkaa.Pure
