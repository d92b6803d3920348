/- Layer 11, TownDues (P11.3): how long a town waits until it grows. No conditions. -/
import Derived.Test.YtbdijpjlgokfkaaPSTownDues
import Derived.Test.YtbdijpjlgokfkaaTown0
namespace Go.Proofs.Ytbdijpjlgokfkaa.Pure
set_option linter.unusedVariables false
set_option linter.unusedSimpArgs false
open Go.RowKit Go.Proofs.YtbdijpjlgokfkaaW.PrintWords Go.Proofs.Ytbdijpjlgokfkaa.P Go.Proofs.Ytbdijpjlgokfkaa

def due (a : Int) : Int := if a ≤ 0 then 120 else if a = 1 then 60 else if a = 2 then 30 else if a = 3 then 20 else 15
theorem ref_due_eq (a : Int) : hinterlandref11_Due.f a = some (due a) := by
  unfold hinterlandref11_Due.f due
  repeat' split
  all_goals rfl
theorem due_eq (a : Int) : town_Due.f a = some (due a) := by
  unfold town_Due.f due
  by_cases h0 : a ≤ 0
  · rw [if_pos h0, if_pos h0]
  rw [if_neg h0, if_neg h0]
  by_cases h4 : a ≥ 4
  · rw [if_pos h4, if_neg (by omega), if_neg (by omega), if_neg (by omega)]
  rw [if_neg h4, if_pos (by omega), if_pos (by omega)]
  rcases (by omega : a = 1 ∨ a = 2 ∨ a = 3) with h | h | h <;> subst h <;> rfl
theorem due_le {a b : Int} (h : a ≤ b) : due a ≥ due b := by
  unfold due
  repeat' split
  all_goals omega

theorem TownDues : hinterlandlaw11_TownDues.Pure := by
  intro a b _ _
  refine Ev.rounds ?_
  unfold hinterlandlaw11_TownDues.f
  refine Ev.bindc (ref_due_eq a) (Ev.bindc (due_eq a) (Ev.pos (by first | rfl | trivial) ?_))
  by_cases h : a > b
  · exact Ev.pos h known_then
  · exact Ev.neg h (Ev.bindc (due_eq b) (Ev.pos (due_le (by omega)) known_then))

end Go.Proofs.Ytbdijpjlgokfkaa.Pure
