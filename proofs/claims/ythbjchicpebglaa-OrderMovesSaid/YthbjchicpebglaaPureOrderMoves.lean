/- Layer 15, OrderMoves (P15.4): the program and the reference say alike where a vehicle stands behind a change of its list. No conditions. -/
import Derived.Test.YthbjchicpebglaaPSOrderMoves
import Derived.Test.YthbjchicpebglaaOrder0
namespace Go.Proofs.Ythbjchicpebglaa.Pure
open Go.RowKit Go.Proofs.YthbjchicpebglaaW.PrintWords Go.Proofs.Ythbjchicpebglaa.P Go.Proofs.Ythbjchicpebglaa

theorem moved_same (k : Nat) (a b : Int) (i : Bool) (n : Int) : hinterlandref15_Moved.f (k + 1) a b i n = order_Moved.f (k + 1) a b i n := by
  unfold hinterlandref15_Moved.f order_Moved.f
  simp only [out_eq, within_eq, Option.bind_some, hinterlandref15_Moved.j0, order_Moved.j0]
  by_cases h1 : 0 ≤ a ∧ a ≤ 1000000 <;> by_cases h2 : 0 ≤ b ∧ b ≤ 1000000 <;> by_cases h3 : 0 ≤ n ∧ n ≤ 1000000 <;> simp [h1, h2, h3]
theorem moved_some (k : Nat) (a b : Int) (i : Bool) (n : Int) : ∃ r, order_Moved.f (k + 1) a b i n = some r := by
  unfold order_Moved.f
  simp only [within_eq, Option.bind_some, order_Moved.j0]
  repeat' split
  all_goals exact ⟨_, rfl⟩

theorem OrderMoves : hinterlandlaw15_OrderMoves.Pure := by
  intro a b i n _ _ _
  obtain ⟨K, hK⟩ := known_ev
  obtain ⟨r, hr⟩ := moved_some K a b i n
  refine ⟨K + 1, ?_⟩
  unfold hinterlandlaw15_OrderMoves.f
  have hk : hinterlandlaw15_known.f (K + 1) = some true := hK (K + 1) (by omega)
  rw [moved_same, hr, hk]
  simp

end Go.Proofs.Ythbjchicpebglaa.Pure
