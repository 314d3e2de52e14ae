/- The pure law FnExactCompleteGraph: each size that is taken by computing, all others refused alike. -/
import Derived.Test.YtooeemiljeeoaaaPx6
namespace Go.Proofs.Ytooeemiljeeoaaa.Pure
open Go.RowKit Go.Proofs.Ytooeemiljeeoaaa.P Go.Proofs.YtooeemiljeeoaaaW.PrintWords Go.Proofs.YtooeemiljeeoaaaW.PrintLast

set_option maxRecDepth 100000 in
theorem FnExactCompleteGraph : laws_FnExactCompleteGraph.Pure := by
  intro a0 hw
  by_cases h : 0 ≤ a0 ∧ a0 ≤ 8
  · refine ⟨100, ?_⟩
    have hc : a0 = 0 ∨ a0 = 1 ∨ a0 = 2 ∨ a0 = 3 ∨ a0 = 4 ∨ a0 = 5 ∨ a0 = 6 ∨ a0 = 7 ∨ a0 = 8 := by omega
    rcases hc with rfl | rfl | rfl | rfl | rfl | rfl | rfl | rfl | rfl <;> (show laws_FnExactCompleteGraph.f 100 _ = some true; kernel_rfl)
  · have e1 : spec_l1In.f a0 0 8 = some false := by
      unfold spec_l1In.f
      by_cases h0 : a0 ≥ 0
      · rw [if_pos h0]; have : ¬ a0 ≤ 8 := by omega
        simp [this]
      · rw [if_neg h0]
    have e2 : impl_within.f a0 0 8 = some false := by
      unfold impl_within.f
      by_cases h0 : a0 ≥ 0
      · rw [if_pos h0]; have : ¬ a0 ≤ 8 := by omega
        simp [this]
      · rw [if_neg h0]
    have hs : ∀ k, spec_CompleteGraph.f k a0 = some (0, [], false) := fun k => by unfold spec_CompleteGraph.f; rw [e1]; rfl
    have hi : ∀ k, impl_CompleteGraph.f k a0 = some (0, [], false) := fun k => by unfold impl_CompleteGraph.f; rw [e2]; rfl
    refine ⟨8, ?_⟩
    have q1 : ∀ k, laws_eqGraph.f (k + 1) 0 [] 0 [] = some true := fun k => rfl
    have q2 : ∀ k, laws_markGraph.f (k + 1) 0 [] 1 = some (1, []) := fun k => rfl
    have q3 : ∀ k, laws_heldGraph.f (k + 1) 0 [] 1 = some 1 := fun k => rfl
    simp [laws_FnExactCompleteGraph.f, laws_FnExactCompleteGraph.j0, laws_FnExactCompleteGraph.j1, hs, hi, q1, q2, q3]

end Go.Proofs.Ytooeemiljeeoaaa.Pure
