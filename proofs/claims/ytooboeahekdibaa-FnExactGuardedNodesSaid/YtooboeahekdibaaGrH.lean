/- A list of nodes within the graph; no conditions beyond those that each theorem names. -/
import Derived.Test.YtooboeahekdibaaGrG
import Derived.Test.YtooboeahekdibaaPxImplA
import Derived.Test.YtooboeahekdibaaPxSpecA
namespace Go.Proofs.Ytooboeahekdibaa.Gr
open Go.RowKit Go.Proofs.Ytooboeahekdibaa.P Go.Proofs.YtooboeahekdibaaW.PrintWords Go.Proofs.YtooboeahekdibaaW.PrintLast

theorem within_eq (a lo hi : Int) : impl_within.f a lo hi = some (decide (lo ≤ a ∧ a ≤ hi)) := by
  unfold impl_within.f
  by_cases h : a ≥ lo
  · rw [if_pos h]
    simp [show lo ≤ a from h]
  · rw [if_neg h]
    simp [show ¬ lo ≤ a from h]

theorem one_within (v hi : Int) : Ev (fun k => impl_allWithin.f k [v] 0 hi) (decide (0 ≤ v ∧ v ≤ hi)) := by
  refine ⟨2, fun k hk => ?_⟩
  obtain ⟨k, rfl⟩ : ∃ m, k = m + 2 := ⟨k - 2, by omega⟩
  dsimp only
  have hw : wrap64 (0 + 1) = 1 := by unfold wrap64; omega
  unfold impl_allWithin.f
  simp only [impl_allWithin.l0, within_eq, Option.bind_some, hw, decide_eq_true_eq]
  have r0 : rd [v] 0 = v := rfl
  have l1 : (([v] : List Int).length : Int) = 1 := rfl
  rw [r0, l1, if_pos (by omega), if_pos (by omega), if_pos (by omega)]
  by_cases h : 0 ≤ v ∧ v ≤ hi
  · rw [if_pos h, if_neg (by omega), decide_eq_true h]
  · rw [if_neg h, decide_eq_false h]

theorem has_one (s : Int) (l : List S59) (v : Int) (hG : Good s l) (hI : Ev (fun k => impl_IsGraph.f k s l) true) : Ev (fun k => impl_hasNodes.f k s l [v]) (decide (0 ≤ v ∧ v < s)) := by
  have h8 := hG.2.1
  have h0 := hG.1
  have hw : wrap64 (s - 1) = s - 1 := by unfold wrap64; omega
  have e : decide (0 ≤ v ∧ v < s) = decide (0 ≤ v ∧ v ≤ s - 1) := by rw [decide_eq_decide]; omega
  rw [e]
  refine Ev.bind hI (Ev.congr (f := fun k => (impl_allWithin.f k [v] 0 (wrap64 (s - 1))).bind fun t => some t) (fun k => ?_) (Ev.bind (a := decide (0 ≤ v ∧ v ≤ s - 1)) ?_ (Ev.now _)))
  · rw [if_pos rfl]
  · rw [hw]
    exact one_within v (s - 1)

theorem has_not (s : Int) (l : List S59) (L : List Int) (hI : Ev (fun k => impl_IsGraph.f k s l) false) : Ev (fun k => impl_hasNodes.f k s l L) false := by
  refine Ev.bind hI (Ev.congr (fun k => ?_) (Ev.now _))
  rfl

theorem node_eq (s : Int) (l : List S59) (v : Int) (hG : Good s l) : spec_l2Node.f s l v = some (decide (0 ≤ v ∧ v < s)) := by
  have h8 := hG.2.1
  have h0 := hG.1
  have hw : wrap64 (s - 1) = s - 1 := by unfold wrap64; omega
  have e : decide (0 ≤ v ∧ v < s) = decide (0 ≤ v ∧ v ≤ s - 1) := by rw [decide_eq_decide]; omega
  unfold spec_l2Node.f
  rw [l1In_eq, hw, e]
  rfl

end Go.Proofs.Ytooboeahekdibaa.Gr
