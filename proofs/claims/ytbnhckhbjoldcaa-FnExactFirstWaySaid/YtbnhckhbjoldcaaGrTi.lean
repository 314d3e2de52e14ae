/- Two nodes of a graph, by the program; no conditions beyond those that each theorem names. -/
import Derived.Test.YtbnhckhbjoldcaaGrH
import Derived.Test.YtbnhckhbjoldcaaGrC
import Derived.Test.YtbnhckhbjoldcaaPxImplA
namespace Go.Proofs.Ytbnhckhbjoldcaa.Gr
open Go.RowKit Go.Proofs.Ytbnhckhbjoldcaa.P Go.Proofs.YtbnhckhbjoldcaaW.PrintWords Go.Proofs.YtbnhckhbjoldcaaW.PrintLast Go.Proofs.YtbnhckhbjoldcaaW.PrintMore

theorem two_impl (s : Int) (l : List S82) (u v : Int) (hG : Gr.Good s l) (hI : Ev (fun k => impl_IsGraph.f k s l) true) : Ev (fun k => impl_hasNodes.f k s l [u, v]) (decide (0 ≤ u ∧ u < s) && decide (0 ≤ v ∧ v < s)) := by
  have h8 := hG.2.1
  have h0 := hG.1
  have hw : wrap64 (s - 1) = s - 1 := w64 _ (by omega) (by omega)
  have r0 : rd [u, v] 0 = u := rfl
  have r1 : rd [u, v] 1 = v := rfl
  have l1 : (([u, v] : List Int).length : Int) = 2 := rfl
  have w1 : wrap64 (0 + 1) = 1 := w64 _ (by omega) (by omega)
  have w2 : wrap64 (1 + 1) = 2 := w64 _ (by omega) (by omega)
  refine Cm.ev ?_
  unfold impl_hasNodes.f
  refine Cm.bindE hI (Cm.pos rfl (Cm.bindE (x := decide (0 ≤ u ∧ u < s) && decide (0 ≤ v ∧ v < s)) (Cm.ev ?_) (Cm.now rfl)))
  unfold impl_allWithin.f
  rw [hw, l1]
  refine Cm.step (fun k => by simp only [impl_allWithin.l0, l1, if_pos (show (0 : Int) < 2 by omega), if_pos (Int.le_refl 0), r0, within_eq, Option.bind_some, w1]; try rfl) ?_
  by_cases hu : 0 ≤ u ∧ u < s
  · rw [decide_eq_true hu, Bool.true_and]
    refine Cm.pos (decide_eq_true (by omega)) ?_
    refine Cm.step (fun k => by simp only [impl_allWithin.l0, l1, if_pos (show (1 : Int) < 2 by omega), if_pos (show (0 : Int) ≤ 1 by omega), r1, within_eq, Option.bind_some, w2]; try rfl) ?_
    by_cases hv : 0 ≤ v ∧ v < s
    · rw [decide_eq_true hv]
      refine Cm.pos (decide_eq_true (by omega)) ?_
      exact Cm.step (fun k => by simp only [impl_allWithin.l0, if_neg (show ¬ (2 : Int) < 2 by omega)]; try rfl) (Cm.now rfl)
    · rw [decide_eq_false hv]
      exact Cm.neg (by rw [decide_eq_true_eq]; omega) (Cm.now rfl)
  · rw [decide_eq_false hu, Bool.false_and]
    exact Cm.neg (by rw [decide_eq_true_eq]; omega) (Cm.now rfl)

end Go.Proofs.Ytbnhckhbjoldcaa.Gr
