/- Covers, by both; no conditions beyond those that each theorem names. -/
import Derived.Test.YtooboeahekdibaaGrV0
import Derived.Test.YtooboeahekdibaaGrW
import Derived.Test.YtooboeahekdibaaPx0
namespace Go.Proofs.Ytooboeahekdibaa.Gr
open Go.RowKit Go.Proofs.Ytooboeahekdibaa.P Go.Proofs.YtooboeahekdibaaW.PrintWords Go.Proofs.YtooboeahekdibaaW.PrintLast Go.Proofs.YtooboeahekdibaaW.PrintMore

/-- y covers x in the set P. -/
def Cov (s : Int) (l : List S59) (P : Int → Bool) (x y : Int) : Prop := x ≠ y ∧ (0 ≤ y ∧ y < s) ∧ P y = true ∧ ∀ b : Int, 0 ≤ b → b < s → cl l x b = true → P b = true → cl l y b = true

open Classical in
/-- The covers of x in P, in order. -/
noncomputable def covs (s : Int) (l : List S59) (P : Int → Bool) (x : Int) : List Int := (V s).filter (fun y => decide (Cov s l P x y))
open Classical in
theorem mem_covs {s : Int} {l : List S59} {P : Int → Bool} {x y : Int} : y ∈ covs s l P x ↔ Cov s l P x y := by
  unfold covs
  rw [mem_VF, decide_eq_true_eq]
  exact ⟨fun h => h.2, fun h => ⟨h.2.1, h⟩⟩
theorem covs_up (s : Int) (l : List S59) (P : Int → Bool) (x : Int) : Up (covs s l P x) := filter_up (V_up _) _
theorem covs_len (s : Int) (l : List S59) (P : Int → Bool) (x : Int) : (covs s l P x).length ≤ s.toNat := VF_len
theorem covs_congr {s : Int} {l : List S59} {P Q : Int → Bool} (h : ∀ b : Int, 0 ≤ b → b < s → P b = Q b) (x : Int) : covs s l P x = covs s l Q x := by
  refine up_ext (covs_up _ _ _ _) (covs_up _ _ _ _) (fun y => ?_)
  rw [mem_covs, mem_covs]
  unfold Cov
  constructor
  · rintro ⟨h1, h2, h3, h4⟩
    exact ⟨h1, h2, by rw [← h y h2.1 h2.2]; exact h3, fun b b0 b1 hc hq => h4 b b0 b1 hc (by rw [h b b0 b1]; exact hq)⟩
  · rintro ⟨h1, h2, h3, h4⟩
    exact ⟨h1, h2, by rw [h y h2.1 h2.2]; exact h3, fun b b0 b1 hc hq => h4 b b0 b1 hc (by rw [← h b b0 b1]; exact hq)⟩

end Go.Proofs.Ytooboeahekdibaa.Gr
