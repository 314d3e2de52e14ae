/- Lists of numbers: what is in them, whether all are within bounds, whether they rise, their mask; no conditions beyond those that each theorem names. -/
import Derived.Test.YtooboeahekdibaaGrK
import Derived.Test.YtooboeahekdibaaGrG
import Derived.Test.YtooboeahekdibaaPx0
import Derived.Test.YtooboeahekdibaaPxImplA
namespace Go.Proofs.Ytooboeahekdibaa.Gr
open Go.RowKit Go.Proofs.Ytooboeahekdibaa.P Go.Proofs.YtooboeahekdibaaW.PrintWords Go.Proofs.YtooboeahekdibaaW.PrintLast Go.Proofs.YtooboeahekdibaaW.PrintMore

theorem within_eq' (a lo hi : Int) : impl_within.f a lo hi = some (decide (lo ≤ a ∧ a ≤ hi)) := by
  unfold impl_within.f
  by_cases h : a ≥ lo
  · rw [if_pos h]
    simp [show lo ≤ a from h]
  · rw [if_neg h]
    simp [show ¬ lo ≤ a from h]

theorem allIn_ev (L : List Int) (lo hi : Int) (hl : L.length ≤ 1048576) : Cm (fun k => impl_allWithin.f k L lo hi) (fun b => b = true ↔ ∀ x ∈ L, lo ≤ x ∧ x ≤ hi) := by
  unfold impl_allWithin.f
  refine Cm.up (fun k i (_ : Unit) => impl_allWithin.l0 k lo hi L L.length i) L.length (fun i _ => 0 ≤ i ∧ ∀ x ∈ L.take i.toNat, lo ≤ x ∧ x ≤ hi) _ ?_ 0 () (by omega) ⟨by omega, by simp⟩
  rintro i _ hi' ⟨h0, ht⟩ ih
  by_cases h : i < L.length
  · by_cases e : lo ≤ rd L i ∧ rd L i ≤ hi
    · refine Cm.step (fun k => by simp (disch := omega) only [impl_allWithin.l0, if_pos h, if_pos h0, within_eq', Option.bind_some, decide_eq_true e, if_true, w64 (i + 1)]; try rfl) (ih () h ⟨by omega, ?_⟩)
      rw [take_rd L i h0 h]
      intro x hx
      rcases List.mem_append.1 hx with hx | hx
      · exact ht x hx
      · rw [List.mem_singleton] at hx
        rw [hx]
        exact e
    · refine Cm.step (fun k => by simp only [impl_allWithin.l0, if_pos h, if_pos h0, within_eq', Option.bind_some, decide_eq_false e, Bool.false_eq_true, if_false]; try rfl) (Cm.now ⟨fun h => Bool.noConfusion h, fun hA => (e (hA _ (rd_mem L i h0 h))).elim⟩)
  · refine Cm.step (fun k => by simp only [impl_allWithin.l0, if_neg h]; try rfl) (Cm.now ⟨fun _ => ?_, fun _ => rfl⟩)
    rw [take_all L i (by omega)] at ht
    exact ht

end Go.Proofs.Ytooboeahekdibaa.Gr
