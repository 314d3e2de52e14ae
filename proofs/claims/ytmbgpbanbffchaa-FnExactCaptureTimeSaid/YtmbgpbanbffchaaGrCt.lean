/- Whether a number stands in a list, by the library; no conditions beyond those that each theorem names. -/
import Derived.Test.YtmbgpbanbffchaaGrL
import Derived.Test.YtmbgpbanbffchaaPxSlicesA
namespace Go.Proofs.Ytmbgpbanbffchaa.Gr
open Go.RowKit Go.Proofs.Ytmbgpbanbffchaa.P Go.Proofs.YtmbgpbanbffchaaW.PrintWords Go.Proofs.YtmbgpbanbffchaaW.PrintLast Go.Proofs.YtmbgpbanbffchaaW.PrintMore

theorem contains_ev (L : List Int) (x : Int) (hl : L.length ≤ 1048576) : Ev (fun k => slices_Contains_int_int.f k L x) (decide (x ∈ L)) := by
  refine Cm.ev ?_
  unfold slices_Contains_int_int.f slices_Index_int_int.f
  refine Cm.bind (P := fun t => t ≥ 0 ↔ x ∈ L) ?_ (fun t ht => Cm.now ?_)
  · refine Cm.up (fun k i (_ : Unit) => slices_Index_int_int.l0 k L x L.length i) L.length (fun i _ => 0 ≤ i ∧ x ∉ L.take i.toNat) _ ?_ 0 () (by omega) ⟨by omega, by simp⟩
    rintro i _ hi ⟨h0, ht⟩ ih
    by_cases h : i < L.length
    · by_cases e : x = rd L i
      · refine Cm.step (fun k => by simp only [slices_Index_int_int.l0, if_pos h, if_pos h0, if_pos e]; try rfl) (Cm.now ⟨fun _ => e ▸ rd_mem L i h0 h, fun _ => h0⟩)
      · refine Cm.step (fun k => by simp (disch := omega) only [slices_Index_int_int.l0, if_pos h, if_pos h0, if_neg e, w64 (i + 1)]; try rfl) (ih () h ⟨by omega, ?_⟩)
        rw [take_rd L i h0 h, List.mem_append, List.mem_singleton]
        rintro (h' | h')
        · exact ht h'
        · exact e h'
    · refine Cm.step (fun k => by simp only [slices_Index_int_int.l0, if_neg h]; try rfl) (Cm.now ?_)
      rw [take_all L i (by omega)] at ht
      exact ⟨fun h => by omega, fun h => (ht h).elim⟩
  · exact decide_eq_decide.2 ht

end Go.Proofs.Ytmbgpbanbffchaa.Gr
