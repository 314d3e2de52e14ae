/- Rising lists, masks of lists and lists of nodes, by the program; no conditions beyond those that each theorem names. -/
import Derived.Test.YtooboeahekdibaaGrW
import Derived.Test.YtooboeahekdibaaPx0
import Derived.Test.YtooboeahekdibaaPxImplA
import Derived.Test.YtooboeahekdibaaPxNetA
namespace Go.Proofs.Ytooboeahekdibaa.Gr
open Go.RowKit Go.Proofs.Ytooboeahekdibaa.P Go.Proofs.YtooboeahekdibaaW.PrintWords Go.Proofs.YtooboeahekdibaaW.PrintLast Go.Proofs.YtooboeahekdibaaW.PrintMore

theorem mask_cm (L : List Int) (hl : L.length ≤ 1048576) (hm : ∀ x ∈ L, 0 ≤ x ∧ x < 8) : Cm (fun k => impl_maskOf.f k L) (fun r => M8 r ∧ ∀ v : Int, 0 ≤ v → v < 64 → bit r v = decide (v ∈ L)) := by
  unfold impl_maskOf.f
  refine Cm.up (fun k i m => impl_maskOf.l0 k m L L.length i) L.length (fun i m => 0 ≤ i ∧ M8 m ∧ ∀ v : Int, 0 ≤ v → v < 64 → bit m v = decide (v ∈ L.take i.toNat)) _ ?_ 0 0 (by omega) ⟨by omega, zero_ok.1, fun v h0 h1 => by rw [zero_ok.2 v h0 h1]; simp⟩
  rintro i m hi ⟨h0, hM, hb⟩ ih
  by_cases h : i < L.length
  · have hr := hm _ (rd_mem L i h0 h)
    have h1 := one_ok (rd L i) hr.1 hr.2
    have h2 := or_ok m _ hM h1.1
    refine Cm.step (fun k => by simp (disch := omega) only [impl_maskOf.l0, if_pos h, if_pos h0, if_pos hr.1, w64 (i + 1)]; try rfl) (ih _ h ⟨by omega, h2.1, fun v v0 v1 => ?_⟩)
    rw [h2.2 v v0 v1, hb v v0 v1, h1.2 v v0 v1, take_rd L i h0 h, Bool.eq_iff_iff, Bool.or_eq_true, decide_eq_true_eq, beq_iff_eq, decide_eq_true_eq, List.mem_append, List.mem_singleton]
  · refine Cm.step (fun k => by simp only [impl_maskOf.l0, if_neg h]; try rfl) (Cm.now ⟨hM, fun v v0 v1 => ?_⟩)
    rw [hb v v0 v1, take_all L i (by omega)]
/-- A list of nodes of a good graph. -/
theorem nodes_cm (s : Int) (l : List S59) (L : List Int) (hl : L.length ≤ 1048576) (hG : Good s l) (hI : Ev (fun k => impl_IsGraph.f k s l) true) : Cm (fun k => impl_hasNodes.f k s l L) (fun b => b = true ↔ ∀ x ∈ L, 0 ≤ x ∧ x < s) := by
  have h8 := hG.2.1
  have h0 := hG.1
  unfold impl_hasNodes.f
  rw [w64 (s - 1) (by omega) (by omega)]
  refine Cm.bindE hI (Cm.pos rfl (Cm.bind (allIn_ev L 0 (s - 1) hl) (fun b hb => Cm.now ?_)))
  rw [hb]
  exact ⟨fun h x hx => by have := h x hx; omega, fun h x hx => by have := h x hx; omega⟩

end Go.Proofs.Ytooboeahekdibaa.Gr
