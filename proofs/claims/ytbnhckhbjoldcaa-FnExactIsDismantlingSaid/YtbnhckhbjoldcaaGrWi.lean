/- Rising lists, masks of lists and lists of nodes, by the program; no conditions beyond those that each theorem names. -/
import Derived.Test.YtbnhckhbjoldcaaGrW
import Derived.Test.YtbnhckhbjoldcaaPxImplA
import Derived.Test.YtbnhckhbjoldcaaPxNetA
namespace Go.Proofs.Ytbnhckhbjoldcaa.Gr
open Go.RowKit Go.Proofs.Ytbnhckhbjoldcaa.P Go.Proofs.YtbnhckhbjoldcaaW.PrintWords Go.Proofs.YtbnhckhbjoldcaaW.PrintLast Go.Proofs.YtbnhckhbjoldcaaW.PrintMore

theorem incr_ev (L : List Int) (hl : L.length ≤ 1048576) : Cm (fun k => impl_increasing.f k L) (fun b => b = true ↔ Up L) := by
  unfold impl_increasing.f
  by_cases hz : (L.length : Int) < 1
  · have : L = [] := List.length_eq_zero_iff.1 (by omega)
    subst this
    exact Cm.step (fun k => by simp only [impl_increasing.l0, if_neg (show ¬ (1 : Int) < (([] : List Int).length : Int) by decide)]; try rfl) (Cm.now ⟨fun _ => List.Pairwise.nil, fun _ => rfl⟩)
  refine Cm.up (fun k i (_ : Unit) => impl_increasing.l0 k L i) L.length (fun i _ => 1 ≤ i ∧ ∀ j : Int, 0 < j → j < i → rd L (j - 1) < rd L j) _ ?_ 1 () (by omega) ⟨by omega, fun j h0 h1 => by omega⟩
  rintro i _ hi ⟨h0, ht⟩ ih
  by_cases h : i < L.length
  · by_cases e : rd L (i - 1) < rd L i
    · refine Cm.step (fun k => by simp (disch := omega) only [impl_increasing.l0, w64 (i - 1), w64 (i + 1), if_pos, if_neg]; try rfl) (ih () h ⟨by omega, fun j h1 h2 => ?_⟩)
      by_cases ej : j = i
      · subst ej; exact e
      · exact ht j h1 (by omega)
    · refine Cm.step (fun k => by simp (disch := omega) only [impl_increasing.l0, w64 (i - 1), if_pos]; try rfl) (Cm.now ⟨fun h => Bool.noConfusion h, fun hu => (e (up_rd hu (i - 1) i (by omega) (by omega) h)).elim⟩)
  · refine Cm.step (fun k => by simp only [impl_increasing.l0, if_neg h]; try rfl) (Cm.now ⟨fun _ => up_of_rd (fun j h1 h2 => ht j h1 (by omega)), fun _ => rfl⟩)

theorem mask_cm (L : List Int) (hl : L.length ≤ 1048576) (hm : ∀ x ∈ L, 0 ≤ x ∧ x < 8) : Cm (fun k => impl_maskOf.f k L) (fun r => M8 r ∧ ∀ v : Int, 0 ≤ v → v < 64 → bit r v = decide (v ∈ L)) := by
  unfold impl_maskOf.f
  refine Cm.up (fun k i m => impl_maskOf.l0 k m L L.length i) L.length (fun i m => 0 ≤ i ∧ M8 m ∧ ∀ v : Int, 0 ≤ v → v < 64 → bit m v = decide (v ∈ L.take i.toNat)) _ ?_ 0 0 (by omega) ⟨by omega, zero_ok.1, fun v h0 h1 => by rw [zero_ok.2 v h0 h1]; simp⟩
  rintro i m hi ⟨h0, hM, hb⟩ ih
  by_cases h : i < L.length
  · have hr := hm _ (rd_mem L i h0 h)
    have h1 := one_ok (rd L i) hr.1 hr.2
    have h2 := or_ok m _ hM h1.1
    refine Cm.step (fun k => by simp (disch := omega) only [impl_maskOf.l0, if_pos h, if_pos h0, if_pos hr.1, w64 (i + 1)]; try rfl) (ih _ h ⟨by omega, h2.1, fun v v0 v1 => ?_⟩)
    rw [h2.2 v v0 v1, hb v v0 v1, h1.2 v v0 v1, take_rd L i h0 h, Bool.eq_iff_iff, Bool.or_eq_true, decide_eq_true_eq, beq_iff_eq, decide_eq_true_eq, List.mem_append, List.mem_singleton]
  · refine Cm.step (fun k => by simp only [impl_maskOf.l0, if_neg h]; try rfl) (Cm.now ⟨hM, fun v v0 v1 => ?_⟩)
    rw [hb v v0 v1, take_all L i (by omega)]

/-- A list of nodes of a good graph. -/
theorem nodes_cm (s : Int) (l : List S82) (L : List Int) (hl : L.length ≤ 1048576) (hG : Good s l) (hI : Ev (fun k => impl_IsGraph.f k s l) true) : Cm (fun k => impl_hasNodes.f k s l L) (fun b => b = true ↔ ∀ x ∈ L, 0 ≤ x ∧ x < s) := by
  have h8 := hG.2.1
  have h0 := hG.1
  unfold impl_hasNodes.f
  rw [w64 (s - 1) (by omega) (by omega)]
  refine Cm.bindE hI (Cm.pos rfl (Cm.bind (allIn_ev L 0 (s - 1) hl) (fun b hb => Cm.now ?_)))
  rw [hb]
  exact ⟨fun h x hx => by have := h x hx; omega, fun h x hx => by have := h x hx; omega⟩

end Go.Proofs.Ytbnhckhbjoldcaa.Gr
