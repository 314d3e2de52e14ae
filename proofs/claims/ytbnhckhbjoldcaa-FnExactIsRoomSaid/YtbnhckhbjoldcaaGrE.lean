/- Rising lists of nodes, by both tests; no conditions beyond those that each theorem names. -/
import Derived.Test.YtbnhckhbjoldcaaGrW
import Derived.Test.YtbnhckhbjoldcaaPxImplA
import Derived.Test.YtbnhckhbjoldcaaPxSpecL1Rising
import Derived.Test.YtbnhckhbjoldcaaPxSpecL2Set
namespace Go.Proofs.Ytbnhckhbjoldcaa.Gr
open Go.RowKit Go.Proofs.Ytbnhckhbjoldcaa.P Go.Proofs.YtbnhckhbjoldcaaW.PrintWords Go.Proofs.YtbnhckhbjoldcaaW.PrintLast Go.Proofs.YtbnhckhbjoldcaaW.PrintMore

theorem rising_cm (L : List Int) (hi : Int) (hl : L.length ≤ 1048576) : Cm (fun k => spec_l1Rising.f k L 0 hi) (fun b => b = true ↔ (∀ x ∈ L, 0 ≤ x ∧ x ≤ hi) ∧ Up L) := by
  unfold spec_l1Rising.f
  refine Cm.up (fun k i (_ : Unit) => spec_l1Rising.l0 k L 0 hi i) L.length (fun i _ => 0 ≤ i ∧ (∀ x ∈ L.take i.toNat, 0 ≤ x ∧ x ≤ hi) ∧ ∀ j : Int, 0 < j → j < i → rd L (j - 1) < rd L j) _ ?_ 0 () (by omega) ⟨by omega, by simp, fun j h0 h1 => by omega⟩
  rintro i _ hi' ⟨h0, ht, hu⟩ ih
  by_cases h : i < L.length
  · by_cases e : 0 ≤ rd L i ∧ rd L i ≤ hi
    · by_cases e2 : 0 < i → rd L (i - 1) < rd L i
      · have go : Cm (fun k => spec_l1Rising.l0 k L 0 hi (i + 1)) (fun b => b = true ↔ (∀ x ∈ L, 0 ≤ x ∧ x ≤ hi) ∧ Up L) := ih () h ⟨by omega, fun x hx => by
          rw [take_rd L i h0 h] at hx
          rcases List.mem_append.1 hx with hx | hx
          · exact ht x hx
          · rw [List.mem_singleton] at hx
            rw [hx]
            exact e, fun j h1 h2 => by
          by_cases ej : j = i
          · subst ej; exact e2 h1
          · exact hu j h1 (by omega)⟩
        by_cases h1 : 0 < i
        · have := e2 h1
          exact Cm.step (fun k => by simp (disch := omega) only [spec_l1Rising.l0, if_pos h, if_pos h0, l1In_eq, Option.bind_some, decide_eq_true e, if_true, w64 (i + 1), w64 (i - 1), if_pos, if_neg]; try rfl) go
        · exact Cm.step (fun k => by simp (disch := omega) only [spec_l1Rising.l0, if_pos h, if_pos h0, l1In_eq, Option.bind_some, decide_eq_true e, if_true, w64 (i + 1), if_neg]; try rfl) go
      · have h1 : 0 < i := by
          by_cases h1 : 0 < i
          · exact h1
          · exact (e2 (fun h => (h1 h).elim)).elim
        have h2 : ¬ rd L (i - 1) < rd L i := fun h => e2 (fun _ => h)
        exact Cm.step (fun k => by simp (disch := omega) only [spec_l1Rising.l0, if_pos h, if_pos h0, l1In_eq, Option.bind_some, decide_eq_true e, if_true, w64 (i - 1), if_pos]; try rfl) (Cm.now ⟨fun h => Bool.noConfusion h, fun hA => (h2 (up_rd hA.2 (i - 1) i (by omega) (by omega) h)).elim⟩)
    · exact Cm.step (fun k => by simp only [spec_l1Rising.l0, if_pos h, if_pos h0, l1In_eq, Option.bind_some, decide_eq_false e, Bool.false_eq_true, if_false]; try rfl) (Cm.now ⟨fun h => Bool.noConfusion h, fun hA => (e (hA.1 _ (rd_mem L i h0 h))).elim⟩)
  · refine Cm.step (fun k => by simp only [spec_l1Rising.l0, if_neg h]; try rfl) (Cm.now ⟨fun _ => ⟨?_, up_of_rd (fun j h1 h2 => hu j h1 (by omega))⟩, fun _ => rfl⟩)
    rw [take_all L i (by omega)] at ht
    exact ht

/-- A set of nodes: rising. -/
def IsSet (s : Int) (L : List Int) : Prop := (∀ x ∈ L, 0 ≤ x ∧ x < s) ∧ Up L
theorem set_spec (s : Int) (l : List S82) (L : List Int) (hl : L.length ≤ 1048576) (h0 : 0 ≤ s) (h8 : s ≤ 8) : Cm (fun k => spec_l2Set.f k s l L) (fun b => b = true ↔ IsSet s L) := by
  unfold spec_l2Set.f
  rw [w64 (s - 1) (by omega) (by omega)]
  refine Cm.bind (rising_cm L (s - 1) hl) (fun b hb => Cm.now ?_)
  rw [hb]
  exact ⟨fun h => ⟨fun x hx => by have := h.1 x hx; omega, h.2⟩, fun h => ⟨fun x hx => by have := h.1 x hx; omega, h.2⟩⟩
theorem set_impl (s : Int) (l : List S82) (L : List Int) (hl : L.length ≤ 1048576) (hG : Gr.Good s l) (hI : Ev (fun k => impl_IsGraph.f k s l) true) : Cm (fun k => impl_isSet.f k s l L) (fun b => b = true ↔ IsSet s L) := by
  unfold impl_isSet.f
  refine Cm.bind (nodes_cm s l L hl hG hI) (fun b hb => Cm.ite (fun e => Cm.bind (incr_ev L hl) (fun b2 hb2 => Cm.now ?_)) (fun e => Cm.now ⟨fun h => Bool.noConfusion h, fun hS => (e (hb.2 hS.1)).elim⟩))
  rw [hb2]
  exact ⟨fun h => ⟨hb.1 e, h⟩, fun h => h.2⟩
theorem set_impl_no (s : Int) (l : List S82) (L : List Int) (hI : Ev (fun k => impl_IsGraph.f k s l) false) : Ev (fun k => impl_isSet.f k s l L) false := by
  refine Cm.ev ?_
  unfold impl_isSet.f impl_hasNodes.f
  exact Cm.bindE (x := false) (Cm.ev (Cm.bindE hI (Cm.neg (by decide) (Cm.now rfl)))) (Cm.neg (by decide) (Cm.now rfl))

/-- The members of a list. -/
def inL (L : List Int) (x : Int) : Bool := decide (x ∈ L)
theorem set_filter {s : Int} {L : List Int} (h : IsSet s L) : L = (V s).filter (inL L) := up_filter h.2 h.1
theorem mask_set {s : Int} {L : List Int} (h : IsSet s L) {m : Int} (hM : M8 m) (hb : ∀ v : Int, 0 ≤ v → v < 64 → bit m v = decide (v ∈ L)) : M8 m ∧ ∀ v : Int, 0 ≤ v → v < 8 → bit m v = (decide (v < s) && inL L v) := by
  refine ⟨hM, fun v v0 v1 => ?_⟩
  rw [hb v v0 (by omega)]
  unfold inL
  by_cases hv : v ∈ L
  · rw [decide_eq_true hv, decide_eq_true (h.1 v hv).2]; rfl
  · rw [decide_eq_false hv, Bool.and_false]

end Go.Proofs.Ytbnhckhbjoldcaa.Gr
