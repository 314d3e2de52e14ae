/- What is around a set of nodes, by the program; no conditions beyond those that each theorem names. -/
import Derived.Test.YtooboeahekdibaaGrV
import Derived.Test.YtooboeahekdibaaPxImplNetAround
namespace Go.Proofs.Ytooboeahekdibaa.Gr
open Go.RowKit Go.Proofs.Ytooboeahekdibaa.P Go.Proofs.YtooboeahekdibaaW.PrintWords Go.Proofs.YtooboeahekdibaaW.PrintLast Go.Proofs.YtooboeahekdibaaW.PrintMore

theorem around_cm (s : Int) (l : List S59) (h8 : s ≤ 8) (m : List Int) (hm : Net s l m) (q : Int) (hq : M8 q) : Cm (fun k => impl_net_around.f k m q) (fun a => M8 a ∧ ∀ v : Int, 0 ≤ v → v < 8 → (bit a v = true ↔ bit q v = true ∨ ∃ u : Int, (0 ≤ u ∧ u < s) ∧ bit q u = true ∧ near l u v = true)) := by
  unfold impl_net_around.f
  have hms := hm.1.1
  refine Cm.up (fun k i a => impl_net_around.l0 k q a m m.length i) m.length (fun i a => 0 ≤ i ∧ M8 a ∧ ∀ v : Int, 0 ≤ v → v < 8 → (bit a v = true ↔ bit q v = true ∨ ∃ u : Int, (0 ≤ u ∧ u < i) ∧ bit q u = true ∧ near l u v = true)) _ ?_ 0 q (by omega) ⟨by omega, hq, fun v _ _ => ⟨.inl, fun h => h.elim id (fun ⟨u, hu, _⟩ => by omega)⟩⟩
  rintro i a hi ⟨i0, hM, hb⟩ ih
  by_cases h : i < (m.length : Int)
  · by_cases e : Go.bits .and .i64 (shr .i64 q i) 1 = 1
    · have hbit : bit q i = true := by unfold bit; rw [e]; rfl
      have h1 := or_ok a (rd m i) hM (hm.1.2 i i0 (by omega))
      refine Cm.step (fun k => by simp (disch := omega) only [impl_net_around.l0, if_pos h, if_pos i0, if_pos e, w64 (i + 1)]; try rfl) (ih _ h ⟨by omega, h1.1, fun v v0 v1 => ?_⟩)
      rw [h1.2 v v0 (by omega), Bool.or_eq_true, hb v v0 v1, hm.2 i v i0 (by omega) v0 v1]
      constructor
      · rintro ((h2 | ⟨u, hu, h2⟩) | h2)
        · exact .inl h2
        · exact .inr ⟨u, by omega, h2⟩
        · exact .inr ⟨i, by omega, hbit, h2⟩
      · rintro (h2 | ⟨u, hu, h2, h3⟩)
        · exact .inl (.inl h2)
        · by_cases hui : u = i
          · rw [hui] at h3
            exact .inr h3
          · exact .inl (.inr ⟨u, by omega, h2, h3⟩)
    · have hbit : ¬ bit q i = true := by unfold bit; rw [beq_iff_eq]; exact e
      refine Cm.step (fun k => by simp (disch := omega) only [impl_net_around.l0, if_pos h, if_pos i0, if_neg e, w64 (i + 1)]; try rfl) (ih _ h ⟨by omega, hM, fun v v0 v1 => ?_⟩)
      rw [hb v v0 v1]
      constructor
      · rintro (h2 | ⟨u, hu, h2⟩)
        · exact .inl h2
        · exact .inr ⟨u, by omega, h2⟩
      · rintro (h2 | ⟨u, hu, h2, h3⟩)
        · exact .inl h2
        · by_cases hui : u = i
          · rw [hui] at h2
            exact (hbit h2).elim
          · exact .inr ⟨u, by omega, h2, h3⟩
  · refine Cm.step (fun k => by simp only [impl_net_around.l0, if_neg h]; try rfl) (Cm.now ⟨hM, fun v v0 v1 => ?_⟩)
    rw [hb v v0 v1, show i = s by omega]

end Go.Proofs.Ytooboeahekdibaa.Gr
