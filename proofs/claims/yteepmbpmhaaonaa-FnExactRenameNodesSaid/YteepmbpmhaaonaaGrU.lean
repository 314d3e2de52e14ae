/- A pair put to its place in a list in order; no conditions beyond those that each theorem names. -/
import Derived.Test.YteepmbpmhaaonaaGrQ
import Derived.Test.YteepmbpmhaaonaaPxSpecL2Put
namespace Go.Proofs.Yteepmbpmhaaonaa.Gr
open Go.RowKit Go.Proofs.Yteepmbpmhaaonaa.P Go.Proofs.YteepmbpmhaaonaaW.PrintWords Go.Proofs.YteepmbpmhaaonaaW.PrintLast Go.Proofs.YteepmbpmhaaonaaW.PrintMore

theorem l2Put_cm (l : List S65) (e : S65) (hl : l.length ≤ 1048577) (hu : Up2 l) (he : e ∉ l) : Cm (fun k => spec_l2Put.f k l e.f0 e.f1) (fun r => Up2 r ∧ (∀ x, x ∈ r ↔ x = e ∨ x ∈ l) ∧ r.length = l.length + 1) := by
  unfold spec_l2Put.f
  have fin : ∀ i : Int, 0 ≤ i → i ≤ l.length → (∀ x ∈ l.take i.toNat, ltP x e) → (∀ x ∈ l.drop i.toNat, ltP e x) → Up2 (l.take i.toNat ++ [e] ++ l.drop i.toNat) ∧ (∀ x, x ∈ l.take i.toNat ++ [e] ++ l.drop i.toNat ↔ x = e ∨ x ∈ l) ∧ (l.take i.toNat ++ [e] ++ l.drop i.toNat).length = l.length + 1 := by
    intro i h0 h1 ht hd
    have hs : l.take i.toNat ++ l.drop i.toNat = l := List.take_append_drop _ _
    have hu' := hu
    rw [← hs] at hu'
    have hp := List.pairwise_append.1 hu'
    refine ⟨?_, fun x => ?_, ?_⟩
    · refine List.pairwise_append.2 ⟨List.pairwise_append.2 ⟨hp.1, List.pairwise_singleton _ _, fun a ha b hb => ?_⟩, hp.2.1, fun a ha b hb => ?_⟩
      · rw [List.mem_singleton] at hb
        subst hb
        exact ht a ha
      · rcases List.mem_append.1 ha with ha | ha
        · exact hp.2.2 a ha b hb
        · rw [List.mem_singleton] at ha
          subst ha
          exact hd b hb
    · rw [List.mem_append, List.mem_append, List.mem_singleton]
      constructor
      · rintro ((h | h) | h)
        · exact .inr (List.mem_of_mem_take h)
        · exact .inl h
        · exact .inr (List.mem_of_mem_drop h)
      · rintro (h | h)
        · exact .inl (.inr h)
        · rw [← hs] at h
          rcases List.mem_append.1 h with h | h
          · exact .inl (.inl h)
          · exact .inr h
    · rw [List.length_append, List.length_append, List.length_take, List.length_drop, List.length_singleton]
      omega
  refine Cm.up (fun k i (_ : Unit) => spec_l2Put.l0 k l i e.f0 e.f1) l.length (fun i _ => 0 ≤ i ∧ ∀ x ∈ l.take i.toNat, ltP x e) _ ?_ 0 () (by omega) ⟨by omega, fun x hx => by cases hx⟩
  rintro i _ hi ⟨h0, ht⟩ ih
  by_cases h : i < l.length
  · by_cases hb : ltP (rd_T65 l i) e
    · refine Cm.step (fun k => by simp (disch := omega) only [spec_l2Put.l0, before_eq, Option.bind_some, w64 (i + 1), if_pos h, if_pos h0, decide_eq_true (show (rd_T65 l i).f0 < e.f0 ∨ ((rd_T65 l i).f0 = e.f0 ∧ (rd_T65 l i).f1 < e.f1) from hb), if_true]; try rfl) (ih () h ⟨by omega, ?_⟩)
      rw [takeT l i h0 h]
      intro x hx
      rcases List.mem_append.1 hx with hx | hx
      · exact ht x hx
      · rw [List.mem_singleton] at hx
        subst hx
        exact hb
    · have hd : ∀ x ∈ l.drop i.toNat, ltP e x := by
        have hne : rd_T65 l i ≠ e := fun e' => he (e' ▸ rdT_mem l i h0 h)
        have h1 : ltP e (rd_T65 l i) := by
          by_cases h' : ltP e (rd_T65 l i)
          · exact h'
          · exact (hne (ltP_tri _ _ hb h')).elim
        intro x hx
        obtain ⟨j, hj, rfl⟩ := List.mem_iff_getElem.1 hx
        rw [List.getElem_drop]
        have hr := rdT_eq l i.toNat (by omega)
        rw [Int.toNat_of_nonneg h0] at hr
        by_cases hj0 : j = 0
        · subst hj0
          simp only [Nat.add_zero]
          rw [← hr]
          exact h1
        · rw [List.length_drop] at hj
          have := List.pairwise_iff_getElem.1 hu i.toNat (i.toNat + j) (by omega) (by omega) (by omega)
          rw [← hr] at this
          exact ltP_trans h1 this
      have hF := fin i h0 (by omega) ht hd
      refine Cm.step (fun k => by simp (disch := omega) only [spec_l2Put.l0, before_eq, Option.bind_some, if_pos h, if_pos h0, decide_eq_false (show ¬ ((rd_T65 l i).f0 < e.f0 ∨ ((rd_T65 l i).f0 = e.f0 ∧ (rd_T65 l i).f1 < e.f1)) from hb), Bool.false_eq_true, if_false, List.nil_append, List.length_nil, Nat.zero_add, List.length_append, List.length_take, List.length_drop, List.length_singleton, if_pos]; try rfl) (Cm.now hF)
  · have e1 : l.take i.toNat = l := takeT_all l i (by omega)
    have hd : ∀ x ∈ l.drop i.toNat, ltP e x := by
      rw [List.drop_eq_nil_of_le (by omega)]
      intro x hx
      cases hx
    have hF := fin i h0 (by omega) ht hd
    refine Cm.step (fun k => by simp (disch := omega) only [spec_l2Put.l0, Option.bind_some, if_neg h, if_pos h0, List.nil_append, List.length_nil, Nat.zero_add, List.length_append, List.length_take, List.length_drop, List.length_singleton, if_pos]; try rfl) (Cm.now hF)

end Go.Proofs.Yteepmbpmhaaonaa.Gr
