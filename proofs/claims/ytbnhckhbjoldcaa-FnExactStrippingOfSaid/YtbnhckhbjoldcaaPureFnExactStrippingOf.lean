/- The pure law FnExactStrippingOf: both take corners away, the least one first, each with its least cover, until none is left. -/
import Derived.Test.YtbnhckhbjoldcaaGrR
import Derived.Test.YtbnhckhbjoldcaaGrSo
import Derived.Test.YtbnhckhbjoldcaaGrBP
import Derived.Test.YtbnhckhbjoldcaaGrB
import Derived.Test.YtbnhckhbjoldcaaPxImplStrippingOf
import Derived.Test.YtbnhckhbjoldcaaPxLawsFnExactStrippingOf
import Derived.Test.YtbnhckhbjoldcaaPxSpecStrippingOf
namespace Go.Proofs.Ytbnhckhbjoldcaa.Pure
open Go.RowKit Go.Proofs.Ytbnhckhbjoldcaa.P Go.Proofs.YtbnhckhbjoldcaaW.PrintWords Go.Proofs.YtbnhckhbjoldcaaW.PrintLast Go.Proofs.YtbnhckhbjoldcaaW.PrintMore Go.Proofs.Ytbnhckhbjoldcaa.Gr

theorem both (s : Int) (l : List S82) (hl : l.length ≤ 1048576) : ∃ r b, r.length ≤ 1048576 ∧ Ev (fun k => spec_StrippingOf.f k s l) (r, b) ∧ Ev (fun k => impl_StrippingOf.f k s l) (r, b) := by
  obtain ⟨b, hb, hS, hI⟩ := isGraph_full s l hl
  have hSo := some_ev s l b hS
  have iJ : Cm (fun k => impl_StrippingOf.j0 k true s l) (fun z => z = ([], false)) := Cm.step (fun k => by simp only [impl_StrippingOf.j0, if_true]; try rfl) (Cm.now rfl)
  by_cases hc : b = true ∧ s > 0
  · obtain ⟨rfl, hs⟩ := hc
    obtain ⟨hG, hO⟩ := hb rfl
    have h8 := hG.2.1
    obtain ⟨r, hr, hbit, hN⟩ := net_ev s l hl hG
    obtain ⟨a, P, m, ha, hM, _, e1, e2⟩ := strip_both s l hl hG r ⟨hr, hbit⟩
    rw [Bool.true_and, decide_eq_true hs] at hSo
    have hlen : ((V s).filter P).length ≤ s.toNat := VF_len
    refine ⟨a, true, by omega, Cm.ev ?_, Cm.ev ?_⟩
    · exact Cm.bindE hSo (Cm.pos rfl (Cm.bindE e1 (Cm.now rfl)))
    · refine Cm.bindE hI (Cm.pos rfl ?_)
      have hz : (s == 0) = false := by rw [beq_eq_false_iff_ne]; omega
      rw [hz]
      refine Cm.step (fun k => by simp only [impl_StrippingOf.j0, Bool.false_eq_true, if_false]; try rfl) ?_
      exact Cm.bindE hN (Cm.bindE e2 (Cm.now rfl))
  · have hf : (b && decide (s > 0)) = false := by
      rw [Bool.and_eq_false_iff]
      by_cases hb' : b = true
      · exact .inr (decide_eq_false (fun h => hc ⟨hb', h⟩))
      · exact .inl (Bool.eq_false_iff.2 hb')
    rw [hf] at hSo
    refine ⟨[], false, by simp, Cm.ev ?_, Cm.ev ?_⟩
    · exact Cm.bindE hSo (Cm.neg (by decide) (Cm.now rfl))
    · refine Cm.bindE hI (Cm.ite (fun e => ?_) (fun _ => iJ))
      have hz : (s == 0) = true := by rw [beq_iff_eq]; have := (hb e).1.1; have h5 : ¬ s > 0 := fun h => hc ⟨e, h⟩; omega
      rw [hz]
      exact iJ

theorem FnExactStrippingOf : laws_FnExactStrippingOf.Pure := by
  intro s0 l0 hs0 hl0 hx0
  refine Ev.rounds (Cm.ev ?_)
  unfold laws_FnExactStrippingOf.f
  by_cases c0 : (1048576 : Int) - l0.length < 0
  · exact Cm.bindE (sz_ev (sz_big s0 l0 hl0 c0)) (Cm.pos (by decide) (Cm.now rfl))
  refine Cm.bindE (sz_ev (sz_small s0 l0 (by omega))) (Cm.neg c0 ?_)
  obtain ⟨es, b, he, E1, E2⟩ := both s0 l0 (by omega)
  obtain ⟨r0, M0⟩ := mark_at s0 l0 ((1 : Int)) (by omega) (by omega) (by omega)
  obtain ⟨re, E3, E4⟩ := mark_heldP es (by omega)
  have a_b : ¬ (b != b) = true := by cases b <;> decide
  repeat first
    | with_reducible exact Cm.now rfl
    | refine Cm.bindE (toGraph_ev s0 l0 (by omega)) ?_
    | refine Cm.bindE E1 ?_
    | refine Cm.bindE E2 ?_
    | refine Cm.bindE (eqP_ev es (by omega)) (Cm.pos rfl ?_)
    | refine Cm.bindE (eqGraph_ev s0 l0 (by omega)) (Cm.pos rfl ?_)
    | refine Cm.bindE M0 ?_
    | refine Cm.bindE E3 ?_
    | refine Cm.bindE E4 ?_
    | refine Cm.neg a_b ?_
    | refine Cm.neg (by omega) ?_
    | refine Cm.pos (by omega) ?_
    | refine Cm.pos rfl ?_
    | dsimp only

end Go.Proofs.Ytbnhckhbjoldcaa.Pure
