/- The pure law FnExactDistancesOf: both come to one table of distances. -/
import Derived.Test.YtbnhckhbjoldcaaGrDp
import Derived.Test.YtbnhckhbjoldcaaGrRS
import Derived.Test.YtbnhckhbjoldcaaGrBm
import Derived.Test.YtbnhckhbjoldcaaPxImplDistancesOf
import Derived.Test.YtbnhckhbjoldcaaPxLawsFnExactDistancesOf
import Derived.Test.YtbnhckhbjoldcaaPxSpecDistancesOf
namespace Go.Proofs.Ytbnhckhbjoldcaa.Pure
open Go.RowKit Go.Proofs.Ytbnhckhbjoldcaa.P Go.Proofs.YtbnhckhbjoldcaaW.PrintWords Go.Proofs.YtbnhckhbjoldcaaW.PrintLast Go.Proofs.YtbnhckhbjoldcaaW.PrintMore Go.Proofs.Ytbnhckhbjoldcaa.Gr

theorem both (s : Int) (l : List S82) (hl : l.length ≤ 1048576) : ∃ es b, es.length ≤ 1048576 ∧ (∀ x ∈ es, List.length x ≤ 1024) ∧ Ev (fun k => spec_DistancesOf.f k s l) (es, b) ∧ Ev (fun k => impl_DistancesOf.f k s l) (es, b) := by
  obtain ⟨b, hb, hS, hI⟩ := isGraph_full s l hl
  cases b with
  | false => exact ⟨[], false, by simp, by simp, Cm.ev (Cm.bindE hS (Cm.neg (by decide) (Cm.now rfl))), Cm.ev (Cm.bindE hI (Cm.neg (by decide) (Cm.now rfl)))⟩
  | true =>
    obtain ⟨hG, _⟩ := hb rfl
    have h0 := hG.1
    have h8 := hG.2.1
    obtain ⟨m, hm, hbit, hN⟩ := net_ev s l hl hG
    obtain ⟨t, ⟨ht, hv⟩, e1, e2⟩ := dist_both s l hl hG m ⟨hm, hbit⟩
    refine ⟨t, true, by omega, ?_, Cm.ev (Cm.bindE hS (Cm.pos rfl (Cm.bindE e1 (Cm.now rfl)))), Cm.ev (Cm.bindE hI (Cm.pos rfl (Cm.bindE hN (Cm.bindE e2 (Cm.now rfl)))))⟩
    intro x hx
    obtain ⟨j, hj, rfl⟩ := List.mem_iff_getElem.1 hx
    have k1 := (hv j (by omega) (by omega)).1
    rw [Int.toNat_natCast, List.getD_eq_getElem?_getD, List.getElem?_eq_getElem hj] at k1
    rw [Option.getD_some] at k1
    omega

theorem FnExactDistancesOf : laws_FnExactDistancesOf.Pure := by
  intro s0 l0 hs0 hl0 hx0
  refine Ev.rounds (Cm.ev ?_)
  unfold laws_FnExactDistancesOf.f
  by_cases c0 : (1048576 : Int) - l0.length < 0
  · exact Cm.bindE (sz_ev (sz_big s0 l0 hl0 c0)) (Cm.pos (by decide) (Cm.now rfl))
  refine Cm.bindE (sz_ev (sz_small s0 l0 (by omega))) (Cm.neg c0 ?_)
  obtain ⟨es, b, he, hr, E1, E2⟩ := both s0 l0 (by omega)
  obtain ⟨r0, M0⟩ := mark_at s0 l0 ((1 : Int)) (by omega) (by omega) (by omega)
  obtain ⟨re, te, E3, E4⟩ := mark_heldSS es (by omega) hr
  have a_b : ¬ (b != b) = true := by cases b <;> decide
  repeat first
    | with_reducible exact Cm.now rfl
    | refine Cm.bindE (toGraph_ev s0 l0 (by omega)) ?_
    | refine Cm.bindE E1 ?_
    | refine Cm.bindE E2 ?_
    | refine Cm.bindE (eqSS_ev es (by omega) hr) (Cm.pos rfl ?_)
    | refine Cm.bindE (eqGraph_ev s0 l0 (by omega)) (Cm.pos rfl ?_)
    | refine Cm.bindE M0 ?_
    | refine Cm.bindE E3 ?_
    | refine Cm.bindE E4 ?_
    | refine Cm.neg a_b ?_
    | refine Cm.neg (by omega) ?_
    | refine Cm.pos (by omega) ?_
    | refine Cm.pos rfl ?_
    | dsimp only

end Go.Proofs.Ytbnhckhbjoldcaa.Pure
