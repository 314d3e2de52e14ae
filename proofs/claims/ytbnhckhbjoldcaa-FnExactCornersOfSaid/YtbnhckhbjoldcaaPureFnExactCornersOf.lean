/- The pure law FnExactCornersOf: both take sets alone, and tell the nodes of the set that have a cover in it. -/
import Derived.Test.YtbnhckhbjoldcaaGrF
import Derived.Test.YtbnhckhbjoldcaaGrO
import Derived.Test.YtbnhckhbjoldcaaGrZ
import Derived.Test.YtbnhckhbjoldcaaGrJ
import Derived.Test.YtbnhckhbjoldcaaGrB
import Derived.Test.YtbnhckhbjoldcaaPxImplCornersOf
import Derived.Test.YtbnhckhbjoldcaaPxLawsFnExactCornersOf
import Derived.Test.YtbnhckhbjoldcaaPxSpecCornersOf
namespace Go.Proofs.Ytbnhckhbjoldcaa.Pure
open Go.RowKit Go.Proofs.Ytbnhckhbjoldcaa.P Go.Proofs.YtbnhckhbjoldcaaW.PrintWords Go.Proofs.YtbnhckhbjoldcaaW.PrintLast Go.Proofs.YtbnhckhbjoldcaaW.PrintMore Go.Proofs.Ytbnhckhbjoldcaa.Gr

theorem corners_both (s : Int) (l : List S82) (L : List Int) (hl : l.length ≤ 1048576) (hL : L.length ≤ 1048576) : ∃ r b, r.length ≤ 1048576 ∧ Ev (fun k => spec_CornersOf.f k s l L) (r, b) ∧ Ev (fun k => impl_CornersOf.f k s l L) (r, b) := by
  obtain ⟨b, hb, hS, hI⟩ := both_sets s l L hl hL
  cases b with
  | false =>
    refine ⟨[], false, by simp, Cm.ev ?_, Cm.ev ?_⟩
    · exact Cm.bindE hS (Cm.neg (by decide) (Cm.now rfl))
    · exact Cm.bindE hI (Cm.neg (by decide) (Cm.now rfl))
  | true =>
    obtain ⟨hG, hO, hset⟩ := hb rfl
    have h8 := hG.2.1
    obtain ⟨m, hm, hbit, hN⟩ := net_ev s l hl hG
    obtain ⟨M, eM, hM1, hM2⟩ := mask_cm L hL (fun y hy => by have := hset.1 y hy; omega)
    have hc1 := corners_spec s l hl hG (inL L)
    rw [← set_filter hset] at hc1
    have hc2 := corners_impl s l hG m ⟨hm, hbit⟩ (inL L) M (mask_set hset hM1 hM2)
    have hlen : (corn s l (inL L)).length ≤ s.toNat := VF_len
    refine ⟨corn s l (inL L), true, by omega, Cm.ev ?_, Cm.ev ?_⟩
    · exact Cm.bindE hS (Cm.pos rfl (Cm.bindE hc1 (Cm.now rfl)))
    · exact Cm.bindE hI (Cm.pos rfl (Cm.bindE hN (Cm.bindE eM (Cm.bindE hc2 (Cm.now rfl)))))

theorem FnExactCornersOf : laws_FnExactCornersOf.Pure := by
  intro s0 l0 L1 hs0 hl0 hx0 hm1 hw1
  refine Ev.rounds (Cm.ev ?_)
  unfold laws_FnExactCornersOf.f
  refine Cm.ite (fun _ => Cm.now rfl) (fun cL1 => ?_)
  by_cases c0 : (1048576 : Int) - l0.length < 0
  · exact Cm.bindE (sz_ev (sz_big s0 l0 hl0 c0)) (Cm.pos (by decide) (Cm.now rfl))
  refine Cm.bindE (sz_ev (sz_small s0 l0 (by omega))) (Cm.neg c0 ?_)
  obtain ⟨es, b, he, E1, E2⟩ := corners_both s0 l0 L1 (by omega) (by omega)
  obtain ⟨r0, M0⟩ := mark_at s0 l0 ((1 : Int)) (by omega) (by omega) (by omega)
  obtain ⟨r1, M1⟩ := markI_at L1 ((1 : Int) + 2 * (l0.length : Int)) (by omega) (by omega) (by omega)
  obtain ⟨re, E3, E4⟩ := mark_heldI es (by omega)
  have a_b : ¬ (b != b) = true := by cases b <;> decide
  repeat first
    | with_reducible exact Cm.now rfl
    | refine Cm.bindE (toGraph_ev s0 l0 (by omega)) ?_
    | refine Cm.bindE (toI_ev L1 (by omega)) ?_
    | refine Cm.bindE E1 ?_
    | refine Cm.bindE E2 ?_
    | refine Cm.bindE (eqI_ev es (by omega)) (Cm.pos rfl ?_)
    | refine Cm.bindE (eqGraph_ev s0 l0 (by omega)) (Cm.pos rfl ?_)
    | refine Cm.bindE (eqI_ev L1 (by omega)) (Cm.pos rfl ?_)
    | refine Cm.bindE M0 ?_
    | refine Cm.bindE M1 ?_
    | refine Cm.bindE E3 ?_
    | refine Cm.bindE E4 ?_
    | refine Cm.neg a_b ?_
    | refine Cm.neg (by omega) ?_
    | refine Cm.pos (by omega) ?_
    | refine Cm.pos rfl ?_
    | dsimp only

end Go.Proofs.Ytbnhckhbjoldcaa.Pure
