/- The pure law FnExactBallOf: both tell the nodes that are reached in so many steps. -/
import Derived.Test.YteepmbpmhaaonaaGrBl
import Derived.Test.YteepmbpmhaaonaaGrH
import Derived.Test.YteepmbpmhaaonaaGrJ
import Derived.Test.YteepmbpmhaaonaaGrB
import Derived.Test.YteepmbpmhaaonaaPxImplBallOf
import Derived.Test.YteepmbpmhaaonaaPxLawsFnExactBallOf
import Derived.Test.YteepmbpmhaaonaaPxSpecBallOf
namespace Go.Proofs.Yteepmbpmhaaonaa.Pure
open Go.RowKit Go.Proofs.Yteepmbpmhaaonaa.P Go.Proofs.YteepmbpmhaaonaaW.PrintWords Go.Proofs.YteepmbpmhaaonaaW.PrintLast Go.Proofs.YteepmbpmhaaonaaW.PrintMore Go.Proofs.Yteepmbpmhaaonaa.Gr

open Classical in
theorem both (s : Int) (l : List S65) (x r : Int) (hl : l.length ≤ 1048576) (hw : (Lit.int .i64 r).wf = true) : ∃ z b, z.length ≤ 1048576 ∧ Ev (fun k => spec_BallOf.f k s l x r) (z, b) ∧ Ev (fun k => impl_BallOf.f k s l x r) (z, b) := by
  obtain ⟨b, hb, hS, hI⟩ := isGraph_full s l hl
  have hr2 : r ≤ 9223372036854775807 := by
    have h := hw
    unfold Lit.wf at h
    simp at h
    omega
  have iJ : Cm (fun k => impl_BallOf.j0 k x r true s l) (fun z => z = ([], false)) := Cm.step (fun k => by simp only [impl_BallOf.j0, if_true]; try rfl) (Cm.now rfl)
  cases b with
  | false => exact ⟨[], false, by simp, Cm.ev (Cm.bindE hS (Cm.neg (by decide) (Cm.now rfl))), Cm.ev (Cm.bindE (has_not s l _ hI) (Cm.neg (by decide) iJ))⟩
  | true =>
    obtain ⟨hG, hO⟩ := hb rfl
    have h8 := hG.2.1
    have hH := has_one s l x hG hI
    by_cases hx : 0 ≤ x ∧ x < s
    · rw [decide_eq_true hx] at hH
      by_cases hr : r < 0
      · refine ⟨[], false, by simp, Cm.ev (Cm.bindE hS (Cm.pos rfl ?_)), Cm.ev (Cm.bindE hH (Cm.pos rfl ?_))⟩
        · rw [node_eq s l x hG, decide_eq_true hx]
          exact Cm.bindE (Ev.now _) (Cm.pos rfl (Cm.pos hr (Cm.now rfl)))
        · rw [decide_eq_true hr]
          exact iJ
      · obtain ⟨m, hm, hbit, hN⟩ := net_ev s l hl hG
        obtain ⟨q, eq, hq, hqb⟩ := ball_impl s l hG m ⟨hm, hbit⟩ x hx r (by omega) hr2
        have hlen : ((V s).filter (fun v => decide (Rch l x r.toNat v))).length ≤ s.toNat := VF_len
        refine ⟨(V s).filter (fun v => decide (Rch l x r.toNat v)), true, by omega, Cm.ev (Cm.bindE hS (Cm.pos rfl ?_)), Cm.ev (Cm.bindE hH (Cm.pos rfl ?_))⟩
        · rw [node_eq s l x hG, decide_eq_true hx]
          exact Cm.bindE (Ev.now _) (Cm.pos rfl (Cm.neg hr (Cm.bindE (within_ev s l hl hG x hx r (by omega)) (Cm.now rfl))))
        · rw [decide_eq_false hr]
          have eS := setP_ev q hq s h8 (fun v => decide (Rch l x r.toNat v)) (fun v v0 v1 => by
            rw [Bool.eq_iff_iff, hqb v v0 v1, Bool.and_eq_true, decide_eq_true_eq, decide_eq_true_eq]
            exact ⟨fun h => ⟨(rch_in hG hx _ v h).2, h⟩, fun h => h.2⟩)
          refine Cm.step (fun k => by simp only [impl_BallOf.j0, Bool.false_eq_true, if_false]; try rfl) ?_
          exact Cm.bindE hN (Cm.bindE eq (Cm.bindE eS (Cm.now rfl)))
    · rw [decide_eq_false hx] at hH
      refine ⟨[], false, by simp, Cm.ev (Cm.bindE hS (Cm.pos rfl ?_)), Cm.ev (Cm.bindE hH (Cm.neg (by decide) iJ))⟩
      rw [node_eq s l x hG, decide_eq_false hx]
      exact Cm.bindE (Ev.now _) (Cm.neg (by decide) (Cm.now rfl))

theorem FnExactBallOf : laws_FnExactBallOf.Pure := by
  intro s0 l0 x1 x2 hs0 hl0 hx0 hw1 hw2
  refine Ev.rounds (Cm.ev ?_)
  unfold laws_FnExactBallOf.f
  by_cases c0 : (1048576 : Int) - l0.length < 0
  · exact Cm.bindE (sz_ev (sz_big s0 l0 hl0 c0)) (Cm.pos (by decide) (Cm.now rfl))
  refine Cm.bindE (sz_ev (sz_small s0 l0 (by omega))) (Cm.neg c0 ?_)
  obtain ⟨es, b, he, E1, E2⟩ := both s0 l0 x1 x2 (by omega) hw2
  obtain ⟨r0, M0⟩ := mark_at s0 l0 ((1 : Int)) (by omega) (by omega) (by omega)
  obtain ⟨re, E3, E4⟩ := mark_heldI es (by omega)
  have a_b : ¬ (b != b) = true := by cases b <;> decide
  repeat first
    | with_reducible exact Cm.now rfl
    | refine Cm.bindE (toGraph_ev s0 l0 (by omega)) ?_
    | refine Cm.bindE E1 ?_
    | refine Cm.bindE E2 ?_
    | refine Cm.bindE (eqI_ev es (by omega)) (Cm.pos rfl ?_)
    | refine Cm.bindE (eqGraph_ev s0 l0 (by omega)) (Cm.pos rfl ?_)
    | refine Cm.bindE M0 ?_
    | refine Cm.bindE E3 ?_
    | refine Cm.bindE E4 ?_
    | refine Cm.neg a_b ?_
    | refine Cm.neg (by omega) ?_
    | refine Cm.pos (by omega) ?_
    | refine Cm.pos rfl ?_
    | dsimp only

end Go.Proofs.Yteepmbpmhaaonaa.Pure
