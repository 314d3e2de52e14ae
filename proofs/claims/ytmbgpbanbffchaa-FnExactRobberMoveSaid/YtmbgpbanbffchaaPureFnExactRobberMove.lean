/- The pure law FnExactRobberMove: both find the least move that is best for the robber. -/
import Derived.Test.YtmbgpbanbffchaaGrCm
import Derived.Test.YtmbgpbanbffchaaGrTw
import Derived.Test.YtmbgpbanbffchaaPxImplRobberMove
import Derived.Test.YtmbgpbanbffchaaPxLawsFnExactRobberMove
import Derived.Test.YtmbgpbanbffchaaPxSpecRobberMove
namespace Go.Proofs.Ytmbgpbanbffchaa.Pure
open Go.RowKit Go.Proofs.Ytmbgpbanbffchaa.P Go.Proofs.YtmbgpbanbffchaaW.PrintWords Go.Proofs.YtmbgpbanbffchaaW.PrintLast Go.Proofs.YtmbgpbanbffchaaW.PrintMore Go.Proofs.Ytmbgpbanbffchaa.Gr

theorem both (s : Int) (l : List S75) (c r : Int) (hl : l.length ≤ 1048576) : ∃ y b, Ev (fun k => spec_RobberMove.f k s l c r) (y, b) ∧ Ev (fun k => impl_RobberMove.f k s l c r) (y, b) := by
  obtain ⟨b, hb, hS, hI⟩ := isGraph_full s l hl
  have sJ : Cm (fun k => spec_RobberMove.j0 k c r true s l) (fun z => z = ((0 : Int), false)) := Cm.step (fun k => by simp only [spec_RobberMove.j0, if_true]; try rfl) (Cm.now rfl)
  have iJ : Cm (fun k => impl_RobberMove.j0 k c r true s l) (fun z => z = ((0 : Int), false)) := Cm.step (fun k => by simp only [impl_RobberMove.j0, if_true]; try rfl) (Cm.now rfl)
  cases b with
  | false => exact ⟨0, false, Cm.ev (Cm.bindE (two_spec_not s l c r hS) (Cm.neg (by decide) sJ)), Cm.ev (Cm.bindE (has_not s l _ hI) (Cm.neg (by decide) iJ))⟩
  | true =>
    obtain ⟨hG, _⟩ := hb rfl
    have h0 := hG.1
    have e1 := two_spec s l c r hG hS
    have e2 := two_impl s l c r hG hI
    by_cases hcr : (0 ≤ c ∧ c < s) ∧ (0 ≤ r ∧ r < s)
    · rw [decide_eq_true hcr.1, decide_eq_true hcr.2] at e1 e2
      obtain ⟨hc, hr⟩ := hcr
      by_cases he : c = r
      · refine ⟨0, false, Cm.ev (Cm.bindE e1 (Cm.pos rfl ?_)), Cm.ev (Cm.bindE e2 (Cm.pos rfl ?_))⟩
        · rw [show (c == r) = true from beq_iff_eq.2 he]; exact sJ
        · rw [show (c == r) = true from beq_iff_eq.2 he]; exact iJ
      · have hne : (c == r) = false := by rw [Bool.eq_false_iff]; exact fun h => he (beq_iff_eq.1 h)
        obtain ⟨m, hm, hbit, hN⟩ := net_ev s l hl hG
        obtain ⟨N, Z, hN1, hZ, t1, t2⟩ := times_both s l hl hG m ⟨hm, hbit⟩
        have hml : ((mk s Z).length : Int) = s := by rw [mk_len, Int.toNat_of_nonneg h0]
        obtain ⟨y, _, c1, c2⟩ := flee_both s l hl hG m ⟨hm, hbit⟩ Z c r hc hr
        refine ⟨y, true, Cm.ev (Cm.bindE e1 (Cm.pos rfl ?_)), Cm.ev (Cm.bindE e2 (Cm.pos rfl ?_))⟩
        · rw [hne]
          refine Cm.step (fun k => by simp only [spec_RobberMove.j0, Bool.false_eq_true, if_false]; try rfl) ?_
          exact Cm.bindE t1 (Cm.bindE c1 (Cm.now rfl))
        · rw [hne]
          refine Cm.step (fun k => by simp only [impl_RobberMove.j0, Bool.false_eq_true, if_false]; try rfl) ?_
          exact Cm.bindE hN (Cm.bindE t2 (Cm.pos hc.1 (Cm.pos (by rw [hml]; exact hc.2) (Cm.bindE c2 (Cm.now rfl)))))
    · have hf : (decide (0 ≤ c ∧ c < s) && decide (0 ≤ r ∧ r < s)) = false := by
        rw [Bool.eq_false_iff]
        intro h
        rw [Bool.and_eq_true, decide_eq_true_eq, decide_eq_true_eq] at h
        exact hcr h
      rw [hf] at e1 e2
      exact ⟨0, false, Cm.ev (Cm.bindE e1 (Cm.neg (by decide) sJ)), Cm.ev (Cm.bindE e2 (Cm.neg (by decide) iJ))⟩

theorem FnExactRobberMove : laws_FnExactRobberMove.Pure := by
  intro s0 l0 x1 x2 hs0 hl0 hx0 hw1 hw2
  refine Ev.rounds (Cm.ev ?_)
  unfold laws_FnExactRobberMove.f
  by_cases c0 : (1048576 : Int) - l0.length < 0
  · exact Cm.bindE (sz_ev (sz_big s0 l0 hl0 c0)) (Cm.pos (by decide) (Cm.now rfl))
  refine Cm.bindE (sz_ev (sz_small s0 l0 (by omega))) (Cm.neg c0 ?_)
  obtain ⟨r, b, E1, E2⟩ := both s0 l0 x1 x2 (by omega)
  have a_b : ¬ (b != b) = true := by cases b <;> decide
  repeat first
    | with_reducible exact Cm.now rfl
    | refine Cm.bindE (toGraph_ev s0 l0 (by omega)) ?_
    | refine Cm.bindE E1 ?_
    | refine Cm.bindE E2 ?_
    | refine Cm.bindE (eqGraph_ev s0 l0 (by omega)) (Cm.pos rfl ?_)
    | refine Cm.neg a_b ?_
    | refine Cm.neg (by omega) ?_
    | refine Cm.pos (by omega) ?_
    | refine Cm.pos rfl ?_
    | dsimp only

end Go.Proofs.Ytmbgpbanbffchaa.Pure
