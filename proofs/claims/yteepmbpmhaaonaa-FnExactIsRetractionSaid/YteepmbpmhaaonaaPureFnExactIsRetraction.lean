/- The pure law FnExactIsRetraction: both ask whether nodes that are reached stay and near ones stay near. -/
import Derived.Test.YteepmbpmhaaonaaGrRt
import Derived.Test.YteepmbpmhaaonaaGrZ
import Derived.Test.YteepmbpmhaaonaaPxImplIsRetraction
import Derived.Test.YteepmbpmhaaonaaPxLawsFnExactIsRetraction
import Derived.Test.YteepmbpmhaaonaaPxSpecIsRetraction
namespace Go.Proofs.Yteepmbpmhaaonaa.Pure
open Go.RowKit Go.Proofs.Yteepmbpmhaaonaa.P Go.Proofs.YteepmbpmhaaonaaW.PrintWords Go.Proofs.YteepmbpmhaaonaaW.PrintLast Go.Proofs.YteepmbpmhaaonaaW.PrintMore Go.Proofs.Yteepmbpmhaaonaa.Gr

theorem both (s : Int) (l : List S65) (T : List Int) (hl : l.length ≤ 1048576) (_ : T.length ≤ 1048576) : ∃ r b, Ev (fun k => spec_IsRetraction.f k s l T) (r, b) ∧ Ev (fun k => impl_IsRetraction.f k s l T) (r, b) := by
  obtain ⟨b, hb, hS, hI⟩ := isGraph_full s l hl
  cases b with
  | false => exact ⟨false, false, Cm.ev (Cm.bindE hS (Cm.neg (by decide) (Cm.now rfl))), Cm.ev (Cm.bindE hI (Cm.neg (by decide) (Cm.now rfl)))⟩
  | true =>
    obtain ⟨r, _, e1, e2⟩ := ret_both s l T hl (hb rfl).1
    exact ⟨r, true, Cm.ev (Cm.bindE hS (Cm.pos rfl (Cm.bindE e1 (Cm.now rfl)))), Cm.ev (Cm.bindE hI (Cm.pos rfl (Cm.bindE e2 (Cm.now rfl))))⟩

theorem FnExactIsRetraction : laws_FnExactIsRetraction.Pure := by
  intro s0 l0 L1 hs0 hl0 hx0 hm1 hw1
  refine Ev.rounds (Cm.ev ?_)
  unfold laws_FnExactIsRetraction.f
  refine Cm.ite (fun _ => Cm.now rfl) (fun cL1 => ?_)
  by_cases c0 : (1048576 : Int) - l0.length < 0
  · exact Cm.bindE (sz_ev (sz_big s0 l0 hl0 c0)) (Cm.pos (by decide) (Cm.now rfl))
  refine Cm.bindE (sz_ev (sz_small s0 l0 (by omega))) (Cm.neg c0 ?_)
  obtain ⟨r, b, E1, E2⟩ := both s0 l0 L1 (by omega) (by omega)
  have a_b : ¬ (b != b) = true := by cases b <;> decide
  have a_r : ¬ (r != r) = true := by cases r <;> decide
  repeat first
    | with_reducible exact Cm.now rfl
    | refine Cm.bindE (toGraph_ev s0 l0 (by omega)) ?_
    | refine Cm.bindE (toI_ev L1 (by omega)) ?_
    | refine Cm.bindE E1 ?_
    | refine Cm.bindE E2 ?_
    | refine Cm.bindE (eqGraph_ev s0 l0 (by omega)) (Cm.pos rfl ?_)
    | refine Cm.bindE (eqI_ev L1 (by omega)) (Cm.pos rfl ?_)
    | refine Cm.neg a_b ?_
    | refine Cm.neg a_r ?_
    | refine Cm.neg (by omega) ?_
    | refine Cm.pos (by omega) ?_
    | refine Cm.pos rfl ?_
    | dsimp only

end Go.Proofs.Yteepmbpmhaaonaa.Pure
