/- The pure law FnExactIsConnected: both count the parts of all nodes. -/
import Derived.Test.YteepmbpmhaaonaaGrPa
import Derived.Test.YteepmbpmhaaonaaGrRb
import Derived.Test.YteepmbpmhaaonaaPxImplIsConnected
import Derived.Test.YteepmbpmhaaonaaPxLawsFnExactIsConnected
import Derived.Test.YteepmbpmhaaonaaPxSpecIsConnected
namespace Go.Proofs.Yteepmbpmhaaonaa.Pure
open Go.RowKit Go.Proofs.Yteepmbpmhaaonaa.P Go.Proofs.YteepmbpmhaaonaaW.PrintWords Go.Proofs.YteepmbpmhaaonaaW.PrintLast Go.Proofs.YteepmbpmhaaonaaW.PrintMore Go.Proofs.Yteepmbpmhaaonaa.Gr

theorem both (s : Int) (l : List S65) (hl : l.length ≤ 1048576) : ∃ r b, Ev (fun k => spec_IsConnected.f k s l) (r, b) ∧ Ev (fun k => impl_IsConnected.f k s l) (r, b) := by
  obtain ⟨b, hb, hS, hI⟩ := isGraph_full s l hl
  cases b with
  | false => exact ⟨false, false, Cm.ev (Cm.bindE hS (Cm.neg (by decide) (Cm.now rfl))), Cm.ev (Cm.bindE hI (Cm.neg (by decide) (Cm.now rfl)))⟩
  | true =>
    obtain ⟨hG, hO⟩ := hb rfl
    have h8 := hG.2.1
    have h0 := hG.1
    obtain ⟨m, hm, hbit, hN⟩ := net_ev s l hl hG
    have hlen : ((V s).filter (fun _ => true)).length ≤ s.toNat := VF_len
    obtain ⟨a, hT, hal, e2⟩ := parts_impl s l hG m ⟨hm, hbit⟩ 8 (fun _ => true) _ [] (by omega) (mask_all h0 h8) (by simp)
    have e1 := parts_spec s l hl hG (fun _ => true) 8 (by omega)
    rw [List.nil_append] at e2
    refine ⟨decide ((a.length : Int) ≤ 1), true, Cm.ev (Cm.bindE hS (Cm.pos rfl ?_)), Cm.ev (Cm.bindE hI (Cm.pos rfl (Cm.bindE hN (Cm.pos h0 (Cm.bindE e2 (Cm.now rfl))))))⟩
    refine Cm.bindE (x := decide ((a.length : Int) ≤ 1)) (Cm.ev ?_) (Cm.now rfl)
    unfold spec_l2Whole.f
    refine Cm.bindE (all_ev s l h0 h8) (Cm.bindE e1 (Cm.now ?_))
    rw [hT.1]

theorem FnExactIsConnected : laws_FnExactIsConnected.Pure := by
  intro s0 l0 hs0 hl0 hx0
  refine Ev.rounds (Cm.ev ?_)
  unfold laws_FnExactIsConnected.f
  by_cases c0 : (1048576 : Int) - l0.length < 0
  · exact Cm.bindE (sz_ev (sz_big s0 l0 hl0 c0)) (Cm.pos (by decide) (Cm.now rfl))
  refine Cm.bindE (sz_ev (sz_small s0 l0 (by omega))) (Cm.neg c0 ?_)
  obtain ⟨r, b, E1, E2⟩ := both s0 l0 (by omega)
  have a_b : ¬ (b != b) = true := by cases b <;> decide
  have a_r : ¬ (r != r) = true := by cases r <;> decide
  repeat first
    | with_reducible exact Cm.now rfl
    | refine Cm.bindE (toGraph_ev s0 l0 (by omega)) ?_
    | refine Cm.bindE E1 ?_
    | refine Cm.bindE E2 ?_
    | refine Cm.bindE (eqGraph_ev s0 l0 (by omega)) (Cm.pos rfl ?_)
    | refine Cm.neg a_b ?_
    | refine Cm.neg a_r ?_
    | refine Cm.neg (by omega) ?_
    | refine Cm.pos (by omega) ?_
    | refine Cm.pos rfl ?_
    | dsimp only

end Go.Proofs.Yteepmbpmhaaonaa.Pure
