/- The pure law FnExactCopMove: both find the least move that leaves one time less. -/
import Derived.Test.YtmbgpbanbffchaaGrCm
import Derived.Test.YtmbgpbanbffchaaGrTw
import Derived.Test.YtmbgpbanbffchaaPxImplCopMove
import Derived.Test.YtmbgpbanbffchaaPxLawsFnExactCopMove
import Derived.Test.YtmbgpbanbffchaaPxSpecCopMove
namespace Go.Proofs.Ytmbgpbanbffchaa.Pure
open Go.RowKit Go.Proofs.Ytmbgpbanbffchaa.P Go.Proofs.YtmbgpbanbffchaaW.PrintWords Go.Proofs.YtmbgpbanbffchaaW.PrintLast Go.Proofs.YtmbgpbanbffchaaW.PrintMore Go.Proofs.Ytmbgpbanbffchaa.Gr

theorem both (s : Int) (l : List S75) (c r : Int) (hl : l.length ≤ 1048576) : ∃ y b, Ev (fun k => spec_CopMove.f k s l c r) (y, b) ∧ Ev (fun k => impl_CopMove.f k s l c r) (y, b) := by
  obtain ⟨b, hb, hS, hI⟩ := isGraph_full s l hl
  cases b with
  | false => exact ⟨0, false, Cm.ev (Cm.bindE (two_spec_not s l c r hS) (Cm.neg (by decide) (Cm.now rfl))), Cm.ev (Cm.bindE (has_not s l _ hI) (Cm.neg (by decide) (Cm.now rfl)))⟩
  | true =>
    obtain ⟨hG, _⟩ := hb rfl
    have h0 := hG.1
    have e1 := two_spec s l c r hG hS
    have e2 := two_impl s l c r hG hI
    by_cases hcr : (0 ≤ c ∧ c < s) ∧ (0 ≤ r ∧ r < s)
    · rw [decide_eq_true hcr.1, decide_eq_true hcr.2] at e1 e2
      obtain ⟨hc, hr⟩ := hcr
      obtain ⟨m, hm, hbit, hN⟩ := net_ev s l hl hG
      obtain ⟨N, Z, hN1, hZ, t1, t2⟩ := times_both s l hl hG m ⟨hm, hbit⟩
      have hml : ((mk s Z).length : Int) = s := by rw [mk_len, Int.toNat_of_nonneg h0]
      have hrow := rowL Z c hc
      have hrl : (((V s).map (Z c)).length : Int) = s := by rw [mapV_len, Int.toNat_of_nonneg h0]
      have hrd := rd_mapV s (Z c) r hr.1 hr.2
      have hS2 : ∀ {z : Int × Bool}, Cm (fun k => if Z c r < 1 then (some ((0 : Int), false)) else ((spec_l3Chase.f k s l (mk s Z) c r).bind fun t => (some (t, true)))) (fun x => x = z) → Ev (fun k => spec_CopMove.f k s l c r) z := fun h => Cm.ev (Cm.bindE e1 (Cm.pos rfl (Cm.bindE t1 (Cm.pos hc.1 (Cm.pos (by rw [hml]; exact hc.2) (Cm.pos hr.1 (Cm.pos (by rw [hrow, hrl]; exact hr.2) (Cm.congr (fun k => by rw [hrow, hrd]) h))))))))
      have hI2 : ∀ {z : Int × Bool}, Cm (fun k => if Z c r < 1 then (some ((0 : Int), false)) else ((impl_net_copMove.f k m (mk s Z) c r).bind fun t => (some (t, true)))) (fun x => x = z) → Ev (fun k => impl_CopMove.f k s l c r) z := fun h => Cm.ev (Cm.bindE e2 (Cm.pos rfl (Cm.bindE hN (Cm.bindE t2 (Cm.pos hc.1 (Cm.pos (by rw [hml]; exact hc.2) (Cm.pos hr.1 (Cm.pos (by rw [hrow, hrl]; exact hr.2) (Cm.congr (fun k => by rw [hrow, hrd]) h)))))))))
      by_cases h1 : Z c r < 1
      · exact ⟨0, false, hS2 (Cm.pos h1 (Cm.now rfl)), hI2 (Cm.pos h1 (Cm.now rfl))⟩
      · obtain ⟨y, _, _, c1, c2⟩ := chase_both s l hl hG m ⟨hm, hbit⟩ N hN1 Z hZ c r hc hr (by omega)
        exact ⟨y, true, hS2 (Cm.neg h1 (Cm.bindE c1 (Cm.now rfl))), hI2 (Cm.neg h1 (Cm.bindE c2 (Cm.now rfl)))⟩
    · have hf : (decide (0 ≤ c ∧ c < s) && decide (0 ≤ r ∧ r < s)) = false := by
        rw [Bool.eq_false_iff]
        intro h
        rw [Bool.and_eq_true, decide_eq_true_eq, decide_eq_true_eq] at h
        exact hcr h
      rw [hf] at e1 e2
      exact ⟨0, false, Cm.ev (Cm.bindE e1 (Cm.neg (by decide) (Cm.now rfl))), Cm.ev (Cm.bindE e2 (Cm.neg (by decide) (Cm.now rfl)))⟩

theorem FnExactCopMove : laws_FnExactCopMove.Pure := by
  intro s0 l0 x1 x2 hs0 hl0 hx0 hw1 hw2
  refine Ev.rounds (Cm.ev ?_)
  unfold laws_FnExactCopMove.f
  by_cases c0 : (1048576 : Int) - l0.length < 0
  · exact Cm.bindE (sz_ev (sz_big s0 l0 hl0 c0)) (Cm.pos (by decide) (Cm.now rfl))
  refine Cm.bindE (sz_ev (sz_small s0 l0 (by omega))) (Cm.neg c0 ?_)
  obtain ⟨r, b, E1, E2⟩ := both s0 l0 x1 x2 (by omega)
  have a_b : ¬ (b != b) = true := by cases b <;> decide
  repeat first
    | with_reducible exact Cm.now rfl
    | refine Cm.bindE (toGraph_ev s0 l0 (by omega)) ?_
    | refine Cm.bindE E1 ?_
    | refine Cm.bindE E2 ?_
    | refine Cm.bindE (eqGraph_ev s0 l0 (by omega)) (Cm.pos rfl ?_)
    | refine Cm.neg a_b ?_
    | refine Cm.neg (by omega) ?_
    | refine Cm.pos (by omega) ?_
    | refine Cm.pos rfl ?_
    | dsimp only

end Go.Proofs.Ytmbgpbanbffchaa.Pure
