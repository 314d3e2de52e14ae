/- The pure law FnExactCaptureTime: both find the best start by one table. -/
import Derived.Test.YtmbgpbanbffchaaGrCa
import Derived.Test.YtmbgpbanbffchaaGrSo
import Derived.Test.YtmbgpbanbffchaaPxImplCaptureTime
import Derived.Test.YtmbgpbanbffchaaPxImplNetBestCop
import Derived.Test.YtmbgpbanbffchaaPxLawsFnExactCaptureTime
import Derived.Test.YtmbgpbanbffchaaPxSpecCaptureTime
namespace Go.Proofs.Ytmbgpbanbffchaa.Pure
open Go.RowKit Go.Proofs.Ytmbgpbanbffchaa.P Go.Proofs.YtmbgpbanbffchaaW.PrintWords Go.Proofs.YtmbgpbanbffchaaW.PrintLast Go.Proofs.YtmbgpbanbffchaaW.PrintMore Go.Proofs.Ytmbgpbanbffchaa.Gr

theorem both (s : Int) (l : List S75) (hl : l.length ≤ 1048576) : ∃ y t b, Ev (fun k => spec_CaptureTime.f k s l) (y, t, b) ∧ Ev (fun k => impl_CaptureTime.f k s l) (y, t, b) := by
  obtain ⟨b, hb, hS, hI⟩ := isGraph_full s l hl
  have hSo := some_ev s l b hS
  cases b with
  | false => exact ⟨0, 0, false, Cm.ev (Cm.bindE hSo (Cm.neg (by simp) (Cm.now rfl))), Cm.ev (Cm.bindE hI (Cm.neg (by decide) (Cm.now rfl)))⟩
  | true =>
    obtain ⟨hG, _⟩ := hb rfl
    have h0 := hG.1
    have h8 := hG.2.1
    obtain ⟨m, hm, hbit, hN⟩ := net_ev s l hl hG
    obtain ⟨N, Z, _, hZ, t1, t2⟩ := times_both s l hl hG m ⟨hm, hbit⟩
    have c1 := capt_spec s l h0 h8 Z
    have c2 := capt_impl s l h0 h8 N Z hZ
    have hB : Ev (fun k => impl_net_bestCop.f k m) (capt s Z) := Cm.ev (Cm.bindE t2 (Ev.cm c2))
    refine ⟨(capt s Z).1, (capt s Z).2.1, (capt s Z).2.2, ?_, Cm.ev (Cm.bindE hI (Cm.pos rfl (Cm.bindE hN (Cm.bindE hB (Cm.now rfl)))))⟩
    by_cases hs : s > 0
    · rw [Bool.true_and, decide_eq_true hs] at hSo
      exact Cm.ev (Cm.bindE hSo (Cm.pos rfl (Cm.bindE t1 (Ev.cm c1))))
    · rw [Bool.true_and, decide_eq_false hs] at hSo
      have e : capt s Z = (0, 0, false) := by
        unfold capt
        rw [show s.toNat = 0 by omega]
        rfl
      rw [e]
      exact Cm.ev (Cm.bindE hSo (Cm.neg (by decide) (Cm.now rfl)))

theorem FnExactCaptureTime : laws_FnExactCaptureTime.Pure := by
  intro s0 l0 hs0 hl0 hx0
  refine Ev.rounds (Cm.ev ?_)
  unfold laws_FnExactCaptureTime.f
  by_cases c0 : (1048576 : Int) - l0.length < 0
  · exact Cm.bindE (sz_ev (sz_big s0 l0 hl0 c0)) (Cm.pos (by decide) (Cm.now rfl))
  refine Cm.bindE (sz_ev (sz_small s0 l0 (by omega))) (Cm.neg c0 ?_)
  obtain ⟨r, q, b, E1, E2⟩ := both s0 l0 (by omega)
  have a_b : ¬ (b != b) = true := by cases b <;> decide
  repeat first
    | with_reducible exact Cm.now rfl
    | refine Cm.bindE (toGraph_ev s0 l0 (by omega)) ?_
    | refine Cm.bindE E1 ?_
    | refine Cm.bindE E2 ?_
    | refine Cm.bindE (eqGraph_ev s0 l0 (by omega)) (Cm.pos rfl ?_)
    | refine Cm.neg a_b ?_
    | refine Cm.neg (by omega) ?_
    | refine Cm.pos (by omega) ?_
    | refine Cm.pos rfl ?_
    | dsimp only

end Go.Proofs.Ytmbgpbanbffchaa.Pure
