/- The pure law FnExactOneCopWins: both ask for a best start by one table. -/
import Derived.Test.YtmbgpbanbffchaaGrCa
import Derived.Test.YtmbgpbanbffchaaGrSo
import Derived.Test.YtmbgpbanbffchaaPxImplNetBestCop
import Derived.Test.YtmbgpbanbffchaaPxImplOneCopWins
import Derived.Test.YtmbgpbanbffchaaPxLawsFnExactOneCopWins
import Derived.Test.YtmbgpbanbffchaaPxSpecCaptureTime
import Derived.Test.YtmbgpbanbffchaaPxSpecOneCopWins
namespace Go.Proofs.Ytmbgpbanbffchaa.Pure
open Go.RowKit Go.Proofs.Ytmbgpbanbffchaa.P Go.Proofs.YtmbgpbanbffchaaW.PrintWords Go.Proofs.YtmbgpbanbffchaaW.PrintLast Go.Proofs.YtmbgpbanbffchaaW.PrintMore Go.Proofs.Ytmbgpbanbffchaa.Gr

theorem both (s : Int) (l : List S75) (hl : l.length ≤ 1048576) : ∃ r b, Ev (fun k => spec_OneCopWins.f k s l) (r, b) ∧ Ev (fun k => impl_OneCopWins.f k s l) (r, b) := by
  obtain ⟨b, hb, hS, hI⟩ := isGraph_full s l hl
  have hSo := some_ev s l b hS
  have iJ : Cm (fun k => impl_OneCopWins.j0 k true s l) (fun z => z = (false, false)) := Cm.step (fun k => by simp only [impl_OneCopWins.j0, if_true]; try rfl) (Cm.now rfl)
  cases b with
  | false => exact ⟨false, false, Cm.ev (Cm.bindE hSo (Cm.neg (by simp) (Cm.now rfl))), Cm.ev (Cm.bindE hI (Cm.neg (by decide) iJ))⟩
  | true =>
    obtain ⟨hG, _⟩ := hb rfl
    have h0 := hG.1
    have h8 := hG.2.1
    by_cases hs : s > 0
    · rw [Bool.true_and, decide_eq_true hs] at hSo
      have hs0 : (s == 0) = false := by rw [Bool.eq_false_iff]; exact fun e => by have := beq_iff_eq.1 e; omega
      obtain ⟨m, hm, hbit, hN⟩ := net_ev s l hl hG
      obtain ⟨N, Z, _, hZ, t1, t2⟩ := times_both s l hl hG m ⟨hm, hbit⟩
      have c1 := capt_spec s l h0 h8 Z
      have c2 := capt_impl s l h0 h8 N Z hZ
      have hB : Ev (fun k => impl_net_bestCop.f k m) (capt s Z) := Cm.ev (Cm.bindE t2 (Ev.cm c2))
      have hC : Ev (fun k => spec_CaptureTime.f k s l) (capt s Z) := Cm.ev (Cm.bindE hSo (Cm.pos rfl (Cm.bindE t1 (Ev.cm c1))))
      refine ⟨(capt s Z).2.2, true, Cm.ev (Cm.bindE hSo (Cm.pos rfl (Cm.bindE hC (Cm.now rfl)))), Cm.ev (Cm.bindE hI (Cm.pos rfl ?_))⟩
      rw [hs0]
      refine Cm.step (fun k => by simp only [impl_OneCopWins.j0, Bool.false_eq_true, if_false]; try rfl) ?_
      exact Cm.bindE hN (Cm.bindE hB (Cm.now rfl))
    · rw [Bool.true_and, decide_eq_false hs] at hSo
      have hs0 : (s == 0) = true := beq_iff_eq.2 (by omega)
      refine ⟨false, false, Cm.ev (Cm.bindE hSo (Cm.neg (by decide) (Cm.now rfl))), Cm.ev (Cm.bindE hI (Cm.pos rfl ?_))⟩
      rw [hs0]
      exact iJ

theorem FnExactOneCopWins : laws_FnExactOneCopWins.Pure := by
  intro s0 l0 hs0 hl0 hx0
  refine Ev.rounds (Cm.ev ?_)
  unfold laws_FnExactOneCopWins.f
  by_cases c0 : (1048576 : Int) - l0.length < 0
  · exact Cm.bindE (sz_ev (sz_big s0 l0 hl0 c0)) (Cm.pos (by decide) (Cm.now rfl))
  refine Cm.bindE (sz_ev (sz_small s0 l0 (by omega))) (Cm.neg c0 ?_)
  obtain ⟨r, b, E1, E2⟩ := both s0 l0 (by omega)
  have a_b : ¬ (b != b) = true := by cases b <;> decide
  have a_r : ¬ (r != r) = true := by cases r <;> decide
  repeat first
    | with_reducible exact Cm.now rfl
    | refine Cm.bindE (toGraph_ev s0 l0 (by omega)) ?_
    | refine Cm.bindE E1 ?_
    | refine Cm.bindE E2 ?_
    | refine Cm.bindE (eqGraph_ev s0 l0 (by omega)) (Cm.pos rfl ?_)
    | refine Cm.neg a_b ?_
    | refine Cm.neg a_r ?_
    | refine Cm.neg (by omega) ?_
    | refine Cm.pos (by omega) ?_
    | refine Cm.pos rfl ?_
    | dsimp only

end Go.Proofs.Ytmbgpbanbffchaa.Pure
