/- The pure law FnExactFormatInt: both tell the same text within the same bounds. -/
import Derived.Test.YtnddlcbhabcejaaDoorGrNm
import Derived.Test.YtnddlcbhabcejaaDoorPxImplFormatInt
import Derived.Test.YtnddlcbhabcejaaDoorPxLawsFnExactFormatInt
import Derived.Test.YtnddlcbhabcejaaDoorPxSpecFormatInt
import Derived.Test.YtnddlcbhabcejaaDoorPxStrconvItoa49
namespace Go.Proofs.YtnddlcbhabcejaaDoor.Pure
open Go.RowKit Go.Proofs.YtnddlcbhabcejaaDoor.P Go.Proofs.YtnddlcbhabcejaaDoorW.PrintWords Go.Proofs.YtnddlcbhabcejaaDoorW.PrintLast Go.Proofs.YtnddlcbhabcejaaDoor.Gr

theorem both (n : Int) : ∃ r b, Ev (fun k => spec_FormatInt.f k n) (r, b) ∧ impl_FormatInt.f n = some (r, b) := by
  by_cases h : -999999 ≤ n ∧ n ≤ 999999
  · refine ⟨tx n, true, Cm.ev ?_, ?_⟩
    · unfold spec_FormatInt.f
      rw [in_eq, decide_eq_true h]
      exact Cm.bindE (Ev.now _) (Cm.pos rfl (Cm.bindE (num_ev n (by omega) (by omega)) (Cm.now rfl)))
    · unfold impl_FormatInt.f strconv_Itoa_49.f
      rw [within_eq, decide_eq_true h, if_pos ⟨by omega, by omega⟩]
      rfl
  · refine ⟨⟨#[]⟩, false, Cm.ev ?_, ?_⟩
    · unfold spec_FormatInt.f
      rw [in_eq, decide_eq_false h]
      exact Cm.bindE (Ev.now _) (Cm.neg (by decide) (Cm.now rfl))
    · unfold impl_FormatInt.f
      rw [within_eq, decide_eq_false h]
      rfl

theorem FnExactFormatInt : laws_FnExactFormatInt.Pure := by
  intro n _
  refine Ev.rounds (Cm.ev ?_)
  obtain ⟨r, b, E1, E2⟩ := both n
  unfold laws_FnExactFormatInt.f
  rw [E2]
  have hb : ¬ (b != b) = true := by cases b <;> decide
  exact Cm.bindE E1 (Cm.bindE (Ev.now _) (Cm.pos rfl (Cm.neg hb (Cm.now rfl))))

end Go.Proofs.YtnddlcbhabcejaaDoor.Pure
