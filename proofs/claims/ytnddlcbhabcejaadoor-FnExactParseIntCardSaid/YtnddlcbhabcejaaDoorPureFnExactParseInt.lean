/- The pure law FnExactParseInt: both read the same number from the same texts. -/
import Derived.Test.YtnddlcbhabcejaaDoorGrPi
import Derived.Test.YtnddlcbhabcejaaDoorPxImplParseInt
import Derived.Test.YtnddlcbhabcejaaDoorPxLawsFnExactParseInt
import Derived.Test.YtnddlcbhabcejaaDoorPxSpecParseInt
namespace Go.Proofs.YtnddlcbhabcejaaDoor.Pure
open Go.RowKit Go.Proofs.YtnddlcbhabcejaaDoor.P Go.Proofs.YtnddlcbhabcejaaDoorW.PrintWords Go.Proofs.YtnddlcbhabcejaaDoorW.PrintLast Go.Proofs.YtnddlcbhabcejaaDoor.Gr

theorem FnExactParseInt : laws_FnExactParseInt.Pure := by
  intro s _
  refine Ev.rounds (Cm.ev ?_)
  unfold laws_FnExactParseInt.f
  refine Cm.ite (fun _ => Cm.now rfl) (fun h => ?_)
  obtain ⟨v, b, _, E1, E2⟩ := int_both s (by omega)
  have hb : ∀ b : Bool, ¬ (b != b) = true := fun b => by cases b <;> decide
  rw [E2]
  refine Cm.bindE (Cm.ev ?_) (Cm.bindE (Ev.now _) (Cm.pos rfl (Cm.neg (hb b) (Cm.now rfl))))
  unfold spec_ParseInt.f
  exact Cm.bindE E1 (Cm.now rfl)

end Go.Proofs.YtnddlcbhabcejaaDoor.Pure
