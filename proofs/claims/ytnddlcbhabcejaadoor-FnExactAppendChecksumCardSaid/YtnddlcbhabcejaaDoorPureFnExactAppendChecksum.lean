/- The pure law FnExactAppendChecksum: both lay the same sum behind a text. -/
import Derived.Test.YtnddlcbhabcejaaDoorGrSu
import Derived.Test.YtnddlcbhabcejaaDoorPxImplAppendChecksum
import Derived.Test.YtnddlcbhabcejaaDoorPxLawsFnExactAppendChecksum
import Derived.Test.YtnddlcbhabcejaaDoorPxSpecAppendChecksum
namespace Go.Proofs.YtnddlcbhabcejaaDoor.Pure
open Go.RowKit Go.Proofs.YtnddlcbhabcejaaDoor.P Go.Proofs.YtnddlcbhabcejaaDoorW.PrintWords Go.Proofs.YtnddlcbhabcejaaDoorW.PrintLast Go.Proofs.YtnddlcbhabcejaaDoor.Gr

theorem FnExactAppendChecksum : laws_FnExactAppendChecksum.Pure := by
  intro s _
  refine Ev.rounds (Cm.ev ?_)
  unfold laws_FnExactAppendChecksum.f
  refine Cm.ite (fun _ => Cm.now rfl) (fun h => ?_)
  have hb : ∀ b : Bool, ¬ (b != b) = true := fun b => by cases b <;> decide
  exact Cm.bindE (app_spec s (by omega)) (Cm.bindE (app_impl s (by omega)) (Cm.pos rfl (Cm.neg (hb _) (Cm.now rfl))))

end Go.Proofs.YtnddlcbhabcejaaDoor.Pure
