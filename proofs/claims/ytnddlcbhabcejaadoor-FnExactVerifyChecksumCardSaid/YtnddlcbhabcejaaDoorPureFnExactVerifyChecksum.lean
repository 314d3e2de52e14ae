/- The pure law FnExactVerifyChecksum: both open a sealed text alike. -/
import Derived.Test.YtnddlcbhabcejaaDoorGrSv
import Derived.Test.YtnddlcbhabcejaaDoorPxImplVerifyChecksum
import Derived.Test.YtnddlcbhabcejaaDoorPxLawsFnExactVerifyChecksum
import Derived.Test.YtnddlcbhabcejaaDoorPxSpecVerifyChecksum
namespace Go.Proofs.YtnddlcbhabcejaaDoor.Pure
open Go.RowKit Go.Proofs.YtnddlcbhabcejaaDoor.P Go.Proofs.YtnddlcbhabcejaaDoorW.PrintWords Go.Proofs.YtnddlcbhabcejaaDoorW.PrintLast Go.Proofs.YtnddlcbhabcejaaDoor.Gr

theorem FnExactVerifyChecksum : laws_FnExactVerifyChecksum.Pure := by
  intro s _
  refine Ev.rounds (Cm.ev ?_)
  unfold laws_FnExactVerifyChecksum.f
  refine Cm.ite (fun _ => Cm.now rfl) (fun h => ?_)
  have hb : ∀ b : Bool, ¬ (b != b) = true := fun b => by cases b <;> decide
  exact Cm.bindE (opn_spec s (by omega)) (Cm.bindE (opn_impl s (by omega)) (Cm.pos rfl (Cm.neg (hb _) (Cm.now rfl))))

end Go.Proofs.YtnddlcbhabcejaaDoor.Pure
