/- The pure law FnExactJoinStrings: both join texts in which the byte between them does not stand, up to the same length. -/
import Derived.Test.YtnddlcbhabcejaaGrJs
import Derived.Test.YtnddlcbhabcejaaPxImplJoinStrings
import Derived.Test.YtnddlcbhabcejaaPxLawsFnExactJoinStrings
import Derived.Test.YtnddlcbhabcejaaPxSpecJoinStrings
namespace Go.Proofs.Ytnddlcbhabcejaa.Pure
open Go.RowKit Go.Proofs.Ytnddlcbhabcejaa.P Go.Proofs.YtnddlcbhabcejaaW.PrintWords Go.Proofs.YtnddlcbhabcejaaW.PrintLast Go.Proofs.YtnddlcbhabcejaaW.PrintMore Go.Proofs.Ytnddlcbhabcejaa.Gr

theorem FnExactJoinStrings : laws_FnExactJoinStrings.Pure := by
  intro l p hl hx _
  refine Ev.rounds (Cm.ev ?_)
  unfold laws_FnExactJoinStrings.f
  refine Cm.ite (fun _ => Cm.now rfl) (fun _ => Cm.bind (szS_ev l hl hx) ?_)
  rintro r hr
  refine Cm.ite (fun _ => Cm.now rfl) (fun h => ?_)
  have hs : l.length + tot l ≤ 1048576 := by
    rcases hr with h2 | h2
    · exact (h h2).elim
    · exact h2.2
  obtain ⟨z, E1, E2⟩ := join_both l p hs
  have hT := toS_ev l (by omega)
  have hb : ∀ b : Bool, ¬ (b != b) = true := fun b => by cases b <;> decide
  refine Cm.bindE hT (Cm.bindE E1 (Cm.bindE hT (Cm.bindE E2 (Cm.pos rfl (Cm.neg (hb _) (Cm.bindE hT ?_))))))
  exact Cm.bindE (eqSt_ev l (by omega)) (Cm.pos rfl (Cm.now rfl))

end Go.Proofs.Ytnddlcbhabcejaa.Pure
