/- The pure law FnExactParseGraph: both read the graph whose text it is. -/
import Derived.Test.YtnddlcbhabcejaaDoorGrPg
import Derived.Test.YtnddlcbhabcejaaDoorGrBH
import Derived.Test.YtnddlcbhabcejaaDoorPxImplParseGraph
import Derived.Test.YtnddlcbhabcejaaDoorPxLawsFnExactParseGraph
import Derived.Test.YtnddlcbhabcejaaDoorPxSpecParseGraph
namespace Go.Proofs.YtnddlcbhabcejaaDoor.Pure
open Go.RowKit Go.Proofs.YtnddlcbhabcejaaDoor.P Go.Proofs.YtnddlcbhabcejaaDoorW.PrintWords Go.Proofs.YtnddlcbhabcejaaDoorW.PrintLast Go.Proofs.YtnddlcbhabcejaaDoorW.PrintMore Go.Proofs.YtnddlcbhabcejaaDoor.Gr

theorem FnExactParseGraph : laws_FnExactParseGraph.Pure := by
  intro S _
  refine Ev.rounds (Cm.ev ?_)
  unfold laws_FnExactParseGraph.f
  refine Cm.ite (fun _ => Cm.now rfl) (fun h => ?_)
  obtain ⟨s, l, b, hl, _, E1, E2⟩ := pg_both S (by omega)
  obtain ⟨re, E3, E4⟩ := mark_held s l (by omega)
  have hb : ¬ (b != b) = true := by cases b <;> decide
  refine Cm.bindE E1 (Cm.bindE E2 (Cm.bindE (eqGraph_ev s l (by omega)) (Cm.pos rfl (Cm.neg hb (Cm.bindE E3 (Cm.bindE E4 ?_))))))
  refine Cm.neg (by omega) (Cm.pos rfl (Cm.bindE E2 (Cm.bindE (eqGraph_ev s l (by omega)) (Cm.pos rfl (Cm.neg hb (Cm.bindE E4 ?_))))))
  exact Cm.neg (by omega) (Cm.pos rfl (Cm.now rfl))

end Go.Proofs.YtnddlcbhabcejaaDoor.Pure
