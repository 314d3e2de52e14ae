/- The pure law FnExactGraphText: both write the same text. -/
import Derived.Test.YtnddlcbhabcejaaDoorGrGt
import Derived.Test.YtnddlcbhabcejaaDoorPxLawsFnExactGraphText
namespace Go.Proofs.YtnddlcbhabcejaaDoor.Pure
open Go.RowKit Go.Proofs.YtnddlcbhabcejaaDoor.P Go.Proofs.YtnddlcbhabcejaaDoorW.PrintWords Go.Proofs.YtnddlcbhabcejaaDoorW.PrintLast Go.Proofs.YtnddlcbhabcejaaDoorW.PrintMore Go.Proofs.YtnddlcbhabcejaaDoor.Gr

theorem FnExactGraphText : laws_FnExactGraphText.Pure := by
  intro s l _ hl _
  by_cases hbig : (1048576 : Int) - l.length < 0
  · refine ⟨0, ?_⟩
    unfold laws_FnExactGraphText.f
    rw [sz_big s l hl hbig]
    rfl
  have hlen : l.length ≤ 1048576 := by omega
  obtain ⟨t, b, E1, E2⟩ := gt_both s l hlen
  have hb : ¬ (b != b) = true := by cases b <;> decide
  refine Ev.rounds (Cm.ev ?_)
  unfold laws_FnExactGraphText.f
  rw [sz_small s l hlen]
  refine Cm.bindE (Ev.now _) (Cm.neg (by omega) (Cm.bindE (toGraph_ev s l hlen) (Cm.bindE E1 (Cm.bindE (toGraph_ev s l hlen) (Cm.bindE E2 ?_)))))
  exact Cm.pos rfl (Cm.neg hb (Cm.bindE (toGraph_ev s l hlen) (Cm.bindE (eqGraph_ev s l hlen) (Cm.pos rfl (Cm.now rfl)))))

end Go.Proofs.YtnddlcbhabcejaaDoor.Pure
