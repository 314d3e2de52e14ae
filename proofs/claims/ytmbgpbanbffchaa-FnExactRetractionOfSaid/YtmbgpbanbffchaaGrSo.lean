/- A good graph with a node, by both; no conditions beyond those that each theorem names. -/
import Derived.Test.YtmbgpbanbffchaaGrG
import Derived.Test.YtmbgpbanbffchaaGrC
import Derived.Test.YtmbgpbanbffchaaPxSpecL3A
namespace Go.Proofs.Ytmbgpbanbffchaa.Gr
open Go.RowKit Go.Proofs.Ytmbgpbanbffchaa.P Go.Proofs.YtmbgpbanbffchaaW.PrintWords Go.Proofs.YtmbgpbanbffchaaW.PrintLast Go.Proofs.YtmbgpbanbffchaaW.PrintMore

theorem some_ev (s : Int) (l : List S75) (b : Bool) (h : Ev (fun k => spec_l2Good.f k s l) b) : Ev (fun k => spec_l3Some.f k s l) (b && decide (s > 0)) := by
  refine Cm.ev ?_
  unfold spec_l3Some.f
  cases b with
  | false => exact Cm.bindE h (Cm.neg (by decide) (Cm.now rfl))
  | true => exact Cm.bindE h (Cm.pos rfl (Cm.now rfl))

end Go.Proofs.Ytmbgpbanbffchaa.Gr
