/- A good graph with a node, by both; no conditions beyond those that each theorem names. -/
import Derived.Test.YtbnhckhbjoldcaaGrG
import Derived.Test.YtbnhckhbjoldcaaGrC
import Derived.Test.YtbnhckhbjoldcaaPxSpecL3Some
namespace Go.Proofs.Ytbnhckhbjoldcaa.Gr
open Go.RowKit Go.Proofs.Ytbnhckhbjoldcaa.P Go.Proofs.YtbnhckhbjoldcaaW.PrintWords Go.Proofs.YtbnhckhbjoldcaaW.PrintLast Go.Proofs.YtbnhckhbjoldcaaW.PrintMore

theorem some_ev (s : Int) (l : List S82) (b : Bool) (h : Ev (fun k => spec_l2Good.f k s l) b) : Ev (fun k => spec_l3Some.f k s l) (b && decide (s > 0)) := by
  refine Cm.ev ?_
  unfold spec_l3Some.f
  cases b with
  | false => exact Cm.bindE h (Cm.neg (by decide) (Cm.now rfl))
  | true => exact Cm.bindE h (Cm.pos rfl (Cm.now rfl))

end Go.Proofs.Ytbnhckhbjoldcaa.Gr
