/- Near, as the net tells it; no conditions beyond those that each theorem names. -/
import Derived.Test.YtooeemiljeeoaaaGrM
import Derived.Test.YtooeemiljeeoaaaPxNetA
namespace Go.Proofs.Ytooeemiljeeoaaa.Gr
open Go.RowKit Go.Proofs.Ytooeemiljeeoaaa.P Go.Proofs.YtooeemiljeeoaaaW.PrintWords Go.Proofs.YtooeemiljeeoaaaW.PrintLast Go.Proofs.YtooeemiljeeoaaaW.PrintMore

theorem has_eq (s : Int) (m : List Int) (u v : Int) (hm : Masks s m) (hu0 : 0 ≤ u) (hu1 : u < s) (hv0 : 0 ≤ v) : impl_net_has.f m u v = some (bit (rd m u) v) := by
  unfold impl_net_has.f
  rw [if_pos hu0, if_pos (by rw [hm.1]; exact hu1), if_pos hv0]
  rfl

end Go.Proofs.Ytooeemiljeeoaaa.Gr
