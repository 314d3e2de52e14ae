/- Near, as the net tells it; no conditions beyond those that each theorem names. -/
import Derived.Test.YteepmbpmhaaonaaGrM
import Derived.Test.YteepmbpmhaaonaaPxNetA
namespace Go.Proofs.Yteepmbpmhaaonaa.Gr
open Go.RowKit Go.Proofs.Yteepmbpmhaaonaa.P Go.Proofs.YteepmbpmhaaonaaW.PrintWords Go.Proofs.YteepmbpmhaaonaaW.PrintLast Go.Proofs.YteepmbpmhaaonaaW.PrintMore

theorem has_eq (s : Int) (m : List Int) (u v : Int) (hm : Masks s m) (hu0 : 0 ≤ u) (hu1 : u < s) (hv0 : 0 ≤ v) : impl_net_has.f m u v = some (bit (rd m u) v) := by
  unfold impl_net_has.f
  rw [if_pos hu0, if_pos (by rw [hm.1]; exact hu1), if_pos hv0]
  rfl

end Go.Proofs.Yteepmbpmhaaonaa.Gr
