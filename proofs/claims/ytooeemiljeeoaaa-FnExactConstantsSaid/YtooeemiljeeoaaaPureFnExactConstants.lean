/- The program's exported constants have the values that the statement names; no conditions. -/
import Derived.Test.YtooeemiljeeoaaaPFnExactConstantsx1
namespace Go.Proofs.Ytooeemiljeeoaaa.Pure
open Go.RowKit Go.Proofs.Ytooeemiljeeoaaa.PFnExactConstants Go.Proofs.YtooeemiljeeoaaaW.PrintWords Go.Proofs.YtooeemiljeeoaaaW.PrintLast

theorem FnExactConstants : laws_FnExactConstants.Pure := rfl

end Go.Proofs.Ytooeemiljeeoaaa.Pure
