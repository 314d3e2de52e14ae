/- LessString of the program and of the reference compare the same bytes in the same way; no conditions beyond the sizes that the row bears. -/
import Derived.Test.YtooeemiljeeoaaaPFnExactLessStringx1
namespace Go.Proofs.Ytooeemiljeeoaaa.Pure
open Go.RowKit Go.Proofs.Ytooeemiljeeoaaa.PFnExactLessString Go.Proofs.YtooeemiljeeoaaaW.PrintWords Go.Proofs.YtooeemiljeeoaaaW.PrintLast

theorem FnExactLessString : laws_FnExactLessString.Pure := by
  intro a b _ _
  unfold laws_FnExactLessString.f spec_LessString.f impl_LessString.f
  simp

end Go.Proofs.Ytooeemiljeeoaaa.Pure
