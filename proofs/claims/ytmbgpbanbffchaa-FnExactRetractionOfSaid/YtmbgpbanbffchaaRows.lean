/-
  No cell of these rows narrows 'for every input' (looked for: loops, veiled, ifaces, maps, wideKeys, modest, calm, conditions, laid).
  DERIVED. THE GIVEN ROWS OF THIS SEAT. 10 by the template 'for every input the law returns true; each argument reads behind the call as it read before'; 0 by the template 'total and deterministic' (their statements: YtmbgpbanbffchaaTotals.lean).
  GIVEN WITH THE SEED: the statements are not yours to turn. If you find one false, say at which input.
  Laid BY PROGRAM, IN A SANDBOX (cutbox-rows.mjs): the forced cells as the released guide's own fill.sh prints them over the translation cf9359e197277694… (all of the seat's roots in one cut). By AI agents, Wed Nov 11 2026. No macro, syntax, notation, axiom, sorry.
-/
import Derived.Test.YtmbgpbanbffchaaChecked
import GoSem.Claim
import GoSem.ClaimJoined
import GoSem.ClaimMapViews
import Derived.JoinedTies
import Derived.KernelRfl
namespace Go.Proofs.Ytmbgpbanbffchaa
/- THE CELL 'sum', in the pinned program and in every row, IS THE sha256 OF THE DUMP (.gsa) THAT YtmbgpbanbffchaaProg.lean LOADS. Nothing in Lean hashes anything: it is a label: what it is worth is what the hold of that sum in a sandbox is worth. -/
noncomputable def Try.pinned : Pinned := { name := "ytmbgpbanbffchaa", sum := "cf9359e197277694ecf02ce9a688ca06e42e9b3cf6f2310036de710cef06cb58", checked := Try.checked }
namespace Rows
def none {H : Type} : Left H := { results := [], args := [] }

/-- 'laws.FnExactRetractionOf': WHATEVER THE INPUT: true; the input reads as it did. -/
def fnExactRetractionOfSpec : ChangeSpec := { name := "fnExactRetractionOf", fn := fun _ => fun
  | [d] => { results := [.lit (.bool true)], args := [d] }
  | _ => none }
def fnExactRetractionOfRow : OpenClaim := { program := "ytmbgpbanbffchaa", sum := "cf9359e197277694ecf02ce9a688ca06e42e9b3cf6f2310036de710cef06cb58", func := "loop.example/g01109/laws.FnExactRetractionOf", spec := "fnExactRetractionOf", unfollowed := true, recurses := true, apart := false }
def FnExactRetractionOfSaid : Prop := fnExactRetractionOfRow.holds Try.pinned (OpenSpec.ofChange fnExactRetractionOfSpec)

/-- ITS FALSE NEIGHBOUR: 'it returns false'. Refute it at one input. -/
def fnExactRetractionOfWrong : ChangeSpec := { name := "fnExactRetractionOf", fn := fun _ => fun
  | [d] => { results := [.lit (.bool false)], args := [d] }
  | _ => none }
def FnExactRetractionOfWrongFalsely : Prop := fnExactRetractionOfRow.holds Try.pinned (OpenSpec.ofChange fnExactRetractionOfWrong)

/-- 'laws.FnExactShadowsOf': WHATEVER THE INPUT: true; the input reads as it did. -/
def fnExactShadowsOfSpec : ChangeSpec := { name := "fnExactShadowsOf", fn := fun _ => fun
  | [d1, d2] => { results := [.lit (.bool true)], args := [d1, d2] }
  | _ => none }
def fnExactShadowsOfRow : OpenClaim := { program := "ytmbgpbanbffchaa", sum := "cf9359e197277694ecf02ce9a688ca06e42e9b3cf6f2310036de710cef06cb58", func := "loop.example/g01109/laws.FnExactShadowsOf", spec := "fnExactShadowsOf", unfollowed := true, recurses := true, apart := false }
def FnExactShadowsOfSaid : Prop := fnExactShadowsOfRow.holds Try.pinned (OpenSpec.ofChange fnExactShadowsOfSpec)

/-- ITS FALSE NEIGHBOUR: 'it returns false'. Refute it at one input. -/
def fnExactShadowsOfWrong : ChangeSpec := { name := "fnExactShadowsOf", fn := fun _ => fun
  | [d1, d2] => { results := [.lit (.bool false)], args := [d1, d2] }
  | _ => none }
def FnExactShadowsOfWrongFalsely : Prop := fnExactShadowsOfRow.holds Try.pinned (OpenSpec.ofChange fnExactShadowsOfWrong)

/-- 'laws.FnExactRobberMove': WHATEVER THE INPUT: true; the input reads as it did. -/
def fnExactRobberMoveSpec : ChangeSpec := { name := "fnExactRobberMove", fn := fun _ => fun
  | [d1, d2, d3] => { results := [.lit (.bool true)], args := [d1, d2, d3] }
  | _ => none }
def fnExactRobberMoveRow : OpenClaim := { program := "ytmbgpbanbffchaa", sum := "cf9359e197277694ecf02ce9a688ca06e42e9b3cf6f2310036de710cef06cb58", func := "loop.example/g01109/laws.FnExactRobberMove", spec := "fnExactRobberMove", unfollowed := true, recurses := true, apart := false }
def FnExactRobberMoveSaid : Prop := fnExactRobberMoveRow.holds Try.pinned (OpenSpec.ofChange fnExactRobberMoveSpec)

/-- ITS FALSE NEIGHBOUR: 'it returns false'. Refute it at one input. -/
def fnExactRobberMoveWrong : ChangeSpec := { name := "fnExactRobberMove", fn := fun _ => fun
  | [d1, d2, d3] => { results := [.lit (.bool false)], args := [d1, d2, d3] }
  | _ => none }
def FnExactRobberMoveWrongFalsely : Prop := fnExactRobberMoveRow.holds Try.pinned (OpenSpec.ofChange fnExactRobberMoveWrong)

/-- 'laws.FnExactCopMove': WHATEVER THE INPUT: true; the input reads as it did. -/
def fnExactCopMoveSpec : ChangeSpec := { name := "fnExactCopMove", fn := fun _ => fun
  | [d1, d2, d3] => { results := [.lit (.bool true)], args := [d1, d2, d3] }
  | _ => none }
def fnExactCopMoveRow : OpenClaim := { program := "ytmbgpbanbffchaa", sum := "cf9359e197277694ecf02ce9a688ca06e42e9b3cf6f2310036de710cef06cb58", func := "loop.example/g01109/laws.FnExactCopMove", spec := "fnExactCopMove", unfollowed := true, recurses := true, apart := false }
def FnExactCopMoveSaid : Prop := fnExactCopMoveRow.holds Try.pinned (OpenSpec.ofChange fnExactCopMoveSpec)

/-- ITS FALSE NEIGHBOUR: 'it returns false'. Refute it at one input. -/
def fnExactCopMoveWrong : ChangeSpec := { name := "fnExactCopMove", fn := fun _ => fun
  | [d1, d2, d3] => { results := [.lit (.bool false)], args := [d1, d2, d3] }
  | _ => none }
def FnExactCopMoveWrongFalsely : Prop := fnExactCopMoveRow.holds Try.pinned (OpenSpec.ofChange fnExactCopMoveWrong)

/-- 'laws.FnExactCaptureTime': WHATEVER THE INPUT: true; the input reads as it did. -/
def fnExactCaptureTimeSpec : ChangeSpec := { name := "fnExactCaptureTime", fn := fun _ => fun
  | [d] => { results := [.lit (.bool true)], args := [d] }
  | _ => none }
def fnExactCaptureTimeRow : OpenClaim := { program := "ytmbgpbanbffchaa", sum := "cf9359e197277694ecf02ce9a688ca06e42e9b3cf6f2310036de710cef06cb58", func := "loop.example/g01109/laws.FnExactCaptureTime", spec := "fnExactCaptureTime", unfollowed := true, recurses := true, apart := false }
def FnExactCaptureTimeSaid : Prop := fnExactCaptureTimeRow.holds Try.pinned (OpenSpec.ofChange fnExactCaptureTimeSpec)

/-- ITS FALSE NEIGHBOUR: 'it returns false'. Refute it at one input. -/
def fnExactCaptureTimeWrong : ChangeSpec := { name := "fnExactCaptureTime", fn := fun _ => fun
  | [d] => { results := [.lit (.bool false)], args := [d] }
  | _ => none }
def FnExactCaptureTimeWrongFalsely : Prop := fnExactCaptureTimeRow.holds Try.pinned (OpenSpec.ofChange fnExactCaptureTimeWrong)

/-- 'laws.FnExactOneCopWins': WHATEVER THE INPUT: true; the input reads as it did. -/
def fnExactOneCopWinsSpec : ChangeSpec := { name := "fnExactOneCopWins", fn := fun _ => fun
  | [d] => { results := [.lit (.bool true)], args := [d] }
  | _ => none }
def fnExactOneCopWinsRow : OpenClaim := { program := "ytmbgpbanbffchaa", sum := "cf9359e197277694ecf02ce9a688ca06e42e9b3cf6f2310036de710cef06cb58", func := "loop.example/g01109/laws.FnExactOneCopWins", spec := "fnExactOneCopWins", unfollowed := true, recurses := true, apart := false }
def FnExactOneCopWinsSaid : Prop := fnExactOneCopWinsRow.holds Try.pinned (OpenSpec.ofChange fnExactOneCopWinsSpec)

/-- ITS FALSE NEIGHBOUR: 'it returns false'. Refute it at one input. -/
def fnExactOneCopWinsWrong : ChangeSpec := { name := "fnExactOneCopWins", fn := fun _ => fun
  | [d] => { results := [.lit (.bool false)], args := [d] }
  | _ => none }
def FnExactOneCopWinsWrongFalsely : Prop := fnExactOneCopWinsRow.holds Try.pinned (OpenSpec.ofChange fnExactOneCopWinsWrong)

/-- 'laws.FnExactCopTimes': WHATEVER THE INPUT: true; the input reads as it did. -/
def fnExactCopTimesSpec : ChangeSpec := { name := "fnExactCopTimes", fn := fun _ => fun
  | [d] => { results := [.lit (.bool true)], args := [d] }
  | _ => none }
def fnExactCopTimesRow : OpenClaim := { program := "ytmbgpbanbffchaa", sum := "cf9359e197277694ecf02ce9a688ca06e42e9b3cf6f2310036de710cef06cb58", func := "loop.example/g01109/laws.FnExactCopTimes", spec := "fnExactCopTimes", unfollowed := true, recurses := true, apart := false }
def FnExactCopTimesSaid : Prop := fnExactCopTimesRow.holds Try.pinned (OpenSpec.ofChange fnExactCopTimesSpec)

/-- ITS FALSE NEIGHBOUR: 'it returns false'. Refute it at one input. -/
def fnExactCopTimesWrong : ChangeSpec := { name := "fnExactCopTimes", fn := fun _ => fun
  | [d] => { results := [.lit (.bool false)], args := [d] }
  | _ => none }
def FnExactCopTimesWrongFalsely : Prop := fnExactCopTimesRow.holds Try.pinned (OpenSpec.ofChange fnExactCopTimesWrong)

/-- 'laws.FnExactPlayOut': WHATEVER THE INPUT: true; the input reads as it did. -/
def fnExactPlayOutSpec : ChangeSpec := { name := "fnExactPlayOut", fn := fun _ => fun
  | [d1, d2, d3] => { results := [.lit (.bool true)], args := [d1, d2, d3] }
  | _ => none }
def fnExactPlayOutRow : OpenClaim := { program := "ytmbgpbanbffchaa", sum := "cf9359e197277694ecf02ce9a688ca06e42e9b3cf6f2310036de710cef06cb58", func := "loop.example/g01109/laws.FnExactPlayOut", spec := "fnExactPlayOut", unfollowed := true, recurses := true, apart := false }
def FnExactPlayOutSaid : Prop := fnExactPlayOutRow.holds Try.pinned (OpenSpec.ofChange fnExactPlayOutSpec)

/-- ITS FALSE NEIGHBOUR: 'it returns false'. Refute it at one input. -/
def fnExactPlayOutWrong : ChangeSpec := { name := "fnExactPlayOut", fn := fun _ => fun
  | [d1, d2, d3] => { results := [.lit (.bool false)], args := [d1, d2, d3] }
  | _ => none }
def FnExactPlayOutWrongFalsely : Prop := fnExactPlayOutRow.holds Try.pinned (OpenSpec.ofChange fnExactPlayOutWrong)

/-- 'laws.FnFamilies': WHATEVER THE INPUT: true; the input reads as it did. -/
def fnFamiliesSpec : ChangeSpec := { name := "fnFamilies", fn := fun _ => fun
  | [d] => { results := [.lit (.bool true)], args := [d] }
  | _ => none }
def fnFamiliesRow : OpenClaim := { program := "ytmbgpbanbffchaa", sum := "cf9359e197277694ecf02ce9a688ca06e42e9b3cf6f2310036de710cef06cb58", func := "loop.example/g01109/laws.FnFamilies", spec := "fnFamilies", unfollowed := true, recurses := true, apart := false }
def FnFamiliesSaid : Prop := fnFamiliesRow.holds Try.pinned (OpenSpec.ofChange fnFamiliesSpec)

/-- ITS FALSE NEIGHBOUR: 'it returns false'. Refute it at one input. -/
def fnFamiliesWrong : ChangeSpec := { name := "fnFamilies", fn := fun _ => fun
  | [d] => { results := [.lit (.bool false)], args := [d] }
  | _ => none }
def FnFamiliesWrongFalsely : Prop := fnFamiliesRow.holds Try.pinned (OpenSpec.ofChange fnFamiliesWrong)

/-- 'laws.FnProducts': WHATEVER THE INPUT: true; the input reads as it did. -/
def fnProductsSpec : ChangeSpec := { name := "fnProducts", fn := fun _ => fun
  | [d] => { results := [.lit (.bool true)], args := [d] }
  | _ => none }
def fnProductsRow : OpenClaim := { program := "ytmbgpbanbffchaa", sum := "cf9359e197277694ecf02ce9a688ca06e42e9b3cf6f2310036de710cef06cb58", func := "loop.example/g01109/laws.FnProducts", spec := "fnProducts", unfollowed := true, recurses := true, apart := false }
def FnProductsSaid : Prop := fnProductsRow.holds Try.pinned (OpenSpec.ofChange fnProductsSpec)

/-- ITS FALSE NEIGHBOUR: 'it returns false'. Refute it at one input. -/
def fnProductsWrong : ChangeSpec := { name := "fnProducts", fn := fun _ => fun
  | [d] => { results := [.lit (.bool false)], args := [d] }
  | _ => none }
def FnProductsWrongFalsely : Prop := fnProductsRow.holds Try.pinned (OpenSpec.ofChange fnProductsWrong)

/- THE SECOND FORM. 'bulk': how many values and letters a reading holds, each counted each time it is reached (what is shared counts as often as it is met; a slice's spare places count too). A statement '..UptoSaid' is the law's where the arguments, and the package variables that the reading takes, are together of bulk at most 1048576: NARROWER than '..Said'. Prove '..Said' where nothing that the law and all that it calls make is longer than what came in: it says more and counts as full. Else prove '..UptoSaid'. A law counts once. -/
mutual
def uptoBulk {H : Type} : DataW H → Nat
  | .lit (.string bytes) => bytes.length + 1
  | .lit _ => 1
  | .nil => 1
  | .ptr d => uptoBulk d + 1
  | .slice elems spare => uptoBulkAll elems + uptoBulkAll spare + 1
  | .agg parts => uptoBulkAll parts + 1
  | .iface _ d => uptoBulk d + 1
  | .map entries => uptoBulkEntries entries + 1
  | .held _ => 1
def uptoBulkAll {H : Type} : List (DataW H) → Nat
  | [] => 0
  | d :: r => uptoBulk d + uptoBulkAll r
def uptoBulkEntries {H : Type} : List (Lit × DataW H) → Nat
  | [] => 0
  | x :: r => uptoBulkEntry x + uptoBulkEntries r
def uptoBulkEntry {H : Type} : Lit × DataW H → Nat
  | (.string bytes, d) => bytes.length + uptoBulk d + 1
  | (_, d) => uptoBulk d + 1
 end
def uptoSmall : (H : Type) → List (DataW H) → Bool := fun _ ds => decide (uptoBulkAll ds ≤ 1048576)
def OpenSpec.upto (s : _root_.Go.ChangeSpec) : _root_.Go.OpenSpec := { _root_.Go.OpenSpec.ofChange s with cond := some uptoSmall }

/-- 'laws.FnExactRetractionOf', WHERE WHAT IT READS IS OF BULK AT MOST 1048576: true; the input reads as it did. -/
def fnExactRetractionOfUptoRow : OpenClaim := { program := "ytmbgpbanbffchaa", sum := "cf9359e197277694ecf02ce9a688ca06e42e9b3cf6f2310036de710cef06cb58", func := "loop.example/g01109/laws.FnExactRetractionOf", spec := "fnExactRetractionOf", unfollowed := true, recurses := true, apart := false, narrowed := true }
def FnExactRetractionOfUptoSaid : Prop := fnExactRetractionOfUptoRow.holds Try.pinned (OpenSpec.upto fnExactRetractionOfSpec)

/-- 'laws.FnExactShadowsOf', WHERE WHAT IT READS IS OF BULK AT MOST 1048576: true; the input reads as it did. -/
def fnExactShadowsOfUptoRow : OpenClaim := { program := "ytmbgpbanbffchaa", sum := "cf9359e197277694ecf02ce9a688ca06e42e9b3cf6f2310036de710cef06cb58", func := "loop.example/g01109/laws.FnExactShadowsOf", spec := "fnExactShadowsOf", unfollowed := true, recurses := true, apart := false, narrowed := true }
def FnExactShadowsOfUptoSaid : Prop := fnExactShadowsOfUptoRow.holds Try.pinned (OpenSpec.upto fnExactShadowsOfSpec)

/-- 'laws.FnExactRobberMove', WHERE WHAT IT READS IS OF BULK AT MOST 1048576: true; the input reads as it did. -/
def fnExactRobberMoveUptoRow : OpenClaim := { program := "ytmbgpbanbffchaa", sum := "cf9359e197277694ecf02ce9a688ca06e42e9b3cf6f2310036de710cef06cb58", func := "loop.example/g01109/laws.FnExactRobberMove", spec := "fnExactRobberMove", unfollowed := true, recurses := true, apart := false, narrowed := true }
def FnExactRobberMoveUptoSaid : Prop := fnExactRobberMoveUptoRow.holds Try.pinned (OpenSpec.upto fnExactRobberMoveSpec)

/-- 'laws.FnExactCopMove', WHERE WHAT IT READS IS OF BULK AT MOST 1048576: true; the input reads as it did. -/
def fnExactCopMoveUptoRow : OpenClaim := { program := "ytmbgpbanbffchaa", sum := "cf9359e197277694ecf02ce9a688ca06e42e9b3cf6f2310036de710cef06cb58", func := "loop.example/g01109/laws.FnExactCopMove", spec := "fnExactCopMove", unfollowed := true, recurses := true, apart := false, narrowed := true }
def FnExactCopMoveUptoSaid : Prop := fnExactCopMoveUptoRow.holds Try.pinned (OpenSpec.upto fnExactCopMoveSpec)

/-- 'laws.FnExactCaptureTime', WHERE WHAT IT READS IS OF BULK AT MOST 1048576: true; the input reads as it did. -/
def fnExactCaptureTimeUptoRow : OpenClaim := { program := "ytmbgpbanbffchaa", sum := "cf9359e197277694ecf02ce9a688ca06e42e9b3cf6f2310036de710cef06cb58", func := "loop.example/g01109/laws.FnExactCaptureTime", spec := "fnExactCaptureTime", unfollowed := true, recurses := true, apart := false, narrowed := true }
def FnExactCaptureTimeUptoSaid : Prop := fnExactCaptureTimeUptoRow.holds Try.pinned (OpenSpec.upto fnExactCaptureTimeSpec)

/-- 'laws.FnExactOneCopWins', WHERE WHAT IT READS IS OF BULK AT MOST 1048576: true; the input reads as it did. -/
def fnExactOneCopWinsUptoRow : OpenClaim := { program := "ytmbgpbanbffchaa", sum := "cf9359e197277694ecf02ce9a688ca06e42e9b3cf6f2310036de710cef06cb58", func := "loop.example/g01109/laws.FnExactOneCopWins", spec := "fnExactOneCopWins", unfollowed := true, recurses := true, apart := false, narrowed := true }
def FnExactOneCopWinsUptoSaid : Prop := fnExactOneCopWinsUptoRow.holds Try.pinned (OpenSpec.upto fnExactOneCopWinsSpec)

/-- 'laws.FnExactCopTimes', WHERE WHAT IT READS IS OF BULK AT MOST 1048576: true; the input reads as it did. -/
def fnExactCopTimesUptoRow : OpenClaim := { program := "ytmbgpbanbffchaa", sum := "cf9359e197277694ecf02ce9a688ca06e42e9b3cf6f2310036de710cef06cb58", func := "loop.example/g01109/laws.FnExactCopTimes", spec := "fnExactCopTimes", unfollowed := true, recurses := true, apart := false, narrowed := true }
def FnExactCopTimesUptoSaid : Prop := fnExactCopTimesUptoRow.holds Try.pinned (OpenSpec.upto fnExactCopTimesSpec)

/-- 'laws.FnExactPlayOut', WHERE WHAT IT READS IS OF BULK AT MOST 1048576: true; the input reads as it did. -/
def fnExactPlayOutUptoRow : OpenClaim := { program := "ytmbgpbanbffchaa", sum := "cf9359e197277694ecf02ce9a688ca06e42e9b3cf6f2310036de710cef06cb58", func := "loop.example/g01109/laws.FnExactPlayOut", spec := "fnExactPlayOut", unfollowed := true, recurses := true, apart := false, narrowed := true }
def FnExactPlayOutUptoSaid : Prop := fnExactPlayOutUptoRow.holds Try.pinned (OpenSpec.upto fnExactPlayOutSpec)

/-- 'laws.FnFamilies', WHERE WHAT IT READS IS OF BULK AT MOST 1048576: true; the input reads as it did. -/
def fnFamiliesUptoRow : OpenClaim := { program := "ytmbgpbanbffchaa", sum := "cf9359e197277694ecf02ce9a688ca06e42e9b3cf6f2310036de710cef06cb58", func := "loop.example/g01109/laws.FnFamilies", spec := "fnFamilies", unfollowed := true, recurses := true, apart := false, narrowed := true }
def FnFamiliesUptoSaid : Prop := fnFamiliesUptoRow.holds Try.pinned (OpenSpec.upto fnFamiliesSpec)

/-- 'laws.FnProducts', WHERE WHAT IT READS IS OF BULK AT MOST 1048576: true; the input reads as it did. -/
def fnProductsUptoRow : OpenClaim := { program := "ytmbgpbanbffchaa", sum := "cf9359e197277694ecf02ce9a688ca06e42e9b3cf6f2310036de710cef06cb58", func := "loop.example/g01109/laws.FnProducts", spec := "fnProducts", unfollowed := true, recurses := true, apart := false, narrowed := true }
def FnProductsUptoSaid : Prop := fnProductsUptoRow.holds Try.pinned (OpenSpec.upto fnProductsSpec)

end Rows
end Go.Proofs.Ytmbgpbanbffchaa
