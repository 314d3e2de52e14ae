/-
  No cell of these rows narrows 'for every input' (looked for: loops, veiled, ifaces, maps, wideKeys, modest, calm, conditions, laid).
  DERIVED. THE GIVEN ROWS OF THIS SEAT. 12 by the template 'for every input the law returns true; each argument reads behind the call as it read before'; 0 by the template 'total and deterministic' (their statements: YtooeemiljeeoaaaTotals.lean).
  GIVEN WITH THE SEED: the statements are not yours to turn. If you find one false, say at which input.
  Laid BY PROGRAM, IN A SANDBOX (cutbox-rows.mjs): the forced cells as the released guide's own fill.sh prints them over the translation f9f360cabfd7e081… (all of the seat's roots in one cut). By AI agents, Wed Nov 11 2026. No macro, syntax, notation, axiom, sorry.
-/
import Derived.Test.YtooeemiljeeoaaaChecked
import GoSem.Claim
import GoSem.ClaimJoined
import GoSem.ClaimMapViews
import Derived.JoinedTies
import Derived.KernelRfl
namespace Go.Proofs.Ytooeemiljeeoaaa
/- THE CELL 'sum', in the pinned program and in every row, IS THE sha256 OF THE DUMP (.gsa) THAT YtooeemiljeeoaaaProg.lean LOADS. Nothing in Lean hashes anything: it is a label: what it is worth is what the hold of that sum in a sandbox is worth. -/
noncomputable def Try.pinned : Pinned := { name := "ytooeemiljeeoaaa", sum := "f9f360cabfd7e0810cd14c0c1c022cd53dc93c8e084075dbc8d62f77edddd937", checked := Try.checked }
namespace Rows
def none {H : Type} : Left H := { results := [], args := [] }

/-- 'laws.FnExactConstants': WHATEVER THE INPUT: true; the input reads as it did. -/
def fnExactConstantsSpec : ChangeSpec := { name := "fnExactConstants", fn := fun _ => fun
  | [] => { results := [.lit (.bool true)], args := [] }
  | _ => none }
def fnExactConstantsRow : OpenClaim := { program := "ytooeemiljeeoaaa", sum := "f9f360cabfd7e0810cd14c0c1c022cd53dc93c8e084075dbc8d62f77edddd937", func := "loop.example/g01109/laws.FnExactConstants", spec := "fnExactConstants", apart := false }
def FnExactConstantsSaid : Prop := fnExactConstantsRow.holds Try.pinned (OpenSpec.ofChange fnExactConstantsSpec)

/-- ITS FALSE NEIGHBOUR: 'it returns false'. Refute it at one input. -/
def fnExactConstantsWrong : ChangeSpec := { name := "fnExactConstants", fn := fun _ => fun
  | [] => { results := [.lit (.bool false)], args := [] }
  | _ => none }
def FnExactConstantsWrongFalsely : Prop := fnExactConstantsRow.holds Try.pinned (OpenSpec.ofChange fnExactConstantsWrong)

/-- 'laws.FnExactLessString': WHATEVER THE INPUT: true; the input reads as it did. -/
def fnExactLessStringSpec : ChangeSpec := { name := "fnExactLessString", fn := fun _ => fun
  | [d1, d2] => { results := [.lit (.bool true)], args := [d1, d2] }
  | _ => none }
def fnExactLessStringRow : OpenClaim := { program := "ytooeemiljeeoaaa", sum := "f9f360cabfd7e0810cd14c0c1c022cd53dc93c8e084075dbc8d62f77edddd937", func := "loop.example/g01109/laws.FnExactLessString", spec := "fnExactLessString", apart := false }
def FnExactLessStringSaid : Prop := fnExactLessStringRow.holds Try.pinned (OpenSpec.ofChange fnExactLessStringSpec)

/-- ITS FALSE NEIGHBOUR: 'it returns false'. Refute it at one input. -/
def fnExactLessStringWrong : ChangeSpec := { name := "fnExactLessString", fn := fun _ => fun
  | [d1, d2] => { results := [.lit (.bool false)], args := [d1, d2] }
  | _ => none }
def FnExactLessStringWrongFalsely : Prop := fnExactLessStringRow.holds Try.pinned (OpenSpec.ofChange fnExactLessStringWrong)

/-- 'laws.FnExactChecksum': WHATEVER THE INPUT: true; the input reads as it did. -/
def fnExactChecksumSpec : ChangeSpec := { name := "fnExactChecksum", fn := fun _ => fun
  | [d] => { results := [.lit (.bool true)], args := [d] }
  | _ => none }
def fnExactChecksumRow : OpenClaim := { program := "ytooeemiljeeoaaa", sum := "f9f360cabfd7e0810cd14c0c1c022cd53dc93c8e084075dbc8d62f77edddd937", func := "loop.example/g01109/laws.FnExactChecksum", spec := "fnExactChecksum", apart := false }
def FnExactChecksumSaid : Prop := fnExactChecksumRow.holds Try.pinned (OpenSpec.ofChange fnExactChecksumSpec)

/-- ITS FALSE NEIGHBOUR: 'it returns false'. Refute it at one input. -/
def fnExactChecksumWrong : ChangeSpec := { name := "fnExactChecksum", fn := fun _ => fun
  | [d] => { results := [.lit (.bool false)], args := [d] }
  | _ => none }
def FnExactChecksumWrongFalsely : Prop := fnExactChecksumRow.holds Try.pinned (OpenSpec.ofChange fnExactChecksumWrong)

/-- 'laws.FnExactPathGraph': WHATEVER THE INPUT: true; the input reads as it did. -/
def fnExactPathGraphSpec : ChangeSpec := { name := "fnExactPathGraph", fn := fun _ => fun
  | [d] => { results := [.lit (.bool true)], args := [d] }
  | _ => none }
def fnExactPathGraphRow : OpenClaim := { program := "ytooeemiljeeoaaa", sum := "f9f360cabfd7e0810cd14c0c1c022cd53dc93c8e084075dbc8d62f77edddd937", func := "loop.example/g01109/laws.FnExactPathGraph", spec := "fnExactPathGraph", unfollowed := true, recurses := true, apart := false }
def FnExactPathGraphSaid : Prop := fnExactPathGraphRow.holds Try.pinned (OpenSpec.ofChange fnExactPathGraphSpec)

/-- ITS FALSE NEIGHBOUR: 'it returns false'. Refute it at one input. -/
def fnExactPathGraphWrong : ChangeSpec := { name := "fnExactPathGraph", fn := fun _ => fun
  | [d] => { results := [.lit (.bool false)], args := [d] }
  | _ => none }
def FnExactPathGraphWrongFalsely : Prop := fnExactPathGraphRow.holds Try.pinned (OpenSpec.ofChange fnExactPathGraphWrong)

/-- 'laws.FnExactCompleteGraph': WHATEVER THE INPUT: true; the input reads as it did. -/
def fnExactCompleteGraphSpec : ChangeSpec := { name := "fnExactCompleteGraph", fn := fun _ => fun
  | [d] => { results := [.lit (.bool true)], args := [d] }
  | _ => none }
def fnExactCompleteGraphRow : OpenClaim := { program := "ytooeemiljeeoaaa", sum := "f9f360cabfd7e0810cd14c0c1c022cd53dc93c8e084075dbc8d62f77edddd937", func := "loop.example/g01109/laws.FnExactCompleteGraph", spec := "fnExactCompleteGraph", unfollowed := true, recurses := true, apart := false }
def FnExactCompleteGraphSaid : Prop := fnExactCompleteGraphRow.holds Try.pinned (OpenSpec.ofChange fnExactCompleteGraphSpec)

/-- ITS FALSE NEIGHBOUR: 'it returns false'. Refute it at one input. -/
def fnExactCompleteGraphWrong : ChangeSpec := { name := "fnExactCompleteGraph", fn := fun _ => fun
  | [d] => { results := [.lit (.bool false)], args := [d] }
  | _ => none }
def FnExactCompleteGraphWrongFalsely : Prop := fnExactCompleteGraphRow.holds Try.pinned (OpenSpec.ofChange fnExactCompleteGraphWrong)

/-- 'laws.FnExactCycleGraph': WHATEVER THE INPUT: true; the input reads as it did. -/
def fnExactCycleGraphSpec : ChangeSpec := { name := "fnExactCycleGraph", fn := fun _ => fun
  | [d] => { results := [.lit (.bool true)], args := [d] }
  | _ => none }
def fnExactCycleGraphRow : OpenClaim := { program := "ytooeemiljeeoaaa", sum := "f9f360cabfd7e0810cd14c0c1c022cd53dc93c8e084075dbc8d62f77edddd937", func := "loop.example/g01109/laws.FnExactCycleGraph", spec := "fnExactCycleGraph", unfollowed := true, recurses := true, apart := false }
def FnExactCycleGraphSaid : Prop := fnExactCycleGraphRow.holds Try.pinned (OpenSpec.ofChange fnExactCycleGraphSpec)

/-- ITS FALSE NEIGHBOUR: 'it returns false'. Refute it at one input. -/
def fnExactCycleGraphWrong : ChangeSpec := { name := "fnExactCycleGraph", fn := fun _ => fun
  | [d] => { results := [.lit (.bool false)], args := [d] }
  | _ => none }
def FnExactCycleGraphWrongFalsely : Prop := fnExactCycleGraphRow.holds Try.pinned (OpenSpec.ofChange fnExactCycleGraphWrong)

/-- 'laws.FnExactIsGraph': WHATEVER THE INPUT: true; the input reads as it did. -/
def fnExactIsGraphSpec : ChangeSpec := { name := "fnExactIsGraph", fn := fun _ => fun
  | [d] => { results := [.lit (.bool true)], args := [d] }
  | _ => none }
def fnExactIsGraphRow : OpenClaim := { program := "ytooeemiljeeoaaa", sum := "f9f360cabfd7e0810cd14c0c1c022cd53dc93c8e084075dbc8d62f77edddd937", func := "loop.example/g01109/laws.FnExactIsGraph", spec := "fnExactIsGraph", apart := false }
def FnExactIsGraphSaid : Prop := fnExactIsGraphRow.holds Try.pinned (OpenSpec.ofChange fnExactIsGraphSpec)

/-- ITS FALSE NEIGHBOUR: 'it returns false'. Refute it at one input. -/
def fnExactIsGraphWrong : ChangeSpec := { name := "fnExactIsGraph", fn := fun _ => fun
  | [d] => { results := [.lit (.bool false)], args := [d] }
  | _ => none }
def FnExactIsGraphWrongFalsely : Prop := fnExactIsGraphRow.holds Try.pinned (OpenSpec.ofChange fnExactIsGraphWrong)

/-- 'laws.FnExactPutBeside': WHATEVER THE INPUT: true; the input reads as it did. -/
def fnExactPutBesideSpec : ChangeSpec := { name := "fnExactPutBeside", fn := fun _ => fun
  | [d1, d2] => { results := [.lit (.bool true)], args := [d1, d2] }
  | _ => none }
def fnExactPutBesideRow : OpenClaim := { program := "ytooeemiljeeoaaa", sum := "f9f360cabfd7e0810cd14c0c1c022cd53dc93c8e084075dbc8d62f77edddd937", func := "loop.example/g01109/laws.FnExactPutBeside", spec := "fnExactPutBeside", apart := false }
def FnExactPutBesideSaid : Prop := fnExactPutBesideRow.holds Try.pinned (OpenSpec.ofChange fnExactPutBesideSpec)

/-- ITS FALSE NEIGHBOUR: 'it returns false'. Refute it at one input. -/
def fnExactPutBesideWrong : ChangeSpec := { name := "fnExactPutBeside", fn := fun _ => fun
  | [d1, d2] => { results := [.lit (.bool false)], args := [d1, d2] }
  | _ => none }
def FnExactPutBesideWrongFalsely : Prop := fnExactPutBesideRow.holds Try.pinned (OpenSpec.ofChange fnExactPutBesideWrong)

/-- 'laws.FnExactComplementOf': WHATEVER THE INPUT: true; the input reads as it did. -/
def fnExactComplementOfSpec : ChangeSpec := { name := "fnExactComplementOf", fn := fun _ => fun
  | [d] => { results := [.lit (.bool true)], args := [d] }
  | _ => none }
def fnExactComplementOfRow : OpenClaim := { program := "ytooeemiljeeoaaa", sum := "f9f360cabfd7e0810cd14c0c1c022cd53dc93c8e084075dbc8d62f77edddd937", func := "loop.example/g01109/laws.FnExactComplementOf", spec := "fnExactComplementOf", unfollowed := true, recurses := true, apart := false }
def FnExactComplementOfSaid : Prop := fnExactComplementOfRow.holds Try.pinned (OpenSpec.ofChange fnExactComplementOfSpec)

/-- ITS FALSE NEIGHBOUR: 'it returns false'. Refute it at one input. -/
def fnExactComplementOfWrong : ChangeSpec := { name := "fnExactComplementOf", fn := fun _ => fun
  | [d] => { results := [.lit (.bool false)], args := [d] }
  | _ => none }
def FnExactComplementOfWrongFalsely : Prop := fnExactComplementOfRow.holds Try.pinned (OpenSpec.ofChange fnExactComplementOfWrong)

/-- 'laws.FnExactCartesianProduct': WHATEVER THE INPUT: true; the input reads as it did. -/
def fnExactCartesianProductSpec : ChangeSpec := { name := "fnExactCartesianProduct", fn := fun _ => fun
  | [d1, d2] => { results := [.lit (.bool true)], args := [d1, d2] }
  | _ => none }
def fnExactCartesianProductRow : OpenClaim := { program := "ytooeemiljeeoaaa", sum := "f9f360cabfd7e0810cd14c0c1c022cd53dc93c8e084075dbc8d62f77edddd937", func := "loop.example/g01109/laws.FnExactCartesianProduct", spec := "fnExactCartesianProduct", unfollowed := true, recurses := true, apart := false }
def FnExactCartesianProductSaid : Prop := fnExactCartesianProductRow.holds Try.pinned (OpenSpec.ofChange fnExactCartesianProductSpec)

/-- ITS FALSE NEIGHBOUR: 'it returns false'. Refute it at one input. -/
def fnExactCartesianProductWrong : ChangeSpec := { name := "fnExactCartesianProduct", fn := fun _ => fun
  | [d1, d2] => { results := [.lit (.bool false)], args := [d1, d2] }
  | _ => none }
def FnExactCartesianProductWrongFalsely : Prop := fnExactCartesianProductRow.holds Try.pinned (OpenSpec.ofChange fnExactCartesianProductWrong)

/-- 'laws.FnExactStrongProduct': WHATEVER THE INPUT: true; the input reads as it did. -/
def fnExactStrongProductSpec : ChangeSpec := { name := "fnExactStrongProduct", fn := fun _ => fun
  | [d1, d2] => { results := [.lit (.bool true)], args := [d1, d2] }
  | _ => none }
def fnExactStrongProductRow : OpenClaim := { program := "ytooeemiljeeoaaa", sum := "f9f360cabfd7e0810cd14c0c1c022cd53dc93c8e084075dbc8d62f77edddd937", func := "loop.example/g01109/laws.FnExactStrongProduct", spec := "fnExactStrongProduct", unfollowed := true, recurses := true, apart := false }
def FnExactStrongProductSaid : Prop := fnExactStrongProductRow.holds Try.pinned (OpenSpec.ofChange fnExactStrongProductSpec)

/-- ITS FALSE NEIGHBOUR: 'it returns false'. Refute it at one input. -/
def fnExactStrongProductWrong : ChangeSpec := { name := "fnExactStrongProduct", fn := fun _ => fun
  | [d1, d2] => { results := [.lit (.bool false)], args := [d1, d2] }
  | _ => none }
def FnExactStrongProductWrongFalsely : Prop := fnExactStrongProductRow.holds Try.pinned (OpenSpec.ofChange fnExactStrongProductWrong)

/-- 'laws.FnExactNeighborsOf': WHATEVER THE INPUT: true; the input reads as it did. -/
def fnExactNeighborsOfSpec : ChangeSpec := { name := "fnExactNeighborsOf", fn := fun _ => fun
  | [d1, d2] => { results := [.lit (.bool true)], args := [d1, d2] }
  | _ => none }
def fnExactNeighborsOfRow : OpenClaim := { program := "ytooeemiljeeoaaa", sum := "f9f360cabfd7e0810cd14c0c1c022cd53dc93c8e084075dbc8d62f77edddd937", func := "loop.example/g01109/laws.FnExactNeighborsOf", spec := "fnExactNeighborsOf", apart := false }
def FnExactNeighborsOfSaid : Prop := fnExactNeighborsOfRow.holds Try.pinned (OpenSpec.ofChange fnExactNeighborsOfSpec)

/-- ITS FALSE NEIGHBOUR: 'it returns false'. Refute it at one input. -/
def fnExactNeighborsOfWrong : ChangeSpec := { name := "fnExactNeighborsOf", fn := fun _ => fun
  | [d1, d2] => { results := [.lit (.bool false)], args := [d1, d2] }
  | _ => none }
def FnExactNeighborsOfWrongFalsely : Prop := fnExactNeighborsOfRow.holds Try.pinned (OpenSpec.ofChange fnExactNeighborsOfWrong)

/- THE SECOND FORM. 'bulk': how many values and letters a reading holds, each counted each time it is reached (what is shared counts as often as it is met; a slice's spare places count too). A statement '..UptoSaid' is the law's where the arguments, and the package variables that the reading takes, are together of bulk at most 1048576: NARROWER than '..Said'. Prove '..Said' where nothing that the law and all that it calls make is longer than what came in: it says more and counts as full. Else prove '..UptoSaid'. A law counts once. -/
mutual
def uptoBulk {H : Type} : DataW H → Nat
  | .lit (.string bytes) => bytes.length + 1
  | .lit _ => 1
  | .nil => 1
  | .ptr d => uptoBulk d + 1
  | .slice elems spare => uptoBulkAll elems + uptoBulkAll spare + 1
  | .agg parts => uptoBulkAll parts + 1
  | .iface _ d => uptoBulk d + 1
  | .map entries => uptoBulkEntries entries + 1
  | .held _ => 1
def uptoBulkAll {H : Type} : List (DataW H) → Nat
  | [] => 0
  | d :: r => uptoBulk d + uptoBulkAll r
def uptoBulkEntries {H : Type} : List (Lit × DataW H) → Nat
  | [] => 0
  | x :: r => uptoBulkEntry x + uptoBulkEntries r
def uptoBulkEntry {H : Type} : Lit × DataW H → Nat
  | (.string bytes, d) => bytes.length + uptoBulk d + 1
  | (_, d) => uptoBulk d + 1
 end
def uptoSmall : (H : Type) → List (DataW H) → Bool := fun _ ds => decide (uptoBulkAll ds ≤ 1048576)
def OpenSpec.upto (s : _root_.Go.ChangeSpec) : _root_.Go.OpenSpec := { _root_.Go.OpenSpec.ofChange s with cond := some uptoSmall }

/-- 'laws.FnExactConstants', WHERE WHAT IT READS IS OF BULK AT MOST 1048576: true; the input reads as it did. -/
def fnExactConstantsUptoRow : OpenClaim := { program := "ytooeemiljeeoaaa", sum := "f9f360cabfd7e0810cd14c0c1c022cd53dc93c8e084075dbc8d62f77edddd937", func := "loop.example/g01109/laws.FnExactConstants", spec := "fnExactConstants", apart := false, narrowed := true }
def FnExactConstantsUptoSaid : Prop := fnExactConstantsUptoRow.holds Try.pinned (OpenSpec.upto fnExactConstantsSpec)

/-- 'laws.FnExactLessString', WHERE WHAT IT READS IS OF BULK AT MOST 1048576: true; the input reads as it did. -/
def fnExactLessStringUptoRow : OpenClaim := { program := "ytooeemiljeeoaaa", sum := "f9f360cabfd7e0810cd14c0c1c022cd53dc93c8e084075dbc8d62f77edddd937", func := "loop.example/g01109/laws.FnExactLessString", spec := "fnExactLessString", apart := false, narrowed := true }
def FnExactLessStringUptoSaid : Prop := fnExactLessStringUptoRow.holds Try.pinned (OpenSpec.upto fnExactLessStringSpec)

/-- 'laws.FnExactChecksum', WHERE WHAT IT READS IS OF BULK AT MOST 1048576: true; the input reads as it did. -/
def fnExactChecksumUptoRow : OpenClaim := { program := "ytooeemiljeeoaaa", sum := "f9f360cabfd7e0810cd14c0c1c022cd53dc93c8e084075dbc8d62f77edddd937", func := "loop.example/g01109/laws.FnExactChecksum", spec := "fnExactChecksum", apart := false, narrowed := true }
def FnExactChecksumUptoSaid : Prop := fnExactChecksumUptoRow.holds Try.pinned (OpenSpec.upto fnExactChecksumSpec)

/-- 'laws.FnExactPathGraph', WHERE WHAT IT READS IS OF BULK AT MOST 1048576: true; the input reads as it did. -/
def fnExactPathGraphUptoRow : OpenClaim := { program := "ytooeemiljeeoaaa", sum := "f9f360cabfd7e0810cd14c0c1c022cd53dc93c8e084075dbc8d62f77edddd937", func := "loop.example/g01109/laws.FnExactPathGraph", spec := "fnExactPathGraph", unfollowed := true, recurses := true, apart := false, narrowed := true }
def FnExactPathGraphUptoSaid : Prop := fnExactPathGraphUptoRow.holds Try.pinned (OpenSpec.upto fnExactPathGraphSpec)

/-- 'laws.FnExactCompleteGraph', WHERE WHAT IT READS IS OF BULK AT MOST 1048576: true; the input reads as it did. -/
def fnExactCompleteGraphUptoRow : OpenClaim := { program := "ytooeemiljeeoaaa", sum := "f9f360cabfd7e0810cd14c0c1c022cd53dc93c8e084075dbc8d62f77edddd937", func := "loop.example/g01109/laws.FnExactCompleteGraph", spec := "fnExactCompleteGraph", unfollowed := true, recurses := true, apart := false, narrowed := true }
def FnExactCompleteGraphUptoSaid : Prop := fnExactCompleteGraphUptoRow.holds Try.pinned (OpenSpec.upto fnExactCompleteGraphSpec)

/-- 'laws.FnExactCycleGraph', WHERE WHAT IT READS IS OF BULK AT MOST 1048576: true; the input reads as it did. -/
def fnExactCycleGraphUptoRow : OpenClaim := { program := "ytooeemiljeeoaaa", sum := "f9f360cabfd7e0810cd14c0c1c022cd53dc93c8e084075dbc8d62f77edddd937", func := "loop.example/g01109/laws.FnExactCycleGraph", spec := "fnExactCycleGraph", unfollowed := true, recurses := true, apart := false, narrowed := true }
def FnExactCycleGraphUptoSaid : Prop := fnExactCycleGraphUptoRow.holds Try.pinned (OpenSpec.upto fnExactCycleGraphSpec)

/-- 'laws.FnExactIsGraph', WHERE WHAT IT READS IS OF BULK AT MOST 1048576: true; the input reads as it did. -/
def fnExactIsGraphUptoRow : OpenClaim := { program := "ytooeemiljeeoaaa", sum := "f9f360cabfd7e0810cd14c0c1c022cd53dc93c8e084075dbc8d62f77edddd937", func := "loop.example/g01109/laws.FnExactIsGraph", spec := "fnExactIsGraph", apart := false, narrowed := true }
def FnExactIsGraphUptoSaid : Prop := fnExactIsGraphUptoRow.holds Try.pinned (OpenSpec.upto fnExactIsGraphSpec)

/-- 'laws.FnExactPutBeside', WHERE WHAT IT READS IS OF BULK AT MOST 1048576: true; the input reads as it did. -/
def fnExactPutBesideUptoRow : OpenClaim := { program := "ytooeemiljeeoaaa", sum := "f9f360cabfd7e0810cd14c0c1c022cd53dc93c8e084075dbc8d62f77edddd937", func := "loop.example/g01109/laws.FnExactPutBeside", spec := "fnExactPutBeside", apart := false, narrowed := true }
def FnExactPutBesideUptoSaid : Prop := fnExactPutBesideUptoRow.holds Try.pinned (OpenSpec.upto fnExactPutBesideSpec)

/-- 'laws.FnExactComplementOf', WHERE WHAT IT READS IS OF BULK AT MOST 1048576: true; the input reads as it did. -/
def fnExactComplementOfUptoRow : OpenClaim := { program := "ytooeemiljeeoaaa", sum := "f9f360cabfd7e0810cd14c0c1c022cd53dc93c8e084075dbc8d62f77edddd937", func := "loop.example/g01109/laws.FnExactComplementOf", spec := "fnExactComplementOf", unfollowed := true, recurses := true, apart := false, narrowed := true }
def FnExactComplementOfUptoSaid : Prop := fnExactComplementOfUptoRow.holds Try.pinned (OpenSpec.upto fnExactComplementOfSpec)

/-- 'laws.FnExactCartesianProduct', WHERE WHAT IT READS IS OF BULK AT MOST 1048576: true; the input reads as it did. -/
def fnExactCartesianProductUptoRow : OpenClaim := { program := "ytooeemiljeeoaaa", sum := "f9f360cabfd7e0810cd14c0c1c022cd53dc93c8e084075dbc8d62f77edddd937", func := "loop.example/g01109/laws.FnExactCartesianProduct", spec := "fnExactCartesianProduct", unfollowed := true, recurses := true, apart := false, narrowed := true }
def FnExactCartesianProductUptoSaid : Prop := fnExactCartesianProductUptoRow.holds Try.pinned (OpenSpec.upto fnExactCartesianProductSpec)

/-- 'laws.FnExactStrongProduct', WHERE WHAT IT READS IS OF BULK AT MOST 1048576: true; the input reads as it did. -/
def fnExactStrongProductUptoRow : OpenClaim := { program := "ytooeemiljeeoaaa", sum := "f9f360cabfd7e0810cd14c0c1c022cd53dc93c8e084075dbc8d62f77edddd937", func := "loop.example/g01109/laws.FnExactStrongProduct", spec := "fnExactStrongProduct", unfollowed := true, recurses := true, apart := false, narrowed := true }
def FnExactStrongProductUptoSaid : Prop := fnExactStrongProductUptoRow.holds Try.pinned (OpenSpec.upto fnExactStrongProductSpec)

/-- 'laws.FnExactNeighborsOf', WHERE WHAT IT READS IS OF BULK AT MOST 1048576: true; the input reads as it did. -/
def fnExactNeighborsOfUptoRow : OpenClaim := { program := "ytooeemiljeeoaaa", sum := "f9f360cabfd7e0810cd14c0c1c022cd53dc93c8e084075dbc8d62f77edddd937", func := "loop.example/g01109/laws.FnExactNeighborsOf", spec := "fnExactNeighborsOf", apart := false, narrowed := true }
def FnExactNeighborsOfUptoSaid : Prop := fnExactNeighborsOfUptoRow.holds Try.pinned (OpenSpec.upto fnExactNeighborsOfSpec)

end Rows
end Go.Proofs.Ytooeemiljeeoaaa
