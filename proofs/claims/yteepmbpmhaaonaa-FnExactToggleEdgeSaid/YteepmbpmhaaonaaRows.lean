/-
  No cell of these rows narrows 'for every input' (looked for: loops, veiled, ifaces, maps, wideKeys, modest, calm, conditions, laid).
  DERIVED. THE GIVEN ROWS OF THIS SEAT. 12 by the template 'for every input the law returns true; each argument reads behind the call as it read before'; 0 by the template 'total and deterministic' (their statements: YteepmbpmhaaonaaTotals.lean).
  GIVEN WITH THE SEED: the statements are not yours to turn. If you find one false, say at which input.
  Laid BY PROGRAM, IN A SANDBOX (cutbox-rows.mjs): the forced cells as the released guide's own fill.sh prints them over the translation 5c94e08a93af9da2… (all of the seat's roots in one cut). By AI agents, Wed Nov 11 2026. No macro, syntax, notation, axiom, sorry.
-/
import Derived.Test.YteepmbpmhaaonaaChecked
import GoSem.Claim
import GoSem.ClaimJoined
import GoSem.ClaimMapViews
import Derived.JoinedTies
import Derived.KernelRfl
namespace Go.Proofs.Yteepmbpmhaaonaa
/- THE CELL 'sum', in the pinned program and in every row, IS THE sha256 OF THE DUMP (.gsa) THAT YteepmbpmhaaonaaProg.lean LOADS. Nothing in Lean hashes anything: it is a label: what it is worth is what the hold of that sum in a sandbox is worth. -/
noncomputable def Try.pinned : Pinned := { name := "yteepmbpmhaaonaa", sum := "5c94e08a93af9da2907761a111f50400317f8f7e53601c784b578906c112e9c4", checked := Try.checked }
namespace Rows
def none {H : Type} : Left H := { results := [], args := [] }

/-- 'laws.FnExactIsRetraction': WHATEVER THE INPUT: true; the input reads as it did. -/
def fnExactIsRetractionSpec : ChangeSpec := { name := "fnExactIsRetraction", fn := fun _ => fun
  | [d1, d2] => { results := [.lit (.bool true)], args := [d1, d2] }
  | _ => none }
def fnExactIsRetractionRow : OpenClaim := { program := "yteepmbpmhaaonaa", sum := "5c94e08a93af9da2907761a111f50400317f8f7e53601c784b578906c112e9c4", func := "loop.example/g01109/laws.FnExactIsRetraction", spec := "fnExactIsRetraction", apart := false }
def FnExactIsRetractionSaid : Prop := fnExactIsRetractionRow.holds Try.pinned (OpenSpec.ofChange fnExactIsRetractionSpec)

/-- ITS FALSE NEIGHBOUR: 'it returns false'. Refute it at one input. -/
def fnExactIsRetractionWrong : ChangeSpec := { name := "fnExactIsRetraction", fn := fun _ => fun
  | [d1, d2] => { results := [.lit (.bool false)], args := [d1, d2] }
  | _ => none }
def FnExactIsRetractionWrongFalsely : Prop := fnExactIsRetractionRow.holds Try.pinned (OpenSpec.ofChange fnExactIsRetractionWrong)

/-- 'laws.FnExactToggleEdge': WHATEVER THE INPUT: true; the input reads as it did. -/
def fnExactToggleEdgeSpec : ChangeSpec := { name := "fnExactToggleEdge", fn := fun _ => fun
  | [d1, d2, d3] => { results := [.lit (.bool true)], args := [d1, d2, d3] }
  | _ => none }
def fnExactToggleEdgeRow : OpenClaim := { program := "yteepmbpmhaaonaa", sum := "5c94e08a93af9da2907761a111f50400317f8f7e53601c784b578906c112e9c4", func := "loop.example/g01109/laws.FnExactToggleEdge", spec := "fnExactToggleEdge", unfollowed := true, recurses := true, apart := false }
def FnExactToggleEdgeSaid : Prop := fnExactToggleEdgeRow.holds Try.pinned (OpenSpec.ofChange fnExactToggleEdgeSpec)

/-- ITS FALSE NEIGHBOUR: 'it returns false'. Refute it at one input. -/
def fnExactToggleEdgeWrong : ChangeSpec := { name := "fnExactToggleEdge", fn := fun _ => fun
  | [d1, d2, d3] => { results := [.lit (.bool false)], args := [d1, d2, d3] }
  | _ => none }
def FnExactToggleEdgeWrongFalsely : Prop := fnExactToggleEdgeRow.holds Try.pinned (OpenSpec.ofChange fnExactToggleEdgeWrong)

/-- 'laws.FnExactIsConnected': WHATEVER THE INPUT: true; the input reads as it did. -/
def fnExactIsConnectedSpec : ChangeSpec := { name := "fnExactIsConnected", fn := fun _ => fun
  | [d] => { results := [.lit (.bool true)], args := [d] }
  | _ => none }
def fnExactIsConnectedRow : OpenClaim := { program := "yteepmbpmhaaonaa", sum := "5c94e08a93af9da2907761a111f50400317f8f7e53601c784b578906c112e9c4", func := "loop.example/g01109/laws.FnExactIsConnected", spec := "fnExactIsConnected", apart := false }
def FnExactIsConnectedSaid : Prop := fnExactIsConnectedRow.holds Try.pinned (OpenSpec.ofChange fnExactIsConnectedSpec)

/-- ITS FALSE NEIGHBOUR: 'it returns false'. Refute it at one input. -/
def fnExactIsConnectedWrong : ChangeSpec := { name := "fnExactIsConnected", fn := fun _ => fun
  | [d] => { results := [.lit (.bool false)], args := [d] }
  | _ => none }
def FnExactIsConnectedWrongFalsely : Prop := fnExactIsConnectedRow.holds Try.pinned (OpenSpec.ofChange fnExactIsConnectedWrong)

/-- 'laws.FnExactDegreesOf': WHATEVER THE INPUT: true; the input reads as it did. -/
def fnExactDegreesOfSpec : ChangeSpec := { name := "fnExactDegreesOf", fn := fun _ => fun
  | [d] => { results := [.lit (.bool true)], args := [d] }
  | _ => none }
def fnExactDegreesOfRow : OpenClaim := { program := "yteepmbpmhaaonaa", sum := "5c94e08a93af9da2907761a111f50400317f8f7e53601c784b578906c112e9c4", func := "loop.example/g01109/laws.FnExactDegreesOf", spec := "fnExactDegreesOf", apart := false }
def FnExactDegreesOfSaid : Prop := fnExactDegreesOfRow.holds Try.pinned (OpenSpec.ofChange fnExactDegreesOfSpec)

/-- ITS FALSE NEIGHBOUR: 'it returns false'. Refute it at one input. -/
def fnExactDegreesOfWrong : ChangeSpec := { name := "fnExactDegreesOf", fn := fun _ => fun
  | [d] => { results := [.lit (.bool false)], args := [d] }
  | _ => none }
def FnExactDegreesOfWrongFalsely : Prop := fnExactDegreesOfRow.holds Try.pinned (OpenSpec.ofChange fnExactDegreesOfWrong)

/-- 'laws.FnExactCopLists': WHATEVER THE INPUT: true; the input reads as it did. -/
def fnExactCopListsSpec : ChangeSpec := { name := "fnExactCopLists", fn := fun _ => fun
  | [d1, d2] => { results := [.lit (.bool true)], args := [d1, d2] }
  | _ => none }
def fnExactCopListsRow : OpenClaim := { program := "yteepmbpmhaaonaa", sum := "5c94e08a93af9da2907761a111f50400317f8f7e53601c784b578906c112e9c4", func := "loop.example/g01109/laws.FnExactCopLists", spec := "fnExactCopLists", apart := false }
def FnExactCopListsSaid : Prop := fnExactCopListsRow.holds Try.pinned (OpenSpec.ofChange fnExactCopListsSpec)

/-- ITS FALSE NEIGHBOUR: 'it returns false'. Refute it at one input. -/
def fnExactCopListsWrong : ChangeSpec := { name := "fnExactCopLists", fn := fun _ => fun
  | [d1, d2] => { results := [.lit (.bool false)], args := [d1, d2] }
  | _ => none }
def FnExactCopListsWrongFalsely : Prop := fnExactCopListsRow.holds Try.pinned (OpenSpec.ofChange fnExactCopListsWrong)

/-- 'laws.FnExactRemoveNode': WHATEVER THE INPUT: true; the input reads as it did. -/
def fnExactRemoveNodeSpec : ChangeSpec := { name := "fnExactRemoveNode", fn := fun _ => fun
  | [d1, d2] => { results := [.lit (.bool true)], args := [d1, d2] }
  | _ => none }
def fnExactRemoveNodeRow : OpenClaim := { program := "yteepmbpmhaaonaa", sum := "5c94e08a93af9da2907761a111f50400317f8f7e53601c784b578906c112e9c4", func := "loop.example/g01109/laws.FnExactRemoveNode", spec := "fnExactRemoveNode", unfollowed := true, recurses := true, apart := false }
def FnExactRemoveNodeSaid : Prop := fnExactRemoveNodeRow.holds Try.pinned (OpenSpec.ofChange fnExactRemoveNodeSpec)

/-- ITS FALSE NEIGHBOUR: 'it returns false'. Refute it at one input. -/
def fnExactRemoveNodeWrong : ChangeSpec := { name := "fnExactRemoveNode", fn := fun _ => fun
  | [d1, d2] => { results := [.lit (.bool false)], args := [d1, d2] }
  | _ => none }
def FnExactRemoveNodeWrongFalsely : Prop := fnExactRemoveNodeRow.holds Try.pinned (OpenSpec.ofChange fnExactRemoveNodeWrong)

/-- 'laws.FnExactBallOf': WHATEVER THE INPUT: true; the input reads as it did. -/
def fnExactBallOfSpec : ChangeSpec := { name := "fnExactBallOf", fn := fun _ => fun
  | [d1, d2, d3] => { results := [.lit (.bool true)], args := [d1, d2, d3] }
  | _ => none }
def fnExactBallOfRow : OpenClaim := { program := "yteepmbpmhaaonaa", sum := "5c94e08a93af9da2907761a111f50400317f8f7e53601c784b578906c112e9c4", func := "loop.example/g01109/laws.FnExactBallOf", spec := "fnExactBallOf", apart := false }
def FnExactBallOfSaid : Prop := fnExactBallOfRow.holds Try.pinned (OpenSpec.ofChange fnExactBallOfSpec)

/-- ITS FALSE NEIGHBOUR: 'it returns false'. Refute it at one input. -/
def fnExactBallOfWrong : ChangeSpec := { name := "fnExactBallOf", fn := fun _ => fun
  | [d1, d2, d3] => { results := [.lit (.bool false)], args := [d1, d2, d3] }
  | _ => none }
def FnExactBallOfWrongFalsely : Prop := fnExactBallOfRow.holds Try.pinned (OpenSpec.ofChange fnExactBallOfWrong)

/-- 'laws.FnExactFindIsomorphism': WHATEVER THE INPUT: true; the input reads as it did. -/
def fnExactFindIsomorphismSpec : ChangeSpec := { name := "fnExactFindIsomorphism", fn := fun _ => fun
  | [d1, d2] => { results := [.lit (.bool true)], args := [d1, d2] }
  | _ => none }
def fnExactFindIsomorphismRow : OpenClaim := { program := "yteepmbpmhaaonaa", sum := "5c94e08a93af9da2907761a111f50400317f8f7e53601c784b578906c112e9c4", func := "loop.example/g01109/laws.FnExactFindIsomorphism", spec := "fnExactFindIsomorphism", recurses := true, apart := false }
def FnExactFindIsomorphismSaid : Prop := fnExactFindIsomorphismRow.holds Try.pinned (OpenSpec.ofChange fnExactFindIsomorphismSpec)

/-- ITS FALSE NEIGHBOUR: 'it returns false'. Refute it at one input. -/
def fnExactFindIsomorphismWrong : ChangeSpec := { name := "fnExactFindIsomorphism", fn := fun _ => fun
  | [d1, d2] => { results := [.lit (.bool false)], args := [d1, d2] }
  | _ => none }
def FnExactFindIsomorphismWrongFalsely : Prop := fnExactFindIsomorphismRow.holds Try.pinned (OpenSpec.ofChange fnExactFindIsomorphismWrong)

/-- 'laws.FnExactInducedGraph': WHATEVER THE INPUT: true; the input reads as it did. -/
def fnExactInducedGraphSpec : ChangeSpec := { name := "fnExactInducedGraph", fn := fun _ => fun
  | [d1, d2] => { results := [.lit (.bool true)], args := [d1, d2] }
  | _ => none }
def fnExactInducedGraphRow : OpenClaim := { program := "yteepmbpmhaaonaa", sum := "5c94e08a93af9da2907761a111f50400317f8f7e53601c784b578906c112e9c4", func := "loop.example/g01109/laws.FnExactInducedGraph", spec := "fnExactInducedGraph", unfollowed := true, recurses := true, apart := false }
def FnExactInducedGraphSaid : Prop := fnExactInducedGraphRow.holds Try.pinned (OpenSpec.ofChange fnExactInducedGraphSpec)

/-- ITS FALSE NEIGHBOUR: 'it returns false'. Refute it at one input. -/
def fnExactInducedGraphWrong : ChangeSpec := { name := "fnExactInducedGraph", fn := fun _ => fun
  | [d1, d2] => { results := [.lit (.bool false)], args := [d1, d2] }
  | _ => none }
def FnExactInducedGraphWrongFalsely : Prop := fnExactInducedGraphRow.holds Try.pinned (OpenSpec.ofChange fnExactInducedGraphWrong)

/-- 'laws.FnExactRadiusOf': WHATEVER THE INPUT: true; the input reads as it did. -/
def fnExactRadiusOfSpec : ChangeSpec := { name := "fnExactRadiusOf", fn := fun _ => fun
  | [d] => { results := [.lit (.bool true)], args := [d] }
  | _ => none }
def fnExactRadiusOfRow : OpenClaim := { program := "yteepmbpmhaaonaa", sum := "5c94e08a93af9da2907761a111f50400317f8f7e53601c784b578906c112e9c4", func := "loop.example/g01109/laws.FnExactRadiusOf", spec := "fnExactRadiusOf", apart := false }
def FnExactRadiusOfSaid : Prop := fnExactRadiusOfRow.holds Try.pinned (OpenSpec.ofChange fnExactRadiusOfSpec)

/-- ITS FALSE NEIGHBOUR: 'it returns false'. Refute it at one input. -/
def fnExactRadiusOfWrong : ChangeSpec := { name := "fnExactRadiusOf", fn := fun _ => fun
  | [d] => { results := [.lit (.bool false)], args := [d] }
  | _ => none }
def FnExactRadiusOfWrongFalsely : Prop := fnExactRadiusOfRow.holds Try.pinned (OpenSpec.ofChange fnExactRadiusOfWrong)

/-- 'laws.FnExactCoversOf': WHATEVER THE INPUT: true; the input reads as it did. -/
def fnExactCoversOfSpec : ChangeSpec := { name := "fnExactCoversOf", fn := fun _ => fun
  | [d1, d2] => { results := [.lit (.bool true)], args := [d1, d2] }
  | _ => none }
def fnExactCoversOfRow : OpenClaim := { program := "yteepmbpmhaaonaa", sum := "5c94e08a93af9da2907761a111f50400317f8f7e53601c784b578906c112e9c4", func := "loop.example/g01109/laws.FnExactCoversOf", spec := "fnExactCoversOf", apart := false }
def FnExactCoversOfSaid : Prop := fnExactCoversOfRow.holds Try.pinned (OpenSpec.ofChange fnExactCoversOfSpec)

/-- ITS FALSE NEIGHBOUR: 'it returns false'. Refute it at one input. -/
def fnExactCoversOfWrong : ChangeSpec := { name := "fnExactCoversOf", fn := fun _ => fun
  | [d1, d2] => { results := [.lit (.bool false)], args := [d1, d2] }
  | _ => none }
def FnExactCoversOfWrongFalsely : Prop := fnExactCoversOfRow.holds Try.pinned (OpenSpec.ofChange fnExactCoversOfWrong)

/-- 'laws.FnExactRenameNodes': WHATEVER THE INPUT: true; the input reads as it did. -/
def fnExactRenameNodesSpec : ChangeSpec := { name := "fnExactRenameNodes", fn := fun _ => fun
  | [d1, d2] => { results := [.lit (.bool true)], args := [d1, d2] }
  | _ => none }
def fnExactRenameNodesRow : OpenClaim := { program := "yteepmbpmhaaonaa", sum := "5c94e08a93af9da2907761a111f50400317f8f7e53601c784b578906c112e9c4", func := "loop.example/g01109/laws.FnExactRenameNodes", spec := "fnExactRenameNodes", unfollowed := true, recurses := true, apart := false }
def FnExactRenameNodesSaid : Prop := fnExactRenameNodesRow.holds Try.pinned (OpenSpec.ofChange fnExactRenameNodesSpec)

/-- ITS FALSE NEIGHBOUR: 'it returns false'. Refute it at one input. -/
def fnExactRenameNodesWrong : ChangeSpec := { name := "fnExactRenameNodes", fn := fun _ => fun
  | [d1, d2] => { results := [.lit (.bool false)], args := [d1, d2] }
  | _ => none }
def FnExactRenameNodesWrongFalsely : Prop := fnExactRenameNodesRow.holds Try.pinned (OpenSpec.ofChange fnExactRenameNodesWrong)

/- THE SECOND FORM. 'bulk': how many values and letters a reading holds, each counted each time it is reached (what is shared counts as often as it is met; a slice's spare places count too). A statement '..UptoSaid' is the law's where the arguments, and the package variables that the reading takes, are together of bulk at most 1048576: NARROWER than '..Said'. Prove '..Said' where nothing that the law and all that it calls make is longer than what came in: it says more and counts as full. Else prove '..UptoSaid'. A law counts once. -/
mutual
def uptoBulk {H : Type} : DataW H → Nat
  | .lit (.string bytes) => bytes.length + 1
  | .lit _ => 1
  | .nil => 1
  | .ptr d => uptoBulk d + 1
  | .slice elems spare => uptoBulkAll elems + uptoBulkAll spare + 1
  | .agg parts => uptoBulkAll parts + 1
  | .iface _ d => uptoBulk d + 1
  | .map entries => uptoBulkEntries entries + 1
  | .held _ => 1
def uptoBulkAll {H : Type} : List (DataW H) → Nat
  | [] => 0
  | d :: r => uptoBulk d + uptoBulkAll r
def uptoBulkEntries {H : Type} : List (Lit × DataW H) → Nat
  | [] => 0
  | x :: r => uptoBulkEntry x + uptoBulkEntries r
def uptoBulkEntry {H : Type} : Lit × DataW H → Nat
  | (.string bytes, d) => bytes.length + uptoBulk d + 1
  | (_, d) => uptoBulk d + 1
 end
def uptoSmall : (H : Type) → List (DataW H) → Bool := fun _ ds => decide (uptoBulkAll ds ≤ 1048576)
def OpenSpec.upto (s : _root_.Go.ChangeSpec) : _root_.Go.OpenSpec := { _root_.Go.OpenSpec.ofChange s with cond := some uptoSmall }

/-- 'laws.FnExactIsRetraction', WHERE WHAT IT READS IS OF BULK AT MOST 1048576: true; the input reads as it did. -/
def fnExactIsRetractionUptoRow : OpenClaim := { program := "yteepmbpmhaaonaa", sum := "5c94e08a93af9da2907761a111f50400317f8f7e53601c784b578906c112e9c4", func := "loop.example/g01109/laws.FnExactIsRetraction", spec := "fnExactIsRetraction", apart := false, narrowed := true }
def FnExactIsRetractionUptoSaid : Prop := fnExactIsRetractionUptoRow.holds Try.pinned (OpenSpec.upto fnExactIsRetractionSpec)

/-- 'laws.FnExactToggleEdge', WHERE WHAT IT READS IS OF BULK AT MOST 1048576: true; the input reads as it did. -/
def fnExactToggleEdgeUptoRow : OpenClaim := { program := "yteepmbpmhaaonaa", sum := "5c94e08a93af9da2907761a111f50400317f8f7e53601c784b578906c112e9c4", func := "loop.example/g01109/laws.FnExactToggleEdge", spec := "fnExactToggleEdge", unfollowed := true, recurses := true, apart := false, narrowed := true }
def FnExactToggleEdgeUptoSaid : Prop := fnExactToggleEdgeUptoRow.holds Try.pinned (OpenSpec.upto fnExactToggleEdgeSpec)

/-- 'laws.FnExactIsConnected', WHERE WHAT IT READS IS OF BULK AT MOST 1048576: true; the input reads as it did. -/
def fnExactIsConnectedUptoRow : OpenClaim := { program := "yteepmbpmhaaonaa", sum := "5c94e08a93af9da2907761a111f50400317f8f7e53601c784b578906c112e9c4", func := "loop.example/g01109/laws.FnExactIsConnected", spec := "fnExactIsConnected", apart := false, narrowed := true }
def FnExactIsConnectedUptoSaid : Prop := fnExactIsConnectedUptoRow.holds Try.pinned (OpenSpec.upto fnExactIsConnectedSpec)

/-- 'laws.FnExactDegreesOf', WHERE WHAT IT READS IS OF BULK AT MOST 1048576: true; the input reads as it did. -/
def fnExactDegreesOfUptoRow : OpenClaim := { program := "yteepmbpmhaaonaa", sum := "5c94e08a93af9da2907761a111f50400317f8f7e53601c784b578906c112e9c4", func := "loop.example/g01109/laws.FnExactDegreesOf", spec := "fnExactDegreesOf", apart := false, narrowed := true }
def FnExactDegreesOfUptoSaid : Prop := fnExactDegreesOfUptoRow.holds Try.pinned (OpenSpec.upto fnExactDegreesOfSpec)

/-- 'laws.FnExactCopLists', WHERE WHAT IT READS IS OF BULK AT MOST 1048576: true; the input reads as it did. -/
def fnExactCopListsUptoRow : OpenClaim := { program := "yteepmbpmhaaonaa", sum := "5c94e08a93af9da2907761a111f50400317f8f7e53601c784b578906c112e9c4", func := "loop.example/g01109/laws.FnExactCopLists", spec := "fnExactCopLists", apart := false, narrowed := true }
def FnExactCopListsUptoSaid : Prop := fnExactCopListsUptoRow.holds Try.pinned (OpenSpec.upto fnExactCopListsSpec)

/-- 'laws.FnExactRemoveNode', WHERE WHAT IT READS IS OF BULK AT MOST 1048576: true; the input reads as it did. -/
def fnExactRemoveNodeUptoRow : OpenClaim := { program := "yteepmbpmhaaonaa", sum := "5c94e08a93af9da2907761a111f50400317f8f7e53601c784b578906c112e9c4", func := "loop.example/g01109/laws.FnExactRemoveNode", spec := "fnExactRemoveNode", unfollowed := true, recurses := true, apart := false, narrowed := true }
def FnExactRemoveNodeUptoSaid : Prop := fnExactRemoveNodeUptoRow.holds Try.pinned (OpenSpec.upto fnExactRemoveNodeSpec)

/-- 'laws.FnExactBallOf', WHERE WHAT IT READS IS OF BULK AT MOST 1048576: true; the input reads as it did. -/
def fnExactBallOfUptoRow : OpenClaim := { program := "yteepmbpmhaaonaa", sum := "5c94e08a93af9da2907761a111f50400317f8f7e53601c784b578906c112e9c4", func := "loop.example/g01109/laws.FnExactBallOf", spec := "fnExactBallOf", apart := false, narrowed := true }
def FnExactBallOfUptoSaid : Prop := fnExactBallOfUptoRow.holds Try.pinned (OpenSpec.upto fnExactBallOfSpec)

/-- 'laws.FnExactFindIsomorphism', WHERE WHAT IT READS IS OF BULK AT MOST 1048576: true; the input reads as it did. -/
def fnExactFindIsomorphismUptoRow : OpenClaim := { program := "yteepmbpmhaaonaa", sum := "5c94e08a93af9da2907761a111f50400317f8f7e53601c784b578906c112e9c4", func := "loop.example/g01109/laws.FnExactFindIsomorphism", spec := "fnExactFindIsomorphism", recurses := true, apart := false, narrowed := true }
def FnExactFindIsomorphismUptoSaid : Prop := fnExactFindIsomorphismUptoRow.holds Try.pinned (OpenSpec.upto fnExactFindIsomorphismSpec)

/-- 'laws.FnExactInducedGraph', WHERE WHAT IT READS IS OF BULK AT MOST 1048576: true; the input reads as it did. -/
def fnExactInducedGraphUptoRow : OpenClaim := { program := "yteepmbpmhaaonaa", sum := "5c94e08a93af9da2907761a111f50400317f8f7e53601c784b578906c112e9c4", func := "loop.example/g01109/laws.FnExactInducedGraph", spec := "fnExactInducedGraph", unfollowed := true, recurses := true, apart := false, narrowed := true }
def FnExactInducedGraphUptoSaid : Prop := fnExactInducedGraphUptoRow.holds Try.pinned (OpenSpec.upto fnExactInducedGraphSpec)

/-- 'laws.FnExactRadiusOf', WHERE WHAT IT READS IS OF BULK AT MOST 1048576: true; the input reads as it did. -/
def fnExactRadiusOfUptoRow : OpenClaim := { program := "yteepmbpmhaaonaa", sum := "5c94e08a93af9da2907761a111f50400317f8f7e53601c784b578906c112e9c4", func := "loop.example/g01109/laws.FnExactRadiusOf", spec := "fnExactRadiusOf", apart := false, narrowed := true }
def FnExactRadiusOfUptoSaid : Prop := fnExactRadiusOfUptoRow.holds Try.pinned (OpenSpec.upto fnExactRadiusOfSpec)

/-- 'laws.FnExactCoversOf', WHERE WHAT IT READS IS OF BULK AT MOST 1048576: true; the input reads as it did. -/
def fnExactCoversOfUptoRow : OpenClaim := { program := "yteepmbpmhaaonaa", sum := "5c94e08a93af9da2907761a111f50400317f8f7e53601c784b578906c112e9c4", func := "loop.example/g01109/laws.FnExactCoversOf", spec := "fnExactCoversOf", apart := false, narrowed := true }
def FnExactCoversOfUptoSaid : Prop := fnExactCoversOfUptoRow.holds Try.pinned (OpenSpec.upto fnExactCoversOfSpec)

/-- 'laws.FnExactRenameNodes', WHERE WHAT IT READS IS OF BULK AT MOST 1048576: true; the input reads as it did. -/
def fnExactRenameNodesUptoRow : OpenClaim := { program := "yteepmbpmhaaonaa", sum := "5c94e08a93af9da2907761a111f50400317f8f7e53601c784b578906c112e9c4", func := "loop.example/g01109/laws.FnExactRenameNodes", spec := "fnExactRenameNodes", unfollowed := true, recurses := true, apart := false, narrowed := true }
def FnExactRenameNodesUptoSaid : Prop := fnExactRenameNodesUptoRow.holds Try.pinned (OpenSpec.upto fnExactRenameNodesSpec)

end Rows
end Go.Proofs.Yteepmbpmhaaonaa
