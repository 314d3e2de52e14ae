/-
  No cell of these rows narrows 'for every input' (looked for: loops, veiled, ifaces, maps, wideKeys, modest, calm, conditions, laid).
  DERIVED. THE GIVEN ROWS OF THIS SEAT. 12 by the template 'for every input the law returns true; each argument reads behind the call as it read before'; 0 by the template 'total and deterministic' (their statements: YtbnhckhbjoldcaaTotals.lean).
  GIVEN WITH THE SEED: the statements are not yours to turn. If you find one false, say at which input.
  Laid BY PROGRAM, IN A SANDBOX (cutbox-rows.mjs): the forced cells as the released guide's own fill.sh prints them over the translation 8e423faab422f430… (all of the seat's roots in one cut). By AI agents, Wed Nov 11 2026. No macro, syntax, notation, axiom, sorry.
-/
import Derived.Test.YtbnhckhbjoldcaaChecked
import GoSem.Claim
import GoSem.ClaimJoined
import GoSem.ClaimMapViews
import Derived.JoinedTies
import Derived.KernelRfl
namespace Go.Proofs.Ytbnhckhbjoldcaa
/- THE CELL 'sum', in the pinned program and in every row, IS THE sha256 OF THE DUMP (.gsa) THAT YtbnhckhbjoldcaaProg.lean LOADS. Nothing in Lean hashes anything: it is a label: what it is worth is what the hold of that sum in a sandbox is worth. -/
noncomputable def Try.pinned : Pinned := { name := "ytbnhckhbjoldcaa", sum := "8e423faab422f430e81fadb92a8ca09d3ef52947a07c9c5020102d27a3d750dd", checked := Try.checked }
namespace Rows
def none {H : Type} : Left H := { results := [], args := [] }

/-- 'laws.FnExactIsCorner': WHATEVER THE INPUT: true; the input reads as it did. -/
def fnExactIsCornerSpec : ChangeSpec := { name := "fnExactIsCorner", fn := fun _ => fun
  | [d1, d2, d3] => { results := [.lit (.bool true)], args := [d1, d2, d3] }
  | _ => none }
def fnExactIsCornerRow : OpenClaim := { program := "ytbnhckhbjoldcaa", sum := "8e423faab422f430e81fadb92a8ca09d3ef52947a07c9c5020102d27a3d750dd", func := "loop.example/g01109/laws.FnExactIsCorner", spec := "fnExactIsCorner", apart := false }
def FnExactIsCornerSaid : Prop := fnExactIsCornerRow.holds Try.pinned (OpenSpec.ofChange fnExactIsCornerSpec)

/-- ITS FALSE NEIGHBOUR: 'it returns false'. Refute it at one input. -/
def fnExactIsCornerWrong : ChangeSpec := { name := "fnExactIsCorner", fn := fun _ => fun
  | [d1, d2, d3] => { results := [.lit (.bool false)], args := [d1, d2, d3] }
  | _ => none }
def FnExactIsCornerWrongFalsely : Prop := fnExactIsCornerRow.holds Try.pinned (OpenSpec.ofChange fnExactIsCornerWrong)

/-- 'laws.FnExactGuardedNodes': WHATEVER THE INPUT: true; the input reads as it did. -/
def fnExactGuardedNodesSpec : ChangeSpec := { name := "fnExactGuardedNodes", fn := fun _ => fun
  | [d1, d2] => { results := [.lit (.bool true)], args := [d1, d2] }
  | _ => none }
def fnExactGuardedNodesRow : OpenClaim := { program := "ytbnhckhbjoldcaa", sum := "8e423faab422f430e81fadb92a8ca09d3ef52947a07c9c5020102d27a3d750dd", func := "loop.example/g01109/laws.FnExactGuardedNodes", spec := "fnExactGuardedNodes", apart := false }
def FnExactGuardedNodesSaid : Prop := fnExactGuardedNodesRow.holds Try.pinned (OpenSpec.ofChange fnExactGuardedNodesSpec)

/-- ITS FALSE NEIGHBOUR: 'it returns false'. Refute it at one input. -/
def fnExactGuardedNodesWrong : ChangeSpec := { name := "fnExactGuardedNodes", fn := fun _ => fun
  | [d1, d2] => { results := [.lit (.bool false)], args := [d1, d2] }
  | _ => none }
def FnExactGuardedNodesWrongFalsely : Prop := fnExactGuardedNodesRow.holds Try.pinned (OpenSpec.ofChange fnExactGuardedNodesWrong)

/-- 'laws.FnExactCountDismantlings': WHATEVER THE INPUT: true; the input reads as it did. -/
def fnExactCountDismantlingsSpec : ChangeSpec := { name := "fnExactCountDismantlings", fn := fun _ => fun
  | [d] => { results := [.lit (.bool true)], args := [d] }
  | _ => none }
def fnExactCountDismantlingsRow : OpenClaim := { program := "ytbnhckhbjoldcaa", sum := "8e423faab422f430e81fadb92a8ca09d3ef52947a07c9c5020102d27a3d750dd", func := "loop.example/g01109/laws.FnExactCountDismantlings", spec := "fnExactCountDismantlings", unfollowed := true, recurses := true, apart := false }
def FnExactCountDismantlingsSaid : Prop := fnExactCountDismantlingsRow.holds Try.pinned (OpenSpec.ofChange fnExactCountDismantlingsSpec)

/-- ITS FALSE NEIGHBOUR: 'it returns false'. Refute it at one input. -/
def fnExactCountDismantlingsWrong : ChangeSpec := { name := "fnExactCountDismantlings", fn := fun _ => fun
  | [d] => { results := [.lit (.bool false)], args := [d] }
  | _ => none }
def FnExactCountDismantlingsWrongFalsely : Prop := fnExactCountDismantlingsRow.holds Try.pinned (OpenSpec.ofChange fnExactCountDismantlingsWrong)

/-- 'laws.FnExactIsDismantling': WHATEVER THE INPUT: true; the input reads as it did. -/
def fnExactIsDismantlingSpec : ChangeSpec := { name := "fnExactIsDismantling", fn := fun _ => fun
  | [d1, d2] => { results := [.lit (.bool true)], args := [d1, d2] }
  | _ => none }
def fnExactIsDismantlingRow : OpenClaim := { program := "ytbnhckhbjoldcaa", sum := "8e423faab422f430e81fadb92a8ca09d3ef52947a07c9c5020102d27a3d750dd", func := "loop.example/g01109/laws.FnExactIsDismantling", spec := "fnExactIsDismantling", apart := false }
def FnExactIsDismantlingSaid : Prop := fnExactIsDismantlingRow.holds Try.pinned (OpenSpec.ofChange fnExactIsDismantlingSpec)

/-- ITS FALSE NEIGHBOUR: 'it returns false'. Refute it at one input. -/
def fnExactIsDismantlingWrong : ChangeSpec := { name := "fnExactIsDismantling", fn := fun _ => fun
  | [d1, d2] => { results := [.lit (.bool false)], args := [d1, d2] }
  | _ => none }
def FnExactIsDismantlingWrongFalsely : Prop := fnExactIsDismantlingRow.holds Try.pinned (OpenSpec.ofChange fnExactIsDismantlingWrong)

/-- 'laws.FnExactPartsOf': WHATEVER THE INPUT: true; the input reads as it did. -/
def fnExactPartsOfSpec : ChangeSpec := { name := "fnExactPartsOf", fn := fun _ => fun
  | [d] => { results := [.lit (.bool true)], args := [d] }
  | _ => none }
def fnExactPartsOfRow : OpenClaim := { program := "ytbnhckhbjoldcaa", sum := "8e423faab422f430e81fadb92a8ca09d3ef52947a07c9c5020102d27a3d750dd", func := "loop.example/g01109/laws.FnExactPartsOf", spec := "fnExactPartsOf", apart := false }
def FnExactPartsOfSaid : Prop := fnExactPartsOfRow.holds Try.pinned (OpenSpec.ofChange fnExactPartsOfSpec)

/-- ITS FALSE NEIGHBOUR: 'it returns false'. Refute it at one input. -/
def fnExactPartsOfWrong : ChangeSpec := { name := "fnExactPartsOf", fn := fun _ => fun
  | [d] => { results := [.lit (.bool false)], args := [d] }
  | _ => none }
def FnExactPartsOfWrongFalsely : Prop := fnExactPartsOfRow.holds Try.pinned (OpenSpec.ofChange fnExactPartsOfWrong)

/-- 'laws.FnExactStrippingOf': WHATEVER THE INPUT: true; the input reads as it did. -/
def fnExactStrippingOfSpec : ChangeSpec := { name := "fnExactStrippingOf", fn := fun _ => fun
  | [d] => { results := [.lit (.bool true)], args := [d] }
  | _ => none }
def fnExactStrippingOfRow : OpenClaim := { program := "ytbnhckhbjoldcaa", sum := "8e423faab422f430e81fadb92a8ca09d3ef52947a07c9c5020102d27a3d750dd", func := "loop.example/g01109/laws.FnExactStrippingOf", spec := "fnExactStrippingOf", unfollowed := true, recurses := true, apart := false }
def FnExactStrippingOfSaid : Prop := fnExactStrippingOfRow.holds Try.pinned (OpenSpec.ofChange fnExactStrippingOfSpec)

/-- ITS FALSE NEIGHBOUR: 'it returns false'. Refute it at one input. -/
def fnExactStrippingOfWrong : ChangeSpec := { name := "fnExactStrippingOf", fn := fun _ => fun
  | [d] => { results := [.lit (.bool false)], args := [d] }
  | _ => none }
def FnExactStrippingOfWrongFalsely : Prop := fnExactStrippingOfRow.holds Try.pinned (OpenSpec.ofChange fnExactStrippingOfWrong)

/-- 'laws.FnExactDistancesOf': WHATEVER THE INPUT: true; the input reads as it did. -/
def fnExactDistancesOfSpec : ChangeSpec := { name := "fnExactDistancesOf", fn := fun _ => fun
  | [d] => { results := [.lit (.bool true)], args := [d] }
  | _ => none }
def fnExactDistancesOfRow : OpenClaim := { program := "ytbnhckhbjoldcaa", sum := "8e423faab422f430e81fadb92a8ca09d3ef52947a07c9c5020102d27a3d750dd", func := "loop.example/g01109/laws.FnExactDistancesOf", spec := "fnExactDistancesOf", apart := false }
def FnExactDistancesOfSaid : Prop := fnExactDistancesOfRow.holds Try.pinned (OpenSpec.ofChange fnExactDistancesOfSpec)

/-- ITS FALSE NEIGHBOUR: 'it returns false'. Refute it at one input. -/
def fnExactDistancesOfWrong : ChangeSpec := { name := "fnExactDistancesOf", fn := fun _ => fun
  | [d] => { results := [.lit (.bool false)], args := [d] }
  | _ => none }
def FnExactDistancesOfWrongFalsely : Prop := fnExactDistancesOfRow.holds Try.pinned (OpenSpec.ofChange fnExactDistancesOfWrong)

/-- 'laws.FnExactCornersOf': WHATEVER THE INPUT: true; the input reads as it did. -/
def fnExactCornersOfSpec : ChangeSpec := { name := "fnExactCornersOf", fn := fun _ => fun
  | [d1, d2] => { results := [.lit (.bool true)], args := [d1, d2] }
  | _ => none }
def fnExactCornersOfRow : OpenClaim := { program := "ytbnhckhbjoldcaa", sum := "8e423faab422f430e81fadb92a8ca09d3ef52947a07c9c5020102d27a3d750dd", func := "loop.example/g01109/laws.FnExactCornersOf", spec := "fnExactCornersOf", unfollowed := true, recurses := true, apart := false }
def FnExactCornersOfSaid : Prop := fnExactCornersOfRow.holds Try.pinned (OpenSpec.ofChange fnExactCornersOfSpec)

/-- ITS FALSE NEIGHBOUR: 'it returns false'. Refute it at one input. -/
def fnExactCornersOfWrong : ChangeSpec := { name := "fnExactCornersOf", fn := fun _ => fun
  | [d1, d2] => { results := [.lit (.bool false)], args := [d1, d2] }
  | _ => none }
def FnExactCornersOfWrongFalsely : Prop := fnExactCornersOfRow.holds Try.pinned (OpenSpec.ofChange fnExactCornersOfWrong)

/-- 'laws.FnExactCoreOf': WHATEVER THE INPUT: true; the input reads as it did. -/
def fnExactCoreOfSpec : ChangeSpec := { name := "fnExactCoreOf", fn := fun _ => fun
  | [d] => { results := [.lit (.bool true)], args := [d] }
  | _ => none }
def fnExactCoreOfRow : OpenClaim := { program := "ytbnhckhbjoldcaa", sum := "8e423faab422f430e81fadb92a8ca09d3ef52947a07c9c5020102d27a3d750dd", func := "loop.example/g01109/laws.FnExactCoreOf", spec := "fnExactCoreOf", unfollowed := true, recurses := true, apart := false }
def FnExactCoreOfSaid : Prop := fnExactCoreOfRow.holds Try.pinned (OpenSpec.ofChange fnExactCoreOfSpec)

/-- ITS FALSE NEIGHBOUR: 'it returns false'. Refute it at one input. -/
def fnExactCoreOfWrong : ChangeSpec := { name := "fnExactCoreOf", fn := fun _ => fun
  | [d] => { results := [.lit (.bool false)], args := [d] }
  | _ => none }
def FnExactCoreOfWrongFalsely : Prop := fnExactCoreOfRow.holds Try.pinned (OpenSpec.ofChange fnExactCoreOfWrong)

/-- 'laws.FnExactFirstWay': WHATEVER THE INPUT: true; the input reads as it did. -/
def fnExactFirstWaySpec : ChangeSpec := { name := "fnExactFirstWay", fn := fun _ => fun
  | [d1, d2, d3] => { results := [.lit (.bool true)], args := [d1, d2, d3] }
  | _ => none }
def fnExactFirstWayRow : OpenClaim := { program := "ytbnhckhbjoldcaa", sum := "8e423faab422f430e81fadb92a8ca09d3ef52947a07c9c5020102d27a3d750dd", func := "loop.example/g01109/laws.FnExactFirstWay", spec := "fnExactFirstWay", apart := false }
def FnExactFirstWaySaid : Prop := fnExactFirstWayRow.holds Try.pinned (OpenSpec.ofChange fnExactFirstWaySpec)

/-- ITS FALSE NEIGHBOUR: 'it returns false'. Refute it at one input. -/
def fnExactFirstWayWrong : ChangeSpec := { name := "fnExactFirstWay", fn := fun _ => fun
  | [d1, d2, d3] => { results := [.lit (.bool false)], args := [d1, d2, d3] }
  | _ => none }
def FnExactFirstWayWrongFalsely : Prop := fnExactFirstWayRow.holds Try.pinned (OpenSpec.ofChange fnExactFirstWayWrong)

/-- 'laws.FnExactDismantlingOf': WHATEVER THE INPUT: true; the input reads as it did. -/
def fnExactDismantlingOfSpec : ChangeSpec := { name := "fnExactDismantlingOf", fn := fun _ => fun
  | [d] => { results := [.lit (.bool true)], args := [d] }
  | _ => none }
def fnExactDismantlingOfRow : OpenClaim := { program := "ytbnhckhbjoldcaa", sum := "8e423faab422f430e81fadb92a8ca09d3ef52947a07c9c5020102d27a3d750dd", func := "loop.example/g01109/laws.FnExactDismantlingOf", spec := "fnExactDismantlingOf", unfollowed := true, recurses := true, apart := false }
def FnExactDismantlingOfSaid : Prop := fnExactDismantlingOfRow.holds Try.pinned (OpenSpec.ofChange fnExactDismantlingOfSpec)

/-- ITS FALSE NEIGHBOUR: 'it returns false'. Refute it at one input. -/
def fnExactDismantlingOfWrong : ChangeSpec := { name := "fnExactDismantlingOf", fn := fun _ => fun
  | [d] => { results := [.lit (.bool false)], args := [d] }
  | _ => none }
def FnExactDismantlingOfWrongFalsely : Prop := fnExactDismantlingOfRow.holds Try.pinned (OpenSpec.ofChange fnExactDismantlingOfWrong)

/-- 'laws.FnExactIsRoom': WHATEVER THE INPUT: true; the input reads as it did. -/
def fnExactIsRoomSpec : ChangeSpec := { name := "fnExactIsRoom", fn := fun _ => fun
  | [d1, d2, d3] => { results := [.lit (.bool true)], args := [d1, d2, d3] }
  | _ => none }
def fnExactIsRoomRow : OpenClaim := { program := "ytbnhckhbjoldcaa", sum := "8e423faab422f430e81fadb92a8ca09d3ef52947a07c9c5020102d27a3d750dd", func := "loop.example/g01109/laws.FnExactIsRoom", spec := "fnExactIsRoom", unfollowed := true, recurses := true, apart := false }
def FnExactIsRoomSaid : Prop := fnExactIsRoomRow.holds Try.pinned (OpenSpec.ofChange fnExactIsRoomSpec)

/-- ITS FALSE NEIGHBOUR: 'it returns false'. Refute it at one input. -/
def fnExactIsRoomWrong : ChangeSpec := { name := "fnExactIsRoom", fn := fun _ => fun
  | [d1, d2, d3] => { results := [.lit (.bool false)], args := [d1, d2, d3] }
  | _ => none }
def FnExactIsRoomWrongFalsely : Prop := fnExactIsRoomRow.holds Try.pinned (OpenSpec.ofChange fnExactIsRoomWrong)

/- THE SECOND FORM. 'bulk': how many values and letters a reading holds, each counted each time it is reached (what is shared counts as often as it is met; a slice's spare places count too). A statement '..UptoSaid' is the law's where the arguments, and the package variables that the reading takes, are together of bulk at most 1048576: NARROWER than '..Said'. Prove '..Said' where nothing that the law and all that it calls make is longer than what came in: it says more and counts as full. Else prove '..UptoSaid'. A law counts once. -/
mutual
def uptoBulk {H : Type} : DataW H → Nat
  | .lit (.string bytes) => bytes.length + 1
  | .lit _ => 1
  | .nil => 1
  | .ptr d => uptoBulk d + 1
  | .slice elems spare => uptoBulkAll elems + uptoBulkAll spare + 1
  | .agg parts => uptoBulkAll parts + 1
  | .iface _ d => uptoBulk d + 1
  | .map entries => uptoBulkEntries entries + 1
  | .held _ => 1
def uptoBulkAll {H : Type} : List (DataW H) → Nat
  | [] => 0
  | d :: r => uptoBulk d + uptoBulkAll r
def uptoBulkEntries {H : Type} : List (Lit × DataW H) → Nat
  | [] => 0
  | x :: r => uptoBulkEntry x + uptoBulkEntries r
def uptoBulkEntry {H : Type} : Lit × DataW H → Nat
  | (.string bytes, d) => bytes.length + uptoBulk d + 1
  | (_, d) => uptoBulk d + 1
 end
def uptoSmall : (H : Type) → List (DataW H) → Bool := fun _ ds => decide (uptoBulkAll ds ≤ 1048576)
def OpenSpec.upto (s : _root_.Go.ChangeSpec) : _root_.Go.OpenSpec := { _root_.Go.OpenSpec.ofChange s with cond := some uptoSmall }

/-- 'laws.FnExactIsCorner', WHERE WHAT IT READS IS OF BULK AT MOST 1048576: true; the input reads as it did. -/
def fnExactIsCornerUptoRow : OpenClaim := { program := "ytbnhckhbjoldcaa", sum := "8e423faab422f430e81fadb92a8ca09d3ef52947a07c9c5020102d27a3d750dd", func := "loop.example/g01109/laws.FnExactIsCorner", spec := "fnExactIsCorner", apart := false, narrowed := true }
def FnExactIsCornerUptoSaid : Prop := fnExactIsCornerUptoRow.holds Try.pinned (OpenSpec.upto fnExactIsCornerSpec)

/-- 'laws.FnExactGuardedNodes', WHERE WHAT IT READS IS OF BULK AT MOST 1048576: true; the input reads as it did. -/
def fnExactGuardedNodesUptoRow : OpenClaim := { program := "ytbnhckhbjoldcaa", sum := "8e423faab422f430e81fadb92a8ca09d3ef52947a07c9c5020102d27a3d750dd", func := "loop.example/g01109/laws.FnExactGuardedNodes", spec := "fnExactGuardedNodes", apart := false, narrowed := true }
def FnExactGuardedNodesUptoSaid : Prop := fnExactGuardedNodesUptoRow.holds Try.pinned (OpenSpec.upto fnExactGuardedNodesSpec)

/-- 'laws.FnExactCountDismantlings', WHERE WHAT IT READS IS OF BULK AT MOST 1048576: true; the input reads as it did. -/
def fnExactCountDismantlingsUptoRow : OpenClaim := { program := "ytbnhckhbjoldcaa", sum := "8e423faab422f430e81fadb92a8ca09d3ef52947a07c9c5020102d27a3d750dd", func := "loop.example/g01109/laws.FnExactCountDismantlings", spec := "fnExactCountDismantlings", unfollowed := true, recurses := true, apart := false, narrowed := true }
def FnExactCountDismantlingsUptoSaid : Prop := fnExactCountDismantlingsUptoRow.holds Try.pinned (OpenSpec.upto fnExactCountDismantlingsSpec)

/-- 'laws.FnExactIsDismantling', WHERE WHAT IT READS IS OF BULK AT MOST 1048576: true; the input reads as it did. -/
def fnExactIsDismantlingUptoRow : OpenClaim := { program := "ytbnhckhbjoldcaa", sum := "8e423faab422f430e81fadb92a8ca09d3ef52947a07c9c5020102d27a3d750dd", func := "loop.example/g01109/laws.FnExactIsDismantling", spec := "fnExactIsDismantling", apart := false, narrowed := true }
def FnExactIsDismantlingUptoSaid : Prop := fnExactIsDismantlingUptoRow.holds Try.pinned (OpenSpec.upto fnExactIsDismantlingSpec)

/-- 'laws.FnExactPartsOf', WHERE WHAT IT READS IS OF BULK AT MOST 1048576: true; the input reads as it did. -/
def fnExactPartsOfUptoRow : OpenClaim := { program := "ytbnhckhbjoldcaa", sum := "8e423faab422f430e81fadb92a8ca09d3ef52947a07c9c5020102d27a3d750dd", func := "loop.example/g01109/laws.FnExactPartsOf", spec := "fnExactPartsOf", apart := false, narrowed := true }
def FnExactPartsOfUptoSaid : Prop := fnExactPartsOfUptoRow.holds Try.pinned (OpenSpec.upto fnExactPartsOfSpec)

/-- 'laws.FnExactStrippingOf', WHERE WHAT IT READS IS OF BULK AT MOST 1048576: true; the input reads as it did. -/
def fnExactStrippingOfUptoRow : OpenClaim := { program := "ytbnhckhbjoldcaa", sum := "8e423faab422f430e81fadb92a8ca09d3ef52947a07c9c5020102d27a3d750dd", func := "loop.example/g01109/laws.FnExactStrippingOf", spec := "fnExactStrippingOf", unfollowed := true, recurses := true, apart := false, narrowed := true }
def FnExactStrippingOfUptoSaid : Prop := fnExactStrippingOfUptoRow.holds Try.pinned (OpenSpec.upto fnExactStrippingOfSpec)

/-- 'laws.FnExactDistancesOf', WHERE WHAT IT READS IS OF BULK AT MOST 1048576: true; the input reads as it did. -/
def fnExactDistancesOfUptoRow : OpenClaim := { program := "ytbnhckhbjoldcaa", sum := "8e423faab422f430e81fadb92a8ca09d3ef52947a07c9c5020102d27a3d750dd", func := "loop.example/g01109/laws.FnExactDistancesOf", spec := "fnExactDistancesOf", apart := false, narrowed := true }
def FnExactDistancesOfUptoSaid : Prop := fnExactDistancesOfUptoRow.holds Try.pinned (OpenSpec.upto fnExactDistancesOfSpec)

/-- 'laws.FnExactCornersOf', WHERE WHAT IT READS IS OF BULK AT MOST 1048576: true; the input reads as it did. -/
def fnExactCornersOfUptoRow : OpenClaim := { program := "ytbnhckhbjoldcaa", sum := "8e423faab422f430e81fadb92a8ca09d3ef52947a07c9c5020102d27a3d750dd", func := "loop.example/g01109/laws.FnExactCornersOf", spec := "fnExactCornersOf", unfollowed := true, recurses := true, apart := false, narrowed := true }
def FnExactCornersOfUptoSaid : Prop := fnExactCornersOfUptoRow.holds Try.pinned (OpenSpec.upto fnExactCornersOfSpec)

/-- 'laws.FnExactCoreOf', WHERE WHAT IT READS IS OF BULK AT MOST 1048576: true; the input reads as it did. -/
def fnExactCoreOfUptoRow : OpenClaim := { program := "ytbnhckhbjoldcaa", sum := "8e423faab422f430e81fadb92a8ca09d3ef52947a07c9c5020102d27a3d750dd", func := "loop.example/g01109/laws.FnExactCoreOf", spec := "fnExactCoreOf", unfollowed := true, recurses := true, apart := false, narrowed := true }
def FnExactCoreOfUptoSaid : Prop := fnExactCoreOfUptoRow.holds Try.pinned (OpenSpec.upto fnExactCoreOfSpec)

/-- 'laws.FnExactFirstWay', WHERE WHAT IT READS IS OF BULK AT MOST 1048576: true; the input reads as it did. -/
def fnExactFirstWayUptoRow : OpenClaim := { program := "ytbnhckhbjoldcaa", sum := "8e423faab422f430e81fadb92a8ca09d3ef52947a07c9c5020102d27a3d750dd", func := "loop.example/g01109/laws.FnExactFirstWay", spec := "fnExactFirstWay", apart := false, narrowed := true }
def FnExactFirstWayUptoSaid : Prop := fnExactFirstWayUptoRow.holds Try.pinned (OpenSpec.upto fnExactFirstWaySpec)

/-- 'laws.FnExactDismantlingOf', WHERE WHAT IT READS IS OF BULK AT MOST 1048576: true; the input reads as it did. -/
def fnExactDismantlingOfUptoRow : OpenClaim := { program := "ytbnhckhbjoldcaa", sum := "8e423faab422f430e81fadb92a8ca09d3ef52947a07c9c5020102d27a3d750dd", func := "loop.example/g01109/laws.FnExactDismantlingOf", spec := "fnExactDismantlingOf", unfollowed := true, recurses := true, apart := false, narrowed := true }
def FnExactDismantlingOfUptoSaid : Prop := fnExactDismantlingOfUptoRow.holds Try.pinned (OpenSpec.upto fnExactDismantlingOfSpec)

/-- 'laws.FnExactIsRoom', WHERE WHAT IT READS IS OF BULK AT MOST 1048576: true; the input reads as it did. -/
def fnExactIsRoomUptoRow : OpenClaim := { program := "ytbnhckhbjoldcaa", sum := "8e423faab422f430e81fadb92a8ca09d3ef52947a07c9c5020102d27a3d750dd", func := "loop.example/g01109/laws.FnExactIsRoom", spec := "fnExactIsRoom", unfollowed := true, recurses := true, apart := false, narrowed := true }
def FnExactIsRoomUptoSaid : Prop := fnExactIsRoomUptoRow.holds Try.pinned (OpenSpec.upto fnExactIsRoomSpec)

end Rows
end Go.Proofs.Ytbnhckhbjoldcaa
