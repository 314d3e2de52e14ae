/-
  No cell of these rows narrows 'for every input' (looked for: loops, veiled, ifaces, maps, wideKeys, modest, calm, conditions, laid).
  DERIVED. THE GIVEN ROWS OF THIS SEAT. 6 by the template 'for every input the law returns true; each argument reads behind the call as it read before'; 0 by the template 'total and deterministic' (their statements: YtcjddikalgnhpaaTotals.lean).
  GIVEN WITH THE SEED: the statements are not yours to turn. If you find one false, say at which input.
  Laid BY PROGRAM, IN A SANDBOX (cutbox-rows.mjs): the forced cells as the released guide's own fill.sh prints them over the translation f7729f202a5a479b… (all of the seat's roots in one cut). By AI agents, Wed Nov 11 2026. No macro, syntax, notation, axiom, sorry.
-/
import Derived.Test.YtcjddikalgnhpaaChecked
import GoSem.Claim
import GoSem.ClaimJoined
import GoSem.ClaimMapViews
import Derived.JoinedTies
import Derived.KernelRfl
namespace Go.Proofs.Ytcjddikalgnhpaa
/- THE CELL 'sum', in the pinned program and in every row, IS THE sha256 OF THE DUMP (.gsa) THAT YtcjddikalgnhpaaProg.lean LOADS. Nothing in Lean hashes anything: it is a label: what it is worth is what the hold of that sum in a sandbox is worth. -/
noncomputable def Try.pinned : Pinned := { name := "ytcjddikalgnhpaa", sum := "f7729f202a5a479b7da346d3bfbf88c52c8bee172bc5d443e8618b99bc4cd380", checked := Try.checked }
namespace Rows
def none {H : Type} : Left H := { results := [], args := [] }

/-- 'laws.FnExactCopMoves': WHATEVER THE INPUT: true; the input reads as it did. -/
def fnExactCopMovesSpec : ChangeSpec := { name := "fnExactCopMoves", fn := fun _ => fun
  | [d1, d2] => { results := [.lit (.bool true)], args := [d1, d2] }
  | _ => none }
def fnExactCopMovesRow : OpenClaim := { program := "ytcjddikalgnhpaa", sum := "f7729f202a5a479b7da346d3bfbf88c52c8bee172bc5d443e8618b99bc4cd380", func := "loop.example/g01109/laws.FnExactCopMoves", spec := "fnExactCopMoves", unfollowed := true, recurses := true, apart := false }
def FnExactCopMovesSaid : Prop := fnExactCopMovesRow.holds Try.pinned (OpenSpec.ofChange fnExactCopMovesSpec)

/-- ITS FALSE NEIGHBOUR: 'it returns false'. Refute it at one input. -/
def fnExactCopMovesWrong : ChangeSpec := { name := "fnExactCopMoves", fn := fun _ => fun
  | [d1, d2] => { results := [.lit (.bool false)], args := [d1, d2] }
  | _ => none }
def FnExactCopMovesWrongFalsely : Prop := fnExactCopMovesRow.holds Try.pinned (OpenSpec.ofChange fnExactCopMovesWrong)

/-- 'laws.FnFamilies': WHATEVER THE INPUT: true; the input reads as it did. -/
def fnFamiliesSpec : ChangeSpec := { name := "fnFamilies", fn := fun _ => fun
  | [d] => { results := [.lit (.bool true)], args := [d] }
  | _ => none }
def fnFamiliesRow : OpenClaim := { program := "ytcjddikalgnhpaa", sum := "f7729f202a5a479b7da346d3bfbf88c52c8bee172bc5d443e8618b99bc4cd380", func := "loop.example/g01109/laws.FnFamilies", spec := "fnFamilies", unfollowed := true, recurses := true, apart := false }
def FnFamiliesSaid : Prop := fnFamiliesRow.holds Try.pinned (OpenSpec.ofChange fnFamiliesSpec)

/-- ITS FALSE NEIGHBOUR: 'it returns false'. Refute it at one input. -/
def fnFamiliesWrong : ChangeSpec := { name := "fnFamilies", fn := fun _ => fun
  | [d] => { results := [.lit (.bool false)], args := [d] }
  | _ => none }
def FnFamiliesWrongFalsely : Prop := fnFamiliesRow.holds Try.pinned (OpenSpec.ofChange fnFamiliesWrong)

/-- 'laws.FnProducts': WHATEVER THE INPUT: true; the input reads as it did. -/
def fnProductsSpec : ChangeSpec := { name := "fnProducts", fn := fun _ => fun
  | [d] => { results := [.lit (.bool true)], args := [d] }
  | _ => none }
def fnProductsRow : OpenClaim := { program := "ytcjddikalgnhpaa", sum := "f7729f202a5a479b7da346d3bfbf88c52c8bee172bc5d443e8618b99bc4cd380", func := "loop.example/g01109/laws.FnProducts", spec := "fnProducts", unfollowed := true, recurses := true, apart := false }
def FnProductsSaid : Prop := fnProductsRow.holds Try.pinned (OpenSpec.ofChange fnProductsSpec)

/-- ITS FALSE NEIGHBOUR: 'it returns false'. Refute it at one input. -/
def fnProductsWrong : ChangeSpec := { name := "fnProducts", fn := fun _ => fun
  | [d] => { results := [.lit (.bool false)], args := [d] }
  | _ => none }
def FnProductsWrongFalsely : Prop := fnProductsRow.holds Try.pinned (OpenSpec.ofChange fnProductsWrong)

/-- 'laws.FnCorners': WHATEVER THE INPUT: true; the input reads as it did. -/
def fnCornersSpec : ChangeSpec := { name := "fnCorners", fn := fun _ => fun
  | [d] => { results := [.lit (.bool true)], args := [d] }
  | _ => none }
def fnCornersRow : OpenClaim := { program := "ytcjddikalgnhpaa", sum := "f7729f202a5a479b7da346d3bfbf88c52c8bee172bc5d443e8618b99bc4cd380", func := "loop.example/g01109/laws.FnCorners", spec := "fnCorners", unfollowed := true, recurses := true, apart := false }
def FnCornersSaid : Prop := fnCornersRow.holds Try.pinned (OpenSpec.ofChange fnCornersSpec)

/-- ITS FALSE NEIGHBOUR: 'it returns false'. Refute it at one input. -/
def fnCornersWrong : ChangeSpec := { name := "fnCorners", fn := fun _ => fun
  | [d] => { results := [.lit (.bool false)], args := [d] }
  | _ => none }
def FnCornersWrongFalsely : Prop := fnCornersRow.holds Try.pinned (OpenSpec.ofChange fnCornersWrong)

/-- 'laws.FnDistances': WHATEVER THE INPUT: true; the input reads as it did. -/
def fnDistancesSpec : ChangeSpec := { name := "fnDistances", fn := fun _ => fun
  | [d] => { results := [.lit (.bool true)], args := [d] }
  | _ => none }
def fnDistancesRow : OpenClaim := { program := "ytcjddikalgnhpaa", sum := "f7729f202a5a479b7da346d3bfbf88c52c8bee172bc5d443e8618b99bc4cd380", func := "loop.example/g01109/laws.FnDistances", spec := "fnDistances", apart := false }
def FnDistancesSaid : Prop := fnDistancesRow.holds Try.pinned (OpenSpec.ofChange fnDistancesSpec)

/-- ITS FALSE NEIGHBOUR: 'it returns false'. Refute it at one input. -/
def fnDistancesWrong : ChangeSpec := { name := "fnDistances", fn := fun _ => fun
  | [d] => { results := [.lit (.bool false)], args := [d] }
  | _ => none }
def FnDistancesWrongFalsely : Prop := fnDistancesRow.holds Try.pinned (OpenSpec.ofChange fnDistancesWrong)

/-- 'laws.FnRetractions': WHATEVER THE INPUT: true; the input reads as it did. -/
def fnRetractionsSpec : ChangeSpec := { name := "fnRetractions", fn := fun _ => fun
  | [d] => { results := [.lit (.bool true)], args := [d] }
  | _ => none }
def fnRetractionsRow : OpenClaim := { program := "ytcjddikalgnhpaa", sum := "f7729f202a5a479b7da346d3bfbf88c52c8bee172bc5d443e8618b99bc4cd380", func := "loop.example/g01109/laws.FnRetractions", spec := "fnRetractions", unfollowed := true, recurses := true, apart := false }
def FnRetractionsSaid : Prop := fnRetractionsRow.holds Try.pinned (OpenSpec.ofChange fnRetractionsSpec)

/-- ITS FALSE NEIGHBOUR: 'it returns false'. Refute it at one input. -/
def fnRetractionsWrong : ChangeSpec := { name := "fnRetractions", fn := fun _ => fun
  | [d] => { results := [.lit (.bool false)], args := [d] }
  | _ => none }
def FnRetractionsWrongFalsely : Prop := fnRetractionsRow.holds Try.pinned (OpenSpec.ofChange fnRetractionsWrong)

/- THE SECOND FORM. 'bulk': how many values and letters a reading holds, each counted each time it is reached (what is shared counts as often as it is met; a slice's spare places count too). A statement '..UptoSaid' is the law's where the arguments, and the package variables that the reading takes, are together of bulk at most 1048576: NARROWER than '..Said'. Prove '..Said' where nothing that the law and all that it calls make is longer than what came in: it says more and counts as full. Else prove '..UptoSaid'. A law counts once. -/
mutual
def uptoBulk {H : Type} : DataW H → Nat
  | .lit (.string bytes) => bytes.length + 1
  | .lit _ => 1
  | .nil => 1
  | .ptr d => uptoBulk d + 1
  | .slice elems spare => uptoBulkAll elems + uptoBulkAll spare + 1
  | .agg parts => uptoBulkAll parts + 1
  | .iface _ d => uptoBulk d + 1
  | .map entries => uptoBulkEntries entries + 1
  | .held _ => 1
def uptoBulkAll {H : Type} : List (DataW H) → Nat
  | [] => 0
  | d :: r => uptoBulk d + uptoBulkAll r
def uptoBulkEntries {H : Type} : List (Lit × DataW H) → Nat
  | [] => 0
  | x :: r => uptoBulkEntry x + uptoBulkEntries r
def uptoBulkEntry {H : Type} : Lit × DataW H → Nat
  | (.string bytes, d) => bytes.length + uptoBulk d + 1
  | (_, d) => uptoBulk d + 1
 end
def uptoSmall : (H : Type) → List (DataW H) → Bool := fun _ ds => decide (uptoBulkAll ds ≤ 1048576)
def OpenSpec.upto (s : _root_.Go.ChangeSpec) : _root_.Go.OpenSpec := { _root_.Go.OpenSpec.ofChange s with cond := some uptoSmall }

/-- 'laws.FnExactCopMoves', WHERE WHAT IT READS IS OF BULK AT MOST 1048576: true; the input reads as it did. -/
def fnExactCopMovesUptoRow : OpenClaim := { program := "ytcjddikalgnhpaa", sum := "f7729f202a5a479b7da346d3bfbf88c52c8bee172bc5d443e8618b99bc4cd380", func := "loop.example/g01109/laws.FnExactCopMoves", spec := "fnExactCopMoves", unfollowed := true, recurses := true, apart := false, narrowed := true }
def FnExactCopMovesUptoSaid : Prop := fnExactCopMovesUptoRow.holds Try.pinned (OpenSpec.upto fnExactCopMovesSpec)

/-- 'laws.FnFamilies', WHERE WHAT IT READS IS OF BULK AT MOST 1048576: true; the input reads as it did. -/
def fnFamiliesUptoRow : OpenClaim := { program := "ytcjddikalgnhpaa", sum := "f7729f202a5a479b7da346d3bfbf88c52c8bee172bc5d443e8618b99bc4cd380", func := "loop.example/g01109/laws.FnFamilies", spec := "fnFamilies", unfollowed := true, recurses := true, apart := false, narrowed := true }
def FnFamiliesUptoSaid : Prop := fnFamiliesUptoRow.holds Try.pinned (OpenSpec.upto fnFamiliesSpec)

/-- 'laws.FnProducts', WHERE WHAT IT READS IS OF BULK AT MOST 1048576: true; the input reads as it did. -/
def fnProductsUptoRow : OpenClaim := { program := "ytcjddikalgnhpaa", sum := "f7729f202a5a479b7da346d3bfbf88c52c8bee172bc5d443e8618b99bc4cd380", func := "loop.example/g01109/laws.FnProducts", spec := "fnProducts", unfollowed := true, recurses := true, apart := false, narrowed := true }
def FnProductsUptoSaid : Prop := fnProductsUptoRow.holds Try.pinned (OpenSpec.upto fnProductsSpec)

/-- 'laws.FnCorners', WHERE WHAT IT READS IS OF BULK AT MOST 1048576: true; the input reads as it did. -/
def fnCornersUptoRow : OpenClaim := { program := "ytcjddikalgnhpaa", sum := "f7729f202a5a479b7da346d3bfbf88c52c8bee172bc5d443e8618b99bc4cd380", func := "loop.example/g01109/laws.FnCorners", spec := "fnCorners", unfollowed := true, recurses := true, apart := false, narrowed := true }
def FnCornersUptoSaid : Prop := fnCornersUptoRow.holds Try.pinned (OpenSpec.upto fnCornersSpec)

/-- 'laws.FnDistances', WHERE WHAT IT READS IS OF BULK AT MOST 1048576: true; the input reads as it did. -/
def fnDistancesUptoRow : OpenClaim := { program := "ytcjddikalgnhpaa", sum := "f7729f202a5a479b7da346d3bfbf88c52c8bee172bc5d443e8618b99bc4cd380", func := "loop.example/g01109/laws.FnDistances", spec := "fnDistances", apart := false, narrowed := true }
def FnDistancesUptoSaid : Prop := fnDistancesUptoRow.holds Try.pinned (OpenSpec.upto fnDistancesSpec)

/-- 'laws.FnRetractions', WHERE WHAT IT READS IS OF BULK AT MOST 1048576: true; the input reads as it did. -/
def fnRetractionsUptoRow : OpenClaim := { program := "ytcjddikalgnhpaa", sum := "f7729f202a5a479b7da346d3bfbf88c52c8bee172bc5d443e8618b99bc4cd380", func := "loop.example/g01109/laws.FnRetractions", spec := "fnRetractions", unfollowed := true, recurses := true, apart := false, narrowed := true }
def FnRetractionsUptoSaid : Prop := fnRetractionsUptoRow.holds Try.pinned (OpenSpec.upto fnRetractionsSpec)

end Rows
end Go.Proofs.Ytcjddikalgnhpaa
