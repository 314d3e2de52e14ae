/- The law FnExactCopMoves holds: its walk, as it was printed, and the pure statement, joined; no conditions beyond the row's own. -/
import Derived.Test.YtcjddikalgnhpaaRows
import Derived.Test.YtcjddikalgnhpaaOpn
import Derived.Test.YtcjddikalgnhpaaK8
import Derived.Test.YtcjddikalgnhpaaK9
import Derived.WalkKit
import Derived.ProofKit
import Derived.OpenShut
import Derived.ShutString
import Derived.ChangeOld
import Derived.Below
import Derived.SizedLaws
namespace Go.Proofs.Ytcjddikalgnhpaa.fnExactCopMoves
open Go.ChangeShapes Go.WideShapes Go.ChangeAt Go.RowKit
open Go.ChangeMaps (open_string shut_string)
open Go.Proofs.YtcjddikalgnhpaaW.PrintWords Go.Proofs.Ytcjddikalgnhpaa.P
set_option linter.unusedVariables false
instance : Inhabited S71 := ⟨z71⟩
theorem own : ownKnob Try.prog.godebug = none := by kernel_rfl
theorem laidOut : laidOutB Try.prog = true := by kernel_rfl
set_option maxRecDepth 100000 in
theorem lifted (os : Os) (started : os.Started) (H : Type) (enc : TypeId × Value → H) :
    ReturnsInHanded {} Try.checked os 3 .any (Rows.fnExactCopMovesSpec.pre6 enc Try.prog Try.f3 Rows.fnExactCopMovesRow.domain false) (Rows.fnExactCopMovesSpec.post enc Try.prog Try.f3 false true false false) := by
  refine returnsInHanded_of_change_sized (C := Try.checked) own started (by kernel_rfl) Try.func3
    (ChangeSpec.witness6 (enc := enc) (C := Try.checked) false ⟨#[], #[.agg #[.int .i64 0, .slice none 0 0], .slice none 0 0], []⟩ 8 (by kernel_rfl) (by kernel_rfl) (by kernel_rfl) (by kernel_rfl)) ?_
  intro W base args ds gs before hval0 hW hcnd hsz0 _
  have hval : ∀ (j : Nat) t v, Try.f3.params[j]? = some t → args[j]? = some v → Value.okWide Try.prog W .any base t v := hval0
  have hW' := hW
  obtain ⟨p, q, hA0, hV, rfl, hfz, hnd⟩ := hW
  have hA : DataW.TrodAll enc Try.prog W 0 (fun _ => true) true Try.f3.params.toList args.toList ds p := hA0
  rw [Try.params3] at hA hval
  obtain ⟨v0, vs0, d0, ds0, p0, q0, hargs, rfl, rfl, h0, r0⟩ := trodAll_cons hA
  obtain ⟨v1, vs1, d1, ds1, p1, q1, rfl, rfl, rfl, h1, r1⟩ := trodAll_cons r0
  obtain ⟨rfl, rfl, rfl⟩ := trodAll_nil r1
  obtain rfl : args = #[v0, v1] := by cases args; simp_all
  obtain ⟨rfl, rfl⟩ := trodVars_none hV
  have k0 := h0
  have lt0 : ∀ x ∈ p0, x.block < W.heap.size := by obtain ⟨m, hm⟩ := k0; exact DataW.trod_lt m _ _ _ hm
  obtain ⟨cs0, x0, rfl, hK0, hQ0⟩ := Opn.arg_struct Try.underlying24 (Opn.opens_struct2 Try.underlying24 rfl rfl (by kernel_rfl) (by kernel_rfl) (by kernel_rfl) (Opn.opens_int Try.underlying3) (Opn.opens_slice Try.underlying22 (by kernel_rfl) (Opn.opens_iso (fun x : S71 => (x.f0, x.f1)) (fun x => (⟨x.1, x.2⟩ : S71)) (fun _ => rfl) (Opn.opens_array2 Try.underlying71 (by kernel_rfl) (by kernel_rfl) (Opn.opens_int Try.underlying3))))) (hval 0 24 v0 rfl rfl) h0
  obtain ⟨_, _, rfl, rfl, ⟨A0_1, c0_1, rfl, hc0_1, hC0_1⟩⟩ := hK0
  have k1 := h1
  have lt1 : ∀ x ∈ p1, x.block < W.heap.size := by obtain ⟨m, hm⟩ := k1; exact DataW.trod_lt m _ _ _ hm
  obtain ⟨A1, c1, l1, rfl, hC1, hc1, hQ1⟩ := Opn.arg_slice Try.underlying25 (Opn.opens_slice Try.underlying25 (by kernel_rfl) (Opn.opens_int Try.underlying3)) (hval 1 25 v1 rfl rfl) h1
  clear hA0 hval0 hsz0
  obtain ⟨k, h⟩ := Pure.FnExactCopMoves x0.1 x0.2 l1 hQ0.1 hQ0.2.1 hQ0.2.2 hQ1.1 hQ1.2
  refine (laws_FnExactCopMoves.calls k x0.1 A0_1 c0_1 x0.2 A1 c1 l1 true W hC0_1 hc0_1 hC1 hc1 h).mono ?_
  rintro e W' ⟨rfl, hd⟩
  have bel : Below W.heap.size W W' := hd
  exact ⟨_, rfl, _, _, _, [], _, [], hW', trodAll_mk1 (shut_bool Try.underlying4 _), (trodAll_cons_mk (Below.trod laidOut (by kernel_rfl) (of_decide_eq_true (by kernel_rfl)) k0 bel lt0) (trodAll_cons_mk (Below.trod laidOut (by kernel_rfl) (of_decide_eq_true (by kernel_rfl)) k1 bel lt1) trodAll_mk0)), rfl, bel.frame _, fun h => by cases h⟩
theorem over : Rows.fnExactCopMovesRow.holds Try.pinned (OpenSpec.ofChange Rows.fnExactCopMovesSpec) :=
  OpenClaim.holds_of_wide 3 Try.f3 rfl rfl rfl rfl rfl rfl rfl ⟨rfl, rfl, rfl, rfl, rfl⟩ rfl rfl rfl rfl rfl (by kernel_rfl) Try.func3 (by kernel_rfl)
    (of_decide_eq_true (by kernel_rfl)) (by unfold Func.isWrapper; first | (rw [if_pos (by decide +kernel)]; kernel_rfl) | (rw [if_neg (by decide +kernel)]; exact ⟨rfl, rfl⟩))
    (fun os started H enc _ => lifted os started H enc)
theorem proved : Rows.FnExactCopMovesSaid := over
#print axioms proved
end Go.Proofs.Ytcjddikalgnhpaa.fnExactCopMoves
namespace Go.Proofs.Ytcjddikalgnhpaa
/-- The row, under a short name, for the claim. -/
theorem fnExactCopMoves_holds : Rows.FnExactCopMovesSaid := fnExactCopMoves.proved
end Go.Proofs.Ytcjddikalgnhpaa
