/- Functions of the program as Lean functions, and that each call comes to what they say; written by a program of this session; no conditions beyond those that each theorem names. -/
import Derived.Test.YteepmbpmhaaonaaPx0
import Derived.Test.YteepmbpmhaaonaaPxGrBy
import Derived.Test.YteepmbpmhaaonaaPxImplRenameNodes1
namespace Go.Proofs.Yteepmbpmhaaonaa.P
open Go.RowKit Go.Proofs.YteepmbpmhaaonaaW.PrintWords Go.Proofs.YteepmbpmhaaonaaW.PrintLast Go.Proofs.YteepmbpmhaaonaaW.PrintMore
attribute [local go_sem] max2_int min2_int max_two min_two max_three min_three max_four min_four   -- for this text's walks alone
set_option linter.unusedVariables false
set_option linter.unusedSimpArgs false

/-! ### impl_graphBy_RenameNodes -/
def impl_graphBy_RenameNodes.c (near : List Int) (frm : List Int) (x y : Int) : Option Bool := impl_RenameNodes_1.f x y near frm
def impl_graphBy_RenameNodes.f (k : Nat) (a0 : Int) (near : List Int) (frm : List Int) : Option (Int × List (S65)) := if (0 ≤ a0 ∧ a0 ≤ 1000) ∧ okBy (impl_graphBy_RenameNodes.c near frm) a0 = true then (impl_graphBy.f k (fun x y => (impl_graphBy_RenameNodes.c near frm x y).getD false) a0).map (fun es => (a0, es)) else none
theorem impl_graphBy_RenameNodes.mono : ∀ a0 near frm k, LeO (impl_graphBy_RenameNodes.f k a0 near frm) (impl_graphBy_RenameNodes.f (k + 1) a0 near frm) := by
 intro a0 near frm k
 unfold impl_graphBy_RenameNodes.f
 exact LeO.ite (LeO.map _ (impl_graphBy.mono _ _ _)) (LeO.refl _)
theorem impl_graphBy_RenameNodes.calls (k : Nat) (a0 : Int) (g0_ : Nat) (g1_ : Nat) (Anear : Option Addr) (cnear : Nat) (near : List Int) (Afrm : Option Addr) (cfrm : Nat) (frm : List Int) (r1 : Int) (r2 : List (S65)) (w : World) (hrnear : Kd.C (Kd.int .i64) w Anear near.length near) (hcnear : near.length ≤ cnear) (hrfrm : Kd.C (Kd.int .i64) w Afrm frm.length frm) (hcfrm : frm.length ≤ cfrm) (hb0 : w.heap[g0_]? = some (.cells #[.slice Anear near.length cnear] 69 (0, 0))) (hb1 : w.heap[g1_]? = some (.cells #[.slice Afrm frm.length cfrm] 25 (0, 0))) (h : impl_graphBy_RenameNodes.f k a0 near frm = some (r1, r2)) :
  Calls Try.prog 92 #[.int .i64 a0, .func (.func 93) #[] #[.pointer (some ⟨g0_, 0, none⟩), .pointer (some ⟨g1_, 0, none⟩)]] w fun e w' => ∃ v1_ : Value, e = .returned (.agg #[.int .i64 r1, v1_]) ∧ Kd.R k65 65 w' w.heap.size (fun _ => True) v1_ r2 ∧ Below w.heap.size w w' := by
 unfold impl_graphBy_RenameNodes.f at h
 by_cases hc : (0 ≤ a0 ∧ a0 ≤ 1000) ∧ okBy (impl_graphBy_RenameNodes.c near frm) a0 = true
 ·rw [if_pos hc] at h
  obtain ⟨es, hes, he⟩ := Option.map_eq_some_iff.1 h
  simp only [Prod.mk.injEq] at he
  obtain ⟨rfl, rfl⟩ := he
  refine impl_graphBy.gen k _ a0 93 #[] #[.pointer (some ⟨g0_, 0, none⟩), .pointer (some ⟨g1_, 0, none⟩)] es w hc.1 ⟨_, Try.func93, by kernel_rfl, rfl⟩ (fun x y W hx hxy hy hb => ?_) hes
  refine (show Calls Try.prog 93 #[.int .i64 x, .int .i64 y, .pointer (some ⟨g0_, 0, none⟩), .pointer (some ⟨g1_, 0, none⟩)] W _ from ?_)
  refine (impl_RenameNodes_1.calls x y g0_ Anear cnear near g1_ Afrm cfrm frm _ W (Kd.C_below hrnear hb) hcnear (Kd.C_below hrfrm hb) hcfrm (blk_below hb0 hb) (blk_below hb1 hb) (show impl_RenameNodes_1.f x y near frm = some _ from okBy_spec (c := impl_graphBy_RenameNodes.c near frm) hc.2 hx hxy hy)).mono ?_
  rintro e W' ⟨he, hd⟩
  exact ⟨he, hd⟩
 ·rw [if_neg hc] at h
  cases h

end Go.Proofs.Yteepmbpmhaaonaa.P
