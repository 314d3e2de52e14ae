/- Functions of the program as Lean functions, and that each call comes to what they say; written by a program of this session; no conditions beyond those that each theorem names. -/
import Derived.Test.YtooeemiljeeoaaaPx0
import Derived.Test.YtooeemiljeeoaaaPxGrBy
import Derived.Test.YtooeemiljeeoaaaPxImplProductOf1
namespace Go.Proofs.Ytooeemiljeeoaaa.P
open Go.RowKit Go.Proofs.YtooeemiljeeoaaaW.PrintWords Go.Proofs.YtooeemiljeeoaaaW.PrintLast Go.Proofs.YtooeemiljeeoaaaW.PrintMore
attribute [local go_sem] max2_int min2_int max_two min_two max_three min_three max_four min_four   -- for this text's walks alone
set_option linter.unusedVariables false
set_option linter.unusedSimpArgs false

/-! ### impl_graphBy_product -/
def impl_graphBy_productS.c (n nr : Int) (v w : List Int) (x y : Int) : Option Bool := impl_productOf_1S.f x y n nr v w
def impl_graphBy_productS.f (k : Nat) (a0 : Int) (n nr : Int) (v w : List Int) : Option (Int × List (S57)) := if (0 ≤ a0 ∧ a0 ≤ 1000) ∧ okBy (impl_graphBy_productS.c n nr v w) a0 = true then (impl_graphBy.f k (fun x y => (impl_graphBy_productS.c n nr v w x y).getD false) a0).map (fun es => (a0, es)) else none
theorem impl_graphBy_productS.mono : ∀ a0 n nr v w k, LeO (impl_graphBy_productS.f k a0 n nr v w) (impl_graphBy_productS.f (k + 1) a0 n nr v w) := by
 intro a0 n nr v w k
 unfold impl_graphBy_productS.f
 exact LeO.ite (LeO.map _ (impl_graphBy.mono _ _ _)) (LeO.refl _)
theorem impl_graphBy_productS.calls (k : Nat) (a0 : Int) (g0_ g1_ g2_ g3_ : Nat) (n nr : Int) (Av : Option Addr) (cv : Nat) (v : List Int) (Aw : Option Addr) (cw : Nat) (wl : List Int) (r1 : Int) (r2 : List (S57)) (w : World) (hrv : Kd.C (Kd.int .i64) w Av v.length v) (hcv : v.length ≤ cv) (hrw : Kd.C (Kd.int .i64) w Aw wl.length wl) (hcw : wl.length ≤ cw) (hb0 : w.heap[g0_]? = some (.cells #[.int .i64 n] 3 (0, 0))) (hb1 : w.heap[g1_]? = some (.cells #[.func (.func 71) #[] #[]] 65 (0, 0))) (hb2 : w.heap[g2_]? = some (.cells #[.slice Av v.length cv] 61 (0, 0))) (hb3 : w.heap[g3_]? = some (.cells #[.slice Aw wl.length cw] 61 (0, 0))) (h : impl_graphBy_productS.f k a0 n nr v wl = some (r1, r2)) :
  Calls Try.prog 50 #[.int .i64 a0, .func (.func 81) #[] #[.pointer (some ⟨g0_, 0, none⟩), .pointer (some ⟨g1_, 0, none⟩), .pointer (some ⟨g2_, 0, none⟩), .pointer (some ⟨g3_, 0, none⟩)]] w fun e w' => ∃ v1_ : Value, e = .returned (.agg #[.int .i64 r1, v1_]) ∧ Kd.R k57 57 w' w.heap.size (fun _ => True) v1_ r2 ∧ Below w.heap.size w w' := by
 unfold impl_graphBy_productS.f at h
 by_cases hc : (0 ≤ a0 ∧ a0 ≤ 1000) ∧ okBy (impl_graphBy_productS.c n nr v wl) a0 = true
 ·rw [if_pos hc] at h
  obtain ⟨es, hes, he⟩ := Option.map_eq_some_iff.1 h
  simp only [Prod.mk.injEq] at he
  obtain ⟨rfl, rfl⟩ := he
  refine impl_graphBy.gen k _ a0 81 #[] #[.pointer (some ⟨g0_, 0, none⟩), .pointer (some ⟨g1_, 0, none⟩), .pointer (some ⟨g2_, 0, none⟩), .pointer (some ⟨g3_, 0, none⟩)] es w hc.1 ⟨_, Try.func81, by kernel_rfl, rfl⟩ (fun x y W hx hxy hy hb => ?_) hes
  refine (show Calls Try.prog 81 #[.int .i64 x, .int .i64 y, .pointer (some ⟨g0_, 0, none⟩), .pointer (some ⟨g1_, 0, none⟩), .pointer (some ⟨g2_, 0, none⟩), .pointer (some ⟨g3_, 0, none⟩)] W _ from ?_)
  refine (impl_productOf_1S.calls x y g0_ n g1_ nr g2_ Av cv v g3_ Aw cw wl _ W (Kd.C_below hrv hb) hcv (Kd.C_below hrw hb) hcw (blk_below hb0 hb) (blk_below hb1 hb) (blk_below hb2 hb) (blk_below hb3 hb) (show impl_productOf_1S.f x y n nr v wl = some _ from okBy_spec (c := impl_graphBy_productS.c n nr v wl) hc.2 hx hxy hy)).mono ?_
  rintro e W' ⟨he, hd⟩
  exact ⟨he, hd⟩
 ·rw [if_neg hc] at h
  cases h

end Go.Proofs.Ytooeemiljeeoaaa.P
