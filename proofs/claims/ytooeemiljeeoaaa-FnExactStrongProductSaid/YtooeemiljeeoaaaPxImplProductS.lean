/- Functions of the program as Lean functions, and that each call comes to what they say; written by a program of this session; no conditions beyond those that each theorem names. -/
import Derived.Test.YtooeemiljeeoaaaPx0
import Derived.Test.YtooeemiljeeoaaaPxImplA
import Derived.Test.YtooeemiljeeoaaaPxImplGraphByProduct
import Derived.Test.YtooeemiljeeoaaaPxImplNetOf
import Derived.Test.YtooeemiljeeoaaaPxImplProductOf1
namespace Go.Proofs.Ytooeemiljeeoaaa.P
open Go.RowKit Go.Proofs.YtooeemiljeeoaaaW.PrintWords Go.Proofs.YtooeemiljeeoaaaW.PrintLast Go.Proofs.YtooeemiljeeoaaaW.PrintMore
attribute [local go_sem] max2_int min2_int max_two min_two max_three min_three max_four min_four   -- for this text's walks alone
set_option linter.unusedVariables false
set_option linter.unusedSimpArgs false

/-! ### impl_productS -/
def impl_productOfS.j0 : Nat → Bool → Int → List (S57) → Int → List (S57) → Int → Option (Int × (List (S57)) × Bool)
 | 0, _, _, _, _, _, _ => none
 | k + 1, x26, x102000, x102001, x103000, x103001, x104000 => if x26 = true then (some (0, ([] : List (S57)), false)) else ((impl_netOf.f k x102000 x102001).bind fun t107 => ((impl_netOf.f k x103000 x103001).bind fun t110 => ((impl_graphBy_productS.f k (wrap64 (x102000 * x103000)) x103000 x104000 t107 t110).bind fun bt116 => (some (bt116.1, bt116.2, true)))))
def impl_productOfS.f (k : Nat) (a0_0 : Int) (l0_1 : List (S57)) (a1_0 : Int) (l1_1 : List (S57)) (a2 : Int) : Option (Int × (List (S57)) × Bool) := (impl_IsGraph.f k a0_0 l0_1).bind fun t105 => (if t105 = true then ((impl_IsGraph.f k a1_0 l1_1).bind fun t106 => (if t106 = true then (impl_productOfS.j0 k (decide ((wrap64 (a0_0 * a1_0)) > 8)) a0_0 l0_1 a1_0 l1_1 a2) else (impl_productOfS.j0 k true a0_0 l0_1 a1_0 l1_1 a2))) else (impl_productOfS.j0 k true a0_0 l0_1 a1_0 l1_1 a2))
theorem impl_productOfS.mono_l : ∀ k, (∀ y0 y1 y2 y3 y4 y5, LeO (impl_productOfS.j0 k y0 y1 y2 y3 y4 y5) (impl_productOfS.j0 (k + 1) y0 y1 y2 y3 y4 y5))
 | 0 => fun _ _ _ _ _ _ r h => by simp [impl_productOfS.j0] at h
 | k + 1 => by
  have ih0 := impl_productOfS.mono_l k
  all_goals
   intros
   first | unfold impl_productOfS.j0
   repeat' first | (with_reducible first | exact ih0 _ _ _ _ _ _ | exact impl_IsGraph.mono _ _ _ | exact impl_graphBy_productS.mono _ _ _ _ _ _ | exact impl_netOf.mono _ _ _ | exact LeO.refl _ | exact LeO.none _ | refine LeO.ite ?_ ?_ | refine LeO.bind ?_ (fun _ => ?_)) | exact ih0 _ _ _ _ _ _ | exact impl_IsGraph.mono _ _ _ | exact impl_graphBy_productS.mono _ _ _ _ _ _ | exact impl_netOf.mono _ _ _ | exact LeO.none _ | refine LeO.ite ?_ ?_ | refine LeO.bind ?_ (fun _ => ?_)
theorem impl_productOfS.mono : ∀ a0 a1 a2 a3 a4 k, LeO (impl_productOfS.f k a0 a1 a2 a3 a4) (impl_productOfS.f (k + 1) a0 a1 a2 a3 a4) := by
 intro a0 a1 a2 a3 a4 k
 have ih0 := impl_productOfS.mono_l k
 unfold impl_productOfS.f
 repeat' first | (with_reducible first | exact ih0 _ _ _ _ _ _ | exact impl_IsGraph.mono _ _ _ | exact impl_graphBy_productS.mono _ _ _ _ _ _ | exact impl_netOf.mono _ _ _ | exact LeO.refl _ | exact LeO.none _ | refine LeO.ite ?_ ?_ | refine LeO.bind ?_ (fun _ => ?_)) | exact ih0 _ _ _ _ _ _ | exact impl_IsGraph.mono _ _ _ | exact impl_graphBy_productS.mono _ _ _ _ _ _ | exact impl_netOf.mono _ _ _ | exact LeO.none _ | refine LeO.ite ?_ ?_ | refine LeO.bind ?_ (fun _ => ?_)
def impl_productOfS.T3 : Bool × List (List Nat × List Nat) := (true, [([], []), ([0], [0]), ([], []), ([2, 1], [2]), ([], []), ([4], [4]), ([], []), ([], []), ([], []), ([6, 1, 3, 0, 1, 6, 7, 8], [1, 6]), ([7, 3, 9, 0, 1, 2, 3, 6, 7, 8, 9], [3, 7]), ([8, 5, 10, 0, 1, 2, 3, 4, 5, 6, 7, 8, 9, 10], [5, 8])])
def impl_productOfS.B3 : List Nat := [0, 1, 0, 7, 0, 16, 0, 0, 0, 463, 975, 2047]
theorem impl_productOfS.tab3 : rtab .any (opsOf Try.f69 3) = impl_productOfS.T3 := by kernel_rfl
theorem impl_productOfS.bits3 : waitsOk impl_productOfS.T3.2 impl_productOfS.B3 = true := by kernel_rfl
set_option maxHeartbeats 8000000 in
set_option maxRecDepth 100000 in
theorem impl_productOfS.calls (k : Nat) (a0_0 : Int) (A0_1 : Option Addr) (c0_1 : Nat) (l0_1 : List (S57)) (a1_0 : Int) (A1_1 : Option Addr) (c1_1 : Nat) (l1_1 : List (S57)) (a2 : Int) (r1 : Int) (r2 : List (S57)) (r3 : Bool) (w : World) (hr0_1 : Kd.C k57 w A0_1 l0_1.length l0_1) (hc0_1 : l0_1.length ≤ c0_1) (hr1_1 : Kd.C k57 w A1_1 l1_1.length l1_1) (hc1_1 : l1_1.length ≤ c1_1) (h : impl_productOfS.f k a0_0 l0_1 a1_0 l1_1 a2 = some (r1, r2, r3)) :
  Calls Try.prog 69 #[.agg #[.int .i64 a0_0, .slice A0_1 l0_1.length c0_1], .agg #[.int .i64 a1_0, .slice A1_1 l1_1.length c1_1], .func (.func 71) #[] #[]] w fun e w' => ∃ v1_ : Value, e = .returned (.tuple #[.agg #[.int .i64 r1, v1_], .bool r3]) ∧ Kd.R k57 57 w' w.heap.size (fun _ => True) v1_ r2 ∧ Below w.heap.size w w' := by
 have hu29 := Try.underlying29
 have hu61 := Try.underlying61
 have HR0_1 := Aside0.mk hr0_1
 have HC0_1 := Aside0.mk hc0_1
 clear hr0_1 hc0_1
 have HR1_1 := Aside0.mk hr1_1
 have HC1_1 := Aside0.mk hc1_1
 clear hr1_1 hc1_1
 have HB := Aside0.mk (Below.refl w.heap.size w)
 have H : ((impl_IsGraph.f k a0_0 l0_1).bind fun t105 => (if t105 = true then ((impl_IsGraph.f k a1_0 l1_1).bind fun t106 => (if t106 = true then (impl_productOfS.j0 k (decide ((wrap64 (a0_0 * a1_0)) > 8)) a0_0 l0_1 a1_0 l1_1 a2) else (impl_productOfS.j0 k true a0_0 l0_1 a1_0 l1_1 a2))) else (impl_productOfS.j0 k true a0_0 l0_1 a1_0 l1_1 a2))) = some (r1, r2, r3) := h
 clear h
 have HU4 := Aside0.mk H
 clear H
 go_enter Try.func69, Try.ntmps69
 go_upto_region 1 with (first | ((with_reducible refine gate_dst (N := 3) rfl ?_); refine box_event ?hg (N := 3) ?hd (cs := #[.int .i64 a0_0, .slice A0_1 l0_1.length c0_1]) (t := 29) ?hr ?_; (case hd => rfl); (case hg => rfl); (case hr => first | (go_simp; done) | (go_simp; rfl)); intro gb101 hg w5 hbox hb; have n0_ := Aside0.mk (below_step (by repeat (first | (with_reducible first | exact HB.out | apply below_alloc | apply pw_below_drewN | apply below_drew1) | exact HB.out)) hb); have n1_ := Aside0.mk (hbox); have n2_ := Aside0.mk ((by rw [hg]; exact (below_size (by repeat (first | (with_reducible first | exact HB.out | apply below_alloc | apply pw_below_drewN | apply below_drew1) | exact HB.out))) : w.heap.size ≤ gb101)); have n3_ := Aside0.mk ((by rw [hg]; exact (below_size (by repeat (first | (with_reducible first | exact HB.out | apply below_alloc | apply pw_below_drewN | apply below_drew1) | exact HB.out))) : w.heap.size ≤ gb101)); clear HB; have HB := n0_; have BK101 := n1_; have GW101 := n2_; have GE101 := n3_; clear n0_ n1_ n2_ n3_; clear hb hbox hg) | ((with_reducible refine gate_dst (N := 4) rfl ?_); refine box_event ?hg (N := 4) ?hd (cs := #[.int .i64 a1_0, .slice A1_1 l1_1.length c1_1]) (t := 29) ?hr ?_; (case hd => rfl); (case hg => rfl); (case hr => first | (go_simp; done) | (go_simp; rfl)); intro gb102 hg w6 hbox hb; have n0_ := Aside0.mk (blk_below (g := gb101) (o := .cells #[.int .i64 a0_0, .slice A0_1 l0_1.length c0_1] 29 (0, 0)) (by (with_reducible repeat (first | refine blk_drewN ?_ _ | refine blk_drew ?_ | refine blk_alloc ?_ _)); exact BK101.out) hb); have n1_ := Aside0.mk (below_step (by repeat (first | (with_reducible first | exact HB.out | apply below_alloc | apply pw_below_drewN | apply below_drew1) | exact HB.out)) hb); have n2_ := Aside0.mk (hbox); have n3_ := Aside0.mk ((by rw [hg]; exact (below_size (by repeat (first | (with_reducible first | exact HB.out | apply below_alloc | apply pw_below_drewN | apply below_drew1) | exact HB.out))) : w.heap.size ≤ gb102)); have n4_ := Aside0.mk ((by rw [hg]; exact (below_size (by repeat (first | (with_reducible first | exact HB.out | apply below_alloc | apply pw_below_drewN | apply below_drew1) | exact HB.out))) : w.heap.size ≤ gb102)); have n5_ := Aside0.mk ((by rw [hg]; exact Nat.ne_of_lt (blk_lt (g := gb101) (o := .cells #[.int .i64 a0_0, .slice A0_1 l0_1.length c0_1] 29 (0, 0)) (by (with_reducible repeat (first | refine blk_drewN ?_ _ | refine blk_drew ?_ | refine blk_alloc ?_ _)); exact BK101.out)) : gb101 ≠ gb102)); have n6_ := Aside0.mk ((by rw [hg]; exact Nat.ne_of_gt (blk_lt (g := gb101) (o := .cells #[.int .i64 a0_0, .slice A0_1 l0_1.length c0_1] 29 (0, 0)) (by (with_reducible repeat (first | refine blk_drewN ?_ _ | refine blk_drew ?_ | refine blk_alloc ?_ _)); exact BK101.out)) : gb102 ≠ gb101)); clear BK101; clear HB; have BK101 := n0_; have HB := n1_; have BK102 := n2_; have GW102 := n3_; have GE102 := n4_; have NB101_102 := n5_; have NB102_101 := n6_; clear n0_ n1_ n2_ n3_ n4_ n5_ n6_; clear hb hbox hg) | ((with_reducible refine gate_dst (N := 5) rfl ?_); refine box_event ?hg (N := 5) ?hd (cs := #[.func (.func 71) #[] #[]]) (t := 65) ?hr ?_; (case hd => rfl); (case hg => rfl); (case hr => first | (go_simp; done) | (go_simp; rfl)); intro gb103 hg w7 hbox hb; have n0_ := Aside0.mk (blk_below (g := gb101) (o := .cells #[.int .i64 a0_0, .slice A0_1 l0_1.length c0_1] 29 (0, 0)) (by (with_reducible repeat (first | refine blk_drewN ?_ _ | refine blk_drew ?_ | refine blk_alloc ?_ _)); exact BK101.out) hb); have n1_ := Aside0.mk (blk_below (g := gb102) (o := .cells #[.int .i64 a1_0, .slice A1_1 l1_1.length c1_1] 29 (0, 0)) (by (with_reducible repeat (first | refine blk_drewN ?_ _ | refine blk_drew ?_ | refine blk_alloc ?_ _)); exact BK102.out) hb); have n2_ := Aside0.mk (below_step (by repeat (first | (with_reducible first | exact HB.out | apply below_alloc | apply pw_below_drewN | apply below_drew1) | exact HB.out)) hb); have n3_ := Aside0.mk (hbox); have n4_ := Aside0.mk ((by rw [hg]; exact (below_size (by repeat (first | (with_reducible first | exact HB.out | apply below_alloc | apply pw_below_drewN | apply below_drew1) | exact HB.out))) : w.heap.size ≤ gb103)); have n5_ := Aside0.mk ((by rw [hg]; exact (below_size (by repeat (first | (with_reducible first | exact HB.out | apply below_alloc | apply pw_below_drewN | apply below_drew1) | exact HB.out))) : w.heap.size ≤ gb103)); have n6_ := Aside0.mk ((by rw [hg]; exact Nat.ne_of_lt (blk_lt (g := gb101) (o := .cells #[.int .i64 a0_0, .slice A0_1 l0_1.length c0_1] 29 (0, 0)) (by (with_reducible repeat (first | refine blk_drewN ?_ _ | refine blk_drew ?_ | refine blk_alloc ?_ _)); exact BK101.out)) : gb101 ≠ gb103)); have n7_ := Aside0.mk ((by rw [hg]; exact Nat.ne_of_gt (blk_lt (g := gb101) (o := .cells #[.int .i64 a0_0, .slice A0_1 l0_1.length c0_1] 29 (0, 0)) (by (with_reducible repeat (first | refine blk_drewN ?_ _ | refine blk_drew ?_ | refine blk_alloc ?_ _)); exact BK101.out)) : gb103 ≠ gb101)); have n8_ := Aside0.mk ((by rw [hg]; exact Nat.ne_of_lt (blk_lt (g := gb102) (o := .cells #[.int .i64 a1_0, .slice A1_1 l1_1.length c1_1] 29 (0, 0)) (by (with_reducible repeat (first | refine blk_drewN ?_ _ | refine blk_drew ?_ | refine blk_alloc ?_ _)); exact BK102.out)) : gb102 ≠ gb103)); have n9_ := Aside0.mk ((by rw [hg]; exact Nat.ne_of_gt (blk_lt (g := gb102) (o := .cells #[.int .i64 a1_0, .slice A1_1 l1_1.length c1_1] 29 (0, 0)) (by (with_reducible repeat (first | refine blk_drewN ?_ _ | refine blk_drew ?_ | refine blk_alloc ?_ _)); exact BK102.out)) : gb103 ≠ gb102)); clear BK101; clear BK102; clear HB; have BK101 := n0_; have BK102 := n1_; have HB := n2_; have BK103 := n3_; have GW103 := n4_; have GE103 := n5_; have NB101_103 := n6_; have NB103_101 := n7_; have NB102_103 := n8_; have NB103_102 := n9_; clear n0_ n1_ n2_ n3_ n4_ n5_ n6_ n7_ n8_ n9_; clear hb hbox hg) | ((with_reducible refine gate_dst (N := 6) rfl ?_); refine box_event ?hg (N := 6) ?hd (cs := #[.int .i64 0, .slice none 0 0]) (t := 29) ?hr ?_; (case hd => rfl); (case hg => rfl); (case hr => first | (go_simp; done) | (go_simp; rfl)); intro gb104 hg w8 hbox hb; have n0_ := Aside0.mk (blk_below (g := gb101) (o := .cells #[.int .i64 a0_0, .slice A0_1 l0_1.length c0_1] 29 (0, 0)) (by (with_reducible repeat (first | refine blk_drewN ?_ _ | refine blk_drew ?_ | refine blk_alloc ?_ _)); exact BK101.out) hb); have n1_ := Aside0.mk (blk_below (g := gb102) (o := .cells #[.int .i64 a1_0, .slice A1_1 l1_1.length c1_1] 29 (0, 0)) (by (with_reducible repeat (first | refine blk_drewN ?_ _ | refine blk_drew ?_ | refine blk_alloc ?_ _)); exact BK102.out) hb); have n2_ := Aside0.mk (blk_below (g := gb103) (o := .cells #[.func (.func 71) #[] #[]] 65 (0, 0)) (by (with_reducible repeat (first | refine blk_drewN ?_ _ | refine blk_drew ?_ | refine blk_alloc ?_ _)); exact BK103.out) hb); have n3_ := Aside0.mk (below_step (by repeat (first | (with_reducible first | exact HB.out | apply below_alloc | apply pw_below_drewN | apply below_drew1) | exact HB.out)) hb); have n4_ := Aside0.mk (hbox); have n5_ := Aside0.mk ((by rw [hg]; exact (below_size (by repeat (first | (with_reducible first | exact HB.out | apply below_alloc | apply pw_below_drewN | apply below_drew1) | exact HB.out))) : w.heap.size ≤ gb104)); have n6_ := Aside0.mk ((by rw [hg]; exact (below_size (by repeat (first | (with_reducible first | exact HB.out | apply below_alloc | apply pw_below_drewN | apply below_drew1) | exact HB.out))) : w.heap.size ≤ gb104)); have n7_ := Aside0.mk ((by rw [hg]; exact Nat.ne_of_lt (blk_lt (g := gb101) (o := .cells #[.int .i64 a0_0, .slice A0_1 l0_1.length c0_1] 29 (0, 0)) (by (with_reducible repeat (first | refine blk_drewN ?_ _ | refine blk_drew ?_ | refine blk_alloc ?_ _)); exact BK101.out)) : gb101 ≠ gb104)); have n8_ := Aside0.mk ((by rw [hg]; exact Nat.ne_of_gt (blk_lt (g := gb101) (o := .cells #[.int .i64 a0_0, .slice A0_1 l0_1.length c0_1] 29 (0, 0)) (by (with_reducible repeat (first | refine blk_drewN ?_ _ | refine blk_drew ?_ | refine blk_alloc ?_ _)); exact BK101.out)) : gb104 ≠ gb101)); have n9_ := Aside0.mk ((by rw [hg]; exact Nat.ne_of_lt (blk_lt (g := gb102) (o := .cells #[.int .i64 a1_0, .slice A1_1 l1_1.length c1_1] 29 (0, 0)) (by (with_reducible repeat (first | refine blk_drewN ?_ _ | refine blk_drew ?_ | refine blk_alloc ?_ _)); exact BK102.out)) : gb102 ≠ gb104)); have n10_ := Aside0.mk ((by rw [hg]; exact Nat.ne_of_gt (blk_lt (g := gb102) (o := .cells #[.int .i64 a1_0, .slice A1_1 l1_1.length c1_1] 29 (0, 0)) (by (with_reducible repeat (first | refine blk_drewN ?_ _ | refine blk_drew ?_ | refine blk_alloc ?_ _)); exact BK102.out)) : gb104 ≠ gb102)); have n11_ := Aside0.mk ((by rw [hg]; exact Nat.ne_of_lt (blk_lt (g := gb103) (o := .cells #[.func (.func 71) #[] #[]] 65 (0, 0)) (by (with_reducible repeat (first | refine blk_drewN ?_ _ | refine blk_drew ?_ | refine blk_alloc ?_ _)); exact BK103.out)) : gb103 ≠ gb104)); have n12_ := Aside0.mk ((by rw [hg]; exact Nat.ne_of_gt (blk_lt (g := gb103) (o := .cells #[.func (.func 71) #[] #[]] 65 (0, 0)) (by (with_reducible repeat (first | refine blk_drewN ?_ _ | refine blk_drew ?_ | refine blk_alloc ?_ _)); exact BK103.out)) : gb104 ≠ gb103)); clear BK101; clear BK102; clear BK103; clear HB; have BK101 := n0_; have BK102 := n1_; have BK103 := n2_; have HB := n3_; have BK104 := n4_; have GW104 := n5_; have GE104 := n6_; have NB101_104 := n7_; have NB104_101 := n8_; have NB102_104 := n9_; have NB104_102 := n10_; have NB103_104 := n11_; have NB104_103 := n12_; clear n0_ n1_ n2_ n3_ n4_ n5_ n6_ n7_ n8_ n9_ n10_ n11_ n12_; clear hb hbox hg))
 (try simp only [Act.put, List.setIfInBounds_toArray, List.set_cons_zero, List.set_cons_succ])
 have H := HU4.out
 clear HU4
 have HC9 := Aside0.mk H
 clear H
 go_upto_region 1 with (fail)
 go_cut [26] (fun v26 wc => ∃ (kq : Nat) (x26_8 : Bool), v26 = .bool x26_8 ∧ Aside0 (impl_productOfS.j0 kq x26_8 a0_0 l0_1 a1_0 l1_1 a2 = some (r1, r2, r3)) ∧ Aside0 (kq ≤ k) ∧ Aside0 (wc.heap[gb101]? = some (.cells #[.int .i64 a0_0, (.slice A0_1 l0_1.length c0_1)] 29 (0, 0))) ∧ Aside0 (wc.heap[gb102]? = some (.cells #[.int .i64 a1_0, (.slice A1_1 l1_1.length c1_1)] 29 (0, 0))) ∧ Aside0 (wc.heap[gb103]? = some (.cells #[.func (.func 71) #[] #[]] 65 (0, 0))) ∧ Aside0 (wc.heap[gb104]? = some (.cells #[.int .i64 0, (.slice none 0 0)] 29 (0, 0))) ∧ Aside0 (Below w.heap.size w wc))
 case first =>
  have H := HC9.out
  clear HC9
  replace H := Option.bind_eq_some_iff.mp H
  obtain ⟨t105, A100, H⟩ := H
  replace H : (if t105 = true then ((impl_IsGraph.f k a1_0 l1_1).bind fun t106 => (if t106 = true then (impl_productOfS.j0 k (decide ((wrap64 (a0_0 * a1_0)) > 8)) a0_0 l0_1 a1_0 l1_1 a2) else (impl_productOfS.j0 k true a0_0 l0_1 a1_0 l1_1 a2))) else (impl_productOfS.j0 k true a0_0 l0_1 a1_0 l1_1 a2)) = some (r1, r2, r3) := H
  have A10 := Aside0.mk A100
  clear A100
  by_cases c11 : t105 = true
  ·subst c11
   have H1 : ((impl_IsGraph.f k a1_0 l1_1).bind fun t106 => (if t106 = true then (impl_productOfS.j0 k (decide ((wrap64 (a0_0 * a1_0)) > 8)) a0_0 l0_1 a1_0 l1_1 a2) else (impl_productOfS.j0 k true a0_0 l0_1 a1_0 l1_1 a2))) = some (r1, r2, r3) := by rw [if_pos rfl] at H; exact H
   clear H
   have H := H1
   clear H1
   replace H := Option.bind_eq_some_iff.mp H
   obtain ⟨t106, A120, H⟩ := H
   replace H : (if t106 = true then (impl_productOfS.j0 k (decide ((wrap64 (a0_0 * a1_0)) > 8)) a0_0 l0_1 a1_0 l1_1 a2) else (impl_productOfS.j0 k true a0_0 l0_1 a1_0 l1_1 a2)) = some (r1, r2, r3) := H
   have A12 := Aside0.mk A120
   clear A120
   by_cases c13 : t106 = true
   ·subst c13
    have H1 : (impl_productOfS.j0 k (decide ((wrap64 (a0_0 * a1_0)) > 8)) a0_0 l0_1 a1_0 l1_1 a2) = some (r1, r2, r3) := by rw [if_pos rfl] at H; exact H
    clear H
    have H := H1
    clear H1
    have H' := Aside0.mk H
    clear H
    have hnb14 := NB101_102.out
    have hnc14 := NB102_101.out
    have hnb15 := NB101_103.out
    have hnc15 := NB103_101.out
    have hnb16 := NB101_104.out
    have hnc16 := NB104_101.out
    have hcz17_0 : w8.cell? ⟨gb101, 0, none⟩ = some (.int .i64 a0_0) := (blk_cell BK101.out 0).trans rfl
    have hcz17_1 : w8.cell? ⟨gb101, 1, none⟩ = some (.slice A0_1 l0_1.length c0_1) := (blk_cell BK101.out 1).trans rfl
    have hfz17_0 := blk_frozen BK101.out 0
    have hfz17_1 := blk_frozen BK101.out 1
    go_wp2_with (first | ((with_reducible refine gate_callee (f := 31) rfl ?_); refine goesL_ (some 12) rfl rfl Try.func31 (by kernel_rfl) rfl #[.agg #[.int .i64 a0_0, .slice A0_1 l0_1.length c0_1]] rfl (by (try simp only [List.map_toArray, List.map_cons, List.map_nil]); first | done | rfl | (simp only [List.length_drop, List.length_take]; rfl)) ?_; (with_reducible refine (impl_IsGraph.calls k a0_0 _ _ l0_1 true _ ?side1 ?side2 A10.out).mono ?_); (case side1 => repeat (first | exact (Kd.C_below HR0_1.out HB.out) | (with_reducible refine Kd.C_alloc ?_ _) | (with_reducible refine Kd.C_drewN ?_ _) | (with_reducible refine Kd.C_drew ?_))); (case side2 => exact HC0_1.out); rintro e w18 ⟨rfl, hb⟩; refine ⟨_, rfl, ?_⟩; have n0_ := Aside0.mk (blk_below (g := gb101) (o := .cells #[.int .i64 a0_0, .slice A0_1 l0_1.length c0_1] 29 (0, 0)) (by (with_reducible repeat (first | refine blk_drewN ?_ _ | refine blk_drew ?_ | refine blk_alloc ?_ _)); exact BK101.out) hb); have n1_ := Aside0.mk (blk_below (g := gb102) (o := .cells #[.int .i64 a1_0, .slice A1_1 l1_1.length c1_1] 29 (0, 0)) (by (with_reducible repeat (first | refine blk_drewN ?_ _ | refine blk_drew ?_ | refine blk_alloc ?_ _)); exact BK102.out) hb); have n2_ := Aside0.mk (blk_below (g := gb103) (o := .cells #[.func (.func 71) #[] #[]] 65 (0, 0)) (by (with_reducible repeat (first | refine blk_drewN ?_ _ | refine blk_drew ?_ | refine blk_alloc ?_ _)); exact BK103.out) hb); have n3_ := Aside0.mk (blk_below (g := gb104) (o := .cells #[.int .i64 0, .slice none 0 0] 29 (0, 0)) (by (with_reducible repeat (first | refine blk_drewN ?_ _ | refine blk_drew ?_ | refine blk_alloc ?_ _)); exact BK104.out) hb); have n4_ := Aside0.mk (below_step (by repeat (first | (with_reducible first | exact HB.out | apply below_alloc | apply pw_below_drewN | apply below_drew1) | exact HB.out)) hb); clear BK101; clear BK102; clear BK103; clear BK104; clear HB; have BK101 := n0_; have BK102 := n1_; have BK103 := n2_; have BK104 := n3_; have HB := n4_; clear n0_ n1_ n2_ n3_ n4_; (try clear hb); (try clear hb2); (try clear hk); (try clear hi); have hnb19 := NB102_103.out; have hnc19 := NB103_102.out; have hnb20 := NB102_104.out; have hnc20 := NB104_102.out; have hcz21_0 : w18.cell? ⟨gb102, 0, none⟩ = some (.int .i64 a1_0) := (blk_cell BK102.out 0).trans rfl; have hcz21_1 : w18.cell? ⟨gb102, 1, none⟩ = some (.slice A1_1 l1_1.length c1_1) := (blk_cell BK102.out 1).trans rfl; have hfz21_0 := blk_frozen BK102.out 0; have hfz21_1 := blk_frozen BK102.out 1) | (go_at_call 31; (with_reducible refine (impl_IsGraph.calls k a1_0 _ _ l1_1 true _ ?side1 ?side2 A12.out).mono ?_); (case side1 => repeat (first | exact (Kd.C_below HR1_1.out HB.out) | (with_reducible refine Kd.C_alloc ?_ _) | (with_reducible refine Kd.C_drewN ?_ _) | (with_reducible refine Kd.C_drew ?_))); (case side2 => exact HC1_1.out); rintro e w22 ⟨rfl, hb⟩; have n0_ := Aside0.mk (blk_below (g := gb101) (o := .cells #[.int .i64 a0_0, .slice A0_1 l0_1.length c0_1] 29 (0, 0)) (by (with_reducible repeat (first | refine blk_drewN ?_ _ | refine blk_drew ?_ | refine blk_alloc ?_ _)); exact BK101.out) hb); have n1_ := Aside0.mk (blk_below (g := gb102) (o := .cells #[.int .i64 a1_0, .slice A1_1 l1_1.length c1_1] 29 (0, 0)) (by (with_reducible repeat (first | refine blk_drewN ?_ _ | refine blk_drew ?_ | refine blk_alloc ?_ _)); exact BK102.out) hb); have n2_ := Aside0.mk (blk_below (g := gb103) (o := .cells #[.func (.func 71) #[] #[]] 65 (0, 0)) (by (with_reducible repeat (first | refine blk_drewN ?_ _ | refine blk_drew ?_ | refine blk_alloc ?_ _)); exact BK103.out) hb); have n3_ := Aside0.mk (blk_below (g := gb104) (o := .cells #[.int .i64 0, .slice none 0 0] 29 (0, 0)) (by (with_reducible repeat (first | refine blk_drewN ?_ _ | refine blk_drew ?_ | refine blk_alloc ?_ _)); exact BK104.out) hb); have n4_ := Aside0.mk (below_step (by repeat (first | (with_reducible first | exact HB.out | apply below_alloc | apply pw_below_drewN | apply below_drew1) | exact HB.out)) hb); clear BK101; clear BK102; clear BK103; clear BK104; clear HB; have BK101 := n0_; have BK102 := n1_; have BK103 := n2_; have BK104 := n3_; have HB := n4_; clear n0_ n1_ n2_ n3_ n4_; (try clear hb); (try clear hb2); (try clear hk); (try clear hi); have hcz23_0 : w22.cell? ⟨gb101, 0, none⟩ = some (.int .i64 a0_0) := (blk_cell BK101.out 0).trans rfl; have hcz23_1 : w22.cell? ⟨gb101, 1, none⟩ = some (.slice A0_1 l0_1.length c0_1) := (blk_cell BK101.out 1).trans rfl; have hfz23_0 := blk_frozen BK101.out 0; have hfz23_1 := blk_frozen BK101.out 1; have hcz24_0 : w22.cell? ⟨gb102, 0, none⟩ = some (.int .i64 a1_0) := (blk_cell BK102.out 0).trans rfl; have hcz24_1 : w22.cell? ⟨gb102, 1, none⟩ = some (.slice A1_1 l1_1.length c1_1) := (blk_cell BK102.out 1).trans rfl; have hfz24_0 := blk_frozen BK102.out 0; have hfz24_1 := blk_frozen BK102.out 1))
    go_meet
    case rel => exact ⟨_, (decide ((wrap64 (a0_0 * a1_0)) > 8)), (by first | rfl | (simp; done) | (simp [*]; done)), H', ⟨by first | omega | exact Nat.le_refl _⟩, ⟨by (with_reducible repeat (first | refine blk_drewN ?_ _ | refine blk_drew ?_ | refine blk_alloc ?_ _)); exact BK101.out⟩, ⟨by (with_reducible repeat (first | refine blk_drewN ?_ _ | refine blk_drew ?_ | refine blk_alloc ?_ _)); exact BK102.out⟩, ⟨by (with_reducible repeat (first | refine blk_drewN ?_ _ | refine blk_drew ?_ | refine blk_alloc ?_ _)); exact BK103.out⟩, ⟨by (with_reducible repeat (first | refine blk_drewN ?_ _ | refine blk_drew ?_ | refine blk_alloc ?_ _)); exact BK104.out⟩, ⟨by repeat (first | (with_reducible first | exact HB.out | apply below_alloc | apply pw_below_drewN | apply below_drew1) | exact HB.out)⟩⟩
   ·replace c13 := Bool.eq_false_iff.mpr c13
    subst c13
    have H1 : (impl_productOfS.j0 k true a0_0 l0_1 a1_0 l1_1 a2) = some (r1, r2, r3) := by rw [if_neg (show ¬ (false = true) by decide)] at H; exact H
    clear H
    have H := H1
    clear H1
    have H' := Aside0.mk H
    clear H
    have hnb25 := NB101_102.out
    have hnc25 := NB102_101.out
    have hnb26 := NB101_103.out
    have hnc26 := NB103_101.out
    have hnb27 := NB101_104.out
    have hnc27 := NB104_101.out
    have hcz28_0 : w8.cell? ⟨gb101, 0, none⟩ = some (.int .i64 a0_0) := (blk_cell BK101.out 0).trans rfl
    have hcz28_1 : w8.cell? ⟨gb101, 1, none⟩ = some (.slice A0_1 l0_1.length c0_1) := (blk_cell BK101.out 1).trans rfl
    have hfz28_0 := blk_frozen BK101.out 0
    have hfz28_1 := blk_frozen BK101.out 1
    go_wp2_with (first | ((with_reducible refine gate_callee (f := 31) rfl ?_); refine goesL_ (some 12) rfl rfl Try.func31 (by kernel_rfl) rfl #[.agg #[.int .i64 a0_0, .slice A0_1 l0_1.length c0_1]] rfl (by (try simp only [List.map_toArray, List.map_cons, List.map_nil]); first | done | rfl | (simp only [List.length_drop, List.length_take]; rfl)) ?_; (with_reducible refine (impl_IsGraph.calls k a0_0 _ _ l0_1 true _ ?side1 ?side2 A10.out).mono ?_); (case side1 => repeat (first | exact (Kd.C_below HR0_1.out HB.out) | (with_reducible refine Kd.C_alloc ?_ _) | (with_reducible refine Kd.C_drewN ?_ _) | (with_reducible refine Kd.C_drew ?_))); (case side2 => exact HC0_1.out); rintro e w29 ⟨rfl, hb⟩; refine ⟨_, rfl, ?_⟩; have n0_ := Aside0.mk (blk_below (g := gb101) (o := .cells #[.int .i64 a0_0, .slice A0_1 l0_1.length c0_1] 29 (0, 0)) (by (with_reducible repeat (first | refine blk_drewN ?_ _ | refine blk_drew ?_ | refine blk_alloc ?_ _)); exact BK101.out) hb); have n1_ := Aside0.mk (blk_below (g := gb102) (o := .cells #[.int .i64 a1_0, .slice A1_1 l1_1.length c1_1] 29 (0, 0)) (by (with_reducible repeat (first | refine blk_drewN ?_ _ | refine blk_drew ?_ | refine blk_alloc ?_ _)); exact BK102.out) hb); have n2_ := Aside0.mk (blk_below (g := gb103) (o := .cells #[.func (.func 71) #[] #[]] 65 (0, 0)) (by (with_reducible repeat (first | refine blk_drewN ?_ _ | refine blk_drew ?_ | refine blk_alloc ?_ _)); exact BK103.out) hb); have n3_ := Aside0.mk (blk_below (g := gb104) (o := .cells #[.int .i64 0, .slice none 0 0] 29 (0, 0)) (by (with_reducible repeat (first | refine blk_drewN ?_ _ | refine blk_drew ?_ | refine blk_alloc ?_ _)); exact BK104.out) hb); have n4_ := Aside0.mk (below_step (by repeat (first | (with_reducible first | exact HB.out | apply below_alloc | apply pw_below_drewN | apply below_drew1) | exact HB.out)) hb); clear BK101; clear BK102; clear BK103; clear BK104; clear HB; have BK101 := n0_; have BK102 := n1_; have BK103 := n2_; have BK104 := n3_; have HB := n4_; clear n0_ n1_ n2_ n3_ n4_; (try clear hb); (try clear hb2); (try clear hk); (try clear hi); have hnb30 := NB102_103.out; have hnc30 := NB103_102.out; have hnb31 := NB102_104.out; have hnc31 := NB104_102.out; have hcz32_0 : w29.cell? ⟨gb102, 0, none⟩ = some (.int .i64 a1_0) := (blk_cell BK102.out 0).trans rfl; have hcz32_1 : w29.cell? ⟨gb102, 1, none⟩ = some (.slice A1_1 l1_1.length c1_1) := (blk_cell BK102.out 1).trans rfl; have hfz32_0 := blk_frozen BK102.out 0; have hfz32_1 := blk_frozen BK102.out 1) | (go_at_call 31; (with_reducible refine (impl_IsGraph.calls k a1_0 _ _ l1_1 false _ ?side1 ?side2 A12.out).mono ?_); (case side1 => repeat (first | exact (Kd.C_below HR1_1.out HB.out) | (with_reducible refine Kd.C_alloc ?_ _) | (with_reducible refine Kd.C_drewN ?_ _) | (with_reducible refine Kd.C_drew ?_))); (case side2 => exact HC1_1.out); rintro e w33 ⟨rfl, hb⟩; have n0_ := Aside0.mk (blk_below (g := gb101) (o := .cells #[.int .i64 a0_0, .slice A0_1 l0_1.length c0_1] 29 (0, 0)) (by (with_reducible repeat (first | refine blk_drewN ?_ _ | refine blk_drew ?_ | refine blk_alloc ?_ _)); exact BK101.out) hb); have n1_ := Aside0.mk (blk_below (g := gb102) (o := .cells #[.int .i64 a1_0, .slice A1_1 l1_1.length c1_1] 29 (0, 0)) (by (with_reducible repeat (first | refine blk_drewN ?_ _ | refine blk_drew ?_ | refine blk_alloc ?_ _)); exact BK102.out) hb); have n2_ := Aside0.mk (blk_below (g := gb103) (o := .cells #[.func (.func 71) #[] #[]] 65 (0, 0)) (by (with_reducible repeat (first | refine blk_drewN ?_ _ | refine blk_drew ?_ | refine blk_alloc ?_ _)); exact BK103.out) hb); have n3_ := Aside0.mk (blk_below (g := gb104) (o := .cells #[.int .i64 0, .slice none 0 0] 29 (0, 0)) (by (with_reducible repeat (first | refine blk_drewN ?_ _ | refine blk_drew ?_ | refine blk_alloc ?_ _)); exact BK104.out) hb); have n4_ := Aside0.mk (below_step (by repeat (first | (with_reducible first | exact HB.out | apply below_alloc | apply pw_below_drewN | apply below_drew1) | exact HB.out)) hb); clear BK101; clear BK102; clear BK103; clear BK104; clear HB; have BK101 := n0_; have BK102 := n1_; have BK103 := n2_; have BK104 := n3_; have HB := n4_; clear n0_ n1_ n2_ n3_ n4_; (try clear hb); (try clear hb2); (try clear hk); (try clear hi)))
    go_meet
    case rel => exact ⟨_, (true), (by first | rfl | (simp; done) | (simp [*]; done)), H', ⟨by first | omega | exact Nat.le_refl _⟩, ⟨by (with_reducible repeat (first | refine blk_drewN ?_ _ | refine blk_drew ?_ | refine blk_alloc ?_ _)); exact BK101.out⟩, ⟨by (with_reducible repeat (first | refine blk_drewN ?_ _ | refine blk_drew ?_ | refine blk_alloc ?_ _)); exact BK102.out⟩, ⟨by (with_reducible repeat (first | refine blk_drewN ?_ _ | refine blk_drew ?_ | refine blk_alloc ?_ _)); exact BK103.out⟩, ⟨by (with_reducible repeat (first | refine blk_drewN ?_ _ | refine blk_drew ?_ | refine blk_alloc ?_ _)); exact BK104.out⟩, ⟨by repeat (first | (with_reducible first | exact HB.out | apply below_alloc | apply pw_below_drewN | apply below_drew1) | exact HB.out)⟩⟩
  ·replace c11 := Bool.eq_false_iff.mpr c11
   subst c11
   have H1 : (impl_productOfS.j0 k true a0_0 l0_1 a1_0 l1_1 a2) = some (r1, r2, r3) := by rw [if_neg (show ¬ (false = true) by decide)] at H; exact H
   clear H
   have H := H1
   clear H1
   have H' := Aside0.mk H
   clear H
   have hnb34 := NB101_102.out
   have hnc34 := NB102_101.out
   have hnb35 := NB101_103.out
   have hnc35 := NB103_101.out
   have hnb36 := NB101_104.out
   have hnc36 := NB104_101.out
   have hcz37_0 : w8.cell? ⟨gb101, 0, none⟩ = some (.int .i64 a0_0) := (blk_cell BK101.out 0).trans rfl
   have hcz37_1 : w8.cell? ⟨gb101, 1, none⟩ = some (.slice A0_1 l0_1.length c0_1) := (blk_cell BK101.out 1).trans rfl
   have hfz37_0 := blk_frozen BK101.out 0
   have hfz37_1 := blk_frozen BK101.out 1
   go_wp2_with (first | ((with_reducible refine gate_callee (f := 31) rfl ?_); refine goesL_ (some 12) rfl rfl Try.func31 (by kernel_rfl) rfl #[.agg #[.int .i64 a0_0, .slice A0_1 l0_1.length c0_1]] rfl (by (try simp only [List.map_toArray, List.map_cons, List.map_nil]); first | done | rfl | (simp only [List.length_drop, List.length_take]; rfl)) ?_; (with_reducible refine (impl_IsGraph.calls k a0_0 _ _ l0_1 false _ ?side1 ?side2 A10.out).mono ?_); (case side1 => repeat (first | exact (Kd.C_below HR0_1.out HB.out) | (with_reducible refine Kd.C_alloc ?_ _) | (with_reducible refine Kd.C_drewN ?_ _) | (with_reducible refine Kd.C_drew ?_))); (case side2 => exact HC0_1.out); rintro e w38 ⟨rfl, hb⟩; refine ⟨_, rfl, ?_⟩; have n0_ := Aside0.mk (blk_below (g := gb101) (o := .cells #[.int .i64 a0_0, .slice A0_1 l0_1.length c0_1] 29 (0, 0)) (by (with_reducible repeat (first | refine blk_drewN ?_ _ | refine blk_drew ?_ | refine blk_alloc ?_ _)); exact BK101.out) hb); have n1_ := Aside0.mk (blk_below (g := gb102) (o := .cells #[.int .i64 a1_0, .slice A1_1 l1_1.length c1_1] 29 (0, 0)) (by (with_reducible repeat (first | refine blk_drewN ?_ _ | refine blk_drew ?_ | refine blk_alloc ?_ _)); exact BK102.out) hb); have n2_ := Aside0.mk (blk_below (g := gb103) (o := .cells #[.func (.func 71) #[] #[]] 65 (0, 0)) (by (with_reducible repeat (first | refine blk_drewN ?_ _ | refine blk_drew ?_ | refine blk_alloc ?_ _)); exact BK103.out) hb); have n3_ := Aside0.mk (blk_below (g := gb104) (o := .cells #[.int .i64 0, .slice none 0 0] 29 (0, 0)) (by (with_reducible repeat (first | refine blk_drewN ?_ _ | refine blk_drew ?_ | refine blk_alloc ?_ _)); exact BK104.out) hb); have n4_ := Aside0.mk (below_step (by repeat (first | (with_reducible first | exact HB.out | apply below_alloc | apply pw_below_drewN | apply below_drew1) | exact HB.out)) hb); clear BK101; clear BK102; clear BK103; clear BK104; clear HB; have BK101 := n0_; have BK102 := n1_; have BK103 := n2_; have BK104 := n3_; have HB := n4_; clear n0_ n1_ n2_ n3_ n4_; (try clear hb); (try clear hb2); (try clear hk); (try clear hi)))
   go_meet
   case rel => exact ⟨_, (true), (by first | rfl | (simp; done) | (simp [*]; done)), H', ⟨by first | omega | exact Nat.le_refl _⟩, ⟨by (with_reducible repeat (first | refine blk_drewN ?_ _ | refine blk_drew ?_ | refine blk_alloc ?_ _)); exact BK101.out⟩, ⟨by (with_reducible repeat (first | refine blk_drewN ?_ _ | refine blk_drew ?_ | refine blk_alloc ?_ _)); exact BK102.out⟩, ⟨by (with_reducible repeat (first | refine blk_drewN ?_ _ | refine blk_drew ?_ | refine blk_alloc ?_ _)); exact BK103.out⟩, ⟨by (with_reducible repeat (first | refine blk_drewN ?_ _ | refine blk_drew ?_ | refine blk_alloc ?_ _)); exact BK104.out⟩, ⟨by repeat (first | (with_reducible first | exact HB.out | apply below_alloc | apply pw_below_drewN | apply below_drew1) | exact HB.out)⟩⟩
 case rest =>
  clear HC9
  try clear c1
  try clear c2
  try clear p2
  try clear c3
  try clear c6
  try clear p6
  try clear c11
  try clear c13
  try clear c14
  try clear c15
  try clear c16
  try clear c19
  try clear c20
  try clear c25
  try clear c26
  try clear c27
  try clear c30
  try clear c31
  try clear c34
  try clear c35
  try clear c36
  try clear hcz17_0
  try clear hcz17_1
  try clear hcz21_0
  try clear hcz21_1
  try clear hcz23_0
  try clear hcz23_1
  try clear hcz24_0
  try clear hcz24_1
  try clear hcz28_0
  try clear hcz28_1
  try clear hcz32_0
  try clear hcz32_1
  try clear hcz37_0
  try clear hcz37_1
  try clear hfz17_0
  try clear hfz17_1
  try clear hfz21_0
  try clear hfz21_1
  try clear hfz23_0
  try clear hfz23_1
  try clear hfz24_0
  try clear hfz24_1
  try clear hfz28_0
  try clear hfz28_1
  try clear hfz32_0
  try clear hfz32_1
  try clear hfz37_0
  try clear hfz37_1
  obtain ⟨kq, x26_8, rfl, HA, HJ8, BK101, BK102, BK103, BK104, HB⟩ := hcut
  cases kq with
  | zero => exact absurd HA.out (by simp [impl_productOfS.j0])
  | succ kj8 =>
   have H := HA.out
   clear HA
   simp only [impl_productOfS.j0] at H
   by_cases c39 : x26_8 = true
   ·subst c39
    have H1 : (some (0, ([] : List (S57)), false)) = some (r1, r2, r3) := by rw [if_pos rfl] at H; exact H
    clear H
    have H := H1
    clear H1
    simp only [Option.some.injEq, Prod.mk.injEq] at H
    obtain ⟨rfl, rfl, rfl⟩ := H
    have hnb40 := NB104_101.out
    have hnc40 := NB101_104.out
    have hnb41 := NB104_102.out
    have hnc41 := NB102_104.out
    have hnb42 := NB104_103.out
    have hnc42 := NB103_104.out
    have hcz43_0 : wc.cell? ⟨gb104, 0, none⟩ = some (.int .i64 0) := (blk_cell BK104.out 0).trans rfl
    have hcz43_1 : wc.cell? ⟨gb104, 1, none⟩ = some (.slice none 0 0) := (blk_cell BK104.out 1).trans rfl
    have hfz43_0 := blk_frozen BK104.out 0
    have hfz43_1 := blk_frozen BK104.out 1
    go_wp2
    refine bodyPost_ret (results_ct rfl _ _ gb104 29 #[.int .i64 0, .slice none 0 0] (0, 0) _ rfl (by (with_reducible repeat (first | refine blk_drewN ?_ _ | refine blk_drew ?_ | refine blk_alloc ?_ _)); refine blk_put (cs := #[.int .i64 0, .slice none 0 0]) ?_ 1 _ rfl; (with_reducible repeat (first | refine blk_drewN ?_ _ | refine blk_drew ?_ | refine blk_alloc ?_ _)); refine blk_put (cs := #[.int .i64 0, .slice none 0 0]) ?_ 0 _ rfl; (with_reducible repeat (first | refine blk_drewN ?_ _ | refine blk_drew ?_ | refine blk_alloc ?_ _)); exact BK104.out) Try.underlying29 rfl (by kernel_rfl)) rfl ?_
    exact ⟨_, by first | rfl | (simp [errW_none, errW_some] <;> rfl) | (simp [*, errW_none, errW_some] <;> rfl), by first | exact Kd.R_nil _ _ _ _ _ | exact Kd.N_nil _ _ _ _ _ | exact Kd.V_nil _ _ _ _ _ | exact Kd.Q_nil _ _ _ _ _ | exact Kd.S_nil _ _ _ _ _, by repeat (first | (with_reducible first | exact HB.out | apply below_alloc | apply pw_below_drewN | apply below_drew1 | refine below_set ?_ GE104.out) | exact HB.out)⟩
   ·replace c39 := Bool.eq_false_iff.mpr c39
    subst c39
    have H1 : ((impl_netOf.f kj8 a0_0 l0_1).bind fun t107 => ((impl_netOf.f kj8 a1_0 l1_1).bind fun t110 => ((impl_graphBy_productS.f kj8 (wrap64 (a0_0 * a1_0)) a1_0 a2 t107 t110).bind fun bt116 => (some (bt116.1, bt116.2, true))))) = some (r1, r2, r3) := by rw [if_neg (show ¬ (false = true) by decide)] at H; exact H
    clear H
    have H := H1
    clear H1
    replace H := Option.bind_eq_some_iff.mp H
    obtain ⟨t107, A440, H⟩ := H
    replace H : ((impl_netOf.f kj8 a1_0 l1_1).bind fun t110 => ((impl_graphBy_productS.f kj8 (wrap64 (a0_0 * a1_0)) a1_0 a2 t107 t110).bind fun bt116 => (some (bt116.1, bt116.2, true)))) = some (r1, r2, r3) := H
    have A44 := Aside0.mk A440
    clear A440
    replace H := Option.bind_eq_some_iff.mp H
    obtain ⟨t110, A450, H⟩ := H
    replace H : ((impl_graphBy_productS.f kj8 (wrap64 (a0_0 * a1_0)) a1_0 a2 t107 t110).bind fun bt116 => (some (bt116.1, bt116.2, true))) = some (r1, r2, r3) := H
    have A45 := Aside0.mk A450
    clear A450
    replace H := Option.bind_eq_some_iff.mp H
    obtain ⟨⟨t116, t117⟩, A460, H⟩ := H
    replace H : (some (t116, t117, true)) = some (r1, r2, r3) := H
    have A46 := Aside0.mk A460
    clear A460
    simp only [Option.some.injEq, Prod.mk.injEq] at H
    obtain ⟨rfl, rfl, rfl⟩ := H
    try go_wp2
    replace BK101 := Aside0.mk (blk_drew BK101.out)
    replace BK102 := Aside0.mk (blk_drew BK102.out)
    replace BK103 := Aside0.mk (blk_drew BK103.out)
    replace BK104 := Aside0.mk (blk_drew BK104.out)
    replace HB := Aside0.mk (below_drew1 HB.out)
    refine start_ (n := 12) (S := fun w' => w'.cell? ⟨gb101, 0, none⟩ = some (.int .i64 a0_0) ∧ w'.cell? ⟨gb101, 1, none⟩ = some (.slice A0_1 l0_1.length c0_1) ∧ w'.cell? ⟨gb102, 0, none⟩ = some (.int .i64 a1_0) ∧ w'.cell? ⟨gb102, 1, none⟩ = some (.slice A1_1 l1_1.length c1_1)) (ds := []) #[false, false, false, false, false, false, false, false, false, false, false, false] (by kernel_rfl) rfl rfl ⟨(blk_cell BK101.out 0).trans rfl, (blk_cell BK101.out 1).trans rfl, (blk_cell BK102.out 0).trans rfl, (blk_cell BK102.out 1).trans rfl⟩ (fun hHeld => ?_); refine with_tabW impl_productOfS.tab3 impl_productOfS.bits3 (fun HT_ HW_ => ?_)
    generalize wc.drew = w47 at BK101 BK102 BK103 BK104 HB hHeld ⊢
    refine pure_ (i := 4) (N := some 32) (v := ?_) (a' := ?_) #[false, false, false, false, true, false, false, false, false, false, false, false] rfl rfl (any_of HT_.out (by kernel_rfl)) (fun _ _ _ h => h) (Or.inl ⟨by rfl, ?_⟩) ?_ ?_
    rotate_left
    ·intro w'
     go_simp
     with_reducible rfl
    rotate_left
    ·simp only [Act.put, List.setIfInBounds_toArray, List.set_cons_zero, List.set_cons_succ, i64_w, i32_w]
     rfl
    refine take_ (i := 0) (N := some 28) (v := ?_) (a' := ?_) #[true, false, false, false, true, false, false, false, false, false, false, false] rfl rfl (take_ofW HT_.out HW_.out (by kernel_rfl)) (fun _ _ _ h => h) (Or.inl ⟨by rfl, ?_⟩) hHeld ?_ ?_
    rotate_left
    ·rintro w' ⟨s0, s1, s2, s3⟩
     go_simp
     with_reducible rfl
    rotate_left
    ·simp only [Act.put, List.setIfInBounds_toArray, List.set_cons_zero, List.set_cons_succ, i64_w, i32_w]
     rfl
    refine take_ (i := 2) (N := some 30) (v := ?_) (a' := ?_) #[true, false, true, false, true, false, false, false, false, false, false, false] rfl rfl (take_ofW HT_.out HW_.out (by kernel_rfl)) (fun _ _ _ h => h) (Or.inl ⟨by rfl, ?_⟩) hHeld ?_ ?_
    rotate_left
    ·rintro w' ⟨s0, s1, s2, s3⟩
     go_simp
     with_reducible rfl
    rotate_left
    ·simp only [Act.put, List.setIfInBounds_toArray, List.set_cons_zero, List.set_cons_succ, i64_w, i32_w]
     rfl
    refine take_ (i := 5) (N := some 33) (v := ?_) (a' := ?_) #[true, false, true, false, true, true, false, false, false, false, false, false] rfl rfl (take_ofW HT_.out HW_.out (by kernel_rfl)) (fun _ _ _ h => h) (Or.inl ⟨by rfl, ?_⟩) hHeld ?_ ?_
    rotate_left
    ·rintro w' ⟨s0, s1, s2, s3⟩
     go_simp
     with_reducible rfl
    rotate_left
    ·simp only [Act.put, List.setIfInBounds_toArray, List.set_cons_zero, List.set_cons_succ, i64_w, i32_w]
     rfl
    refine join_ (σ := Value × Value × Nat × Nat × Nat) 3 #[true, true, true, true, true, true, true, true, true, false, false, false] (fun s_ => [(29, .agg #[s_.1]), (31, .agg #[s_.2.1]), (8, .pointer (some ⟨s_.2.2.1, 0, none⟩)), (9, .pointer (some ⟨s_.2.2.2.1, 0, none⟩)), (10, .pointer (some ⟨s_.2.2.2.2, 0, none⟩))]) (fun s_ w' => (w'.cell? ⟨gb101, 0, none⟩ = some (.int .i64 a0_0) ∧ w'.cell? ⟨gb101, 1, none⟩ = some (.slice A0_1 l0_1.length c0_1) ∧ w'.cell? ⟨gb102, 0, none⟩ = some (.int .i64 a1_0) ∧ w'.cell? ⟨gb102, 1, none⟩ = some (.slice A1_1 l1_1.length c1_1)) ∧ (Kd.R (Kd.int .i64) 3 w' w.heap.size (fun k_ => some k_ ≠ (s_.2.1 : Value).ownBlock ∧ k_ ≠ s_.2.2.2.2) s_.1 t107) ∧ (Kd.R (Kd.int .i64) 3 w' w.heap.size (fun k_ => some k_ ≠ (s_.1 : Value).ownBlock ∧ k_ ≠ s_.2.2.2.2) s_.2.1 t110) ∧ (w'.heap[gb101]? = some (.cells #[.int .i64 a0_0, .slice A0_1 l0_1.length c0_1] 29 (0, 0))) ∧ (w'.heap[gb102]? = some (.cells #[.int .i64 a1_0, .slice A1_1 l1_1.length c1_1] 29 (0, 0))) ∧ (w'.heap[gb103]? = some (.cells #[.func (.func 71) #[] #[]] 65 (0, 0))) ∧ (w'.heap[gb104]? = some (.cells #[.int .i64 0, .slice none 0 0] 29 (0, 0))) ∧ (w'.heap[s_.2.2.1]? = some (.cells #[.slice none 0 0] 61 (0, 0))) ∧ (w'.heap[s_.2.2.2.1]? = some (.cells #[.slice none 0 0] 61 (0, 0))) ∧ (w'.heap[s_.2.2.2.2]? = some (.cells #[.int .i64 0] 3 (0, 0))) ∧ (w.heap.size ≤ s_.2.2.1) ∧ (w.heap.size ≤ s_.2.2.1) ∧ (gb101 ≠ s_.2.2.1) ∧ (s_.2.2.1 ≠ gb101) ∧ (gb102 ≠ s_.2.2.1) ∧ (s_.2.2.1 ≠ gb102) ∧ (gb103 ≠ s_.2.2.1) ∧ (s_.2.2.1 ≠ gb103) ∧ (gb104 ≠ s_.2.2.1) ∧ (s_.2.2.1 ≠ gb104) ∧ (s_.2.2.2.1 ≠ s_.2.2.1) ∧ (s_.2.2.1 ≠ s_.2.2.2.1) ∧ (s_.2.2.2.2 ≠ s_.2.2.1) ∧ (s_.2.2.1 ≠ s_.2.2.2.2) ∧ (w.heap.size ≤ s_.2.2.2.1) ∧ (w.heap.size ≤ s_.2.2.2.1) ∧ (gb101 ≠ s_.2.2.2.1) ∧ (s_.2.2.2.1 ≠ gb101) ∧ (gb102 ≠ s_.2.2.2.1) ∧ (s_.2.2.2.1 ≠ gb102) ∧ (gb103 ≠ s_.2.2.2.1) ∧ (s_.2.2.2.1 ≠ gb103) ∧ (gb104 ≠ s_.2.2.2.1) ∧ (s_.2.2.2.1 ≠ gb104) ∧ (s_.2.2.2.2 ≠ s_.2.2.2.1) ∧ (s_.2.2.2.1 ≠ s_.2.2.2.2) ∧ (w.heap.size ≤ s_.2.2.2.2) ∧ (w.heap.size ≤ s_.2.2.2.2) ∧ (gb101 ≠ s_.2.2.2.2) ∧ (s_.2.2.2.2 ≠ gb101) ∧ (gb102 ≠ s_.2.2.2.2) ∧ (s_.2.2.2.2 ≠ gb102) ∧ (gb103 ≠ s_.2.2.2.2) ∧ (s_.2.2.2.2 ≠ gb103) ∧ (gb104 ≠ s_.2.2.2.2) ∧ (s_.2.2.2.2 ≠ gb104) ∧ (Below w.heap.size w w')) ?_ ?_
    rotate_left
    intro hJ1_3_6_7_8
    refine join_ (σ := Value × Value × Nat × Nat) 4 #[true, true, true, true, true, true, true, true, false, false, false, false] (fun s_ => [(29, .agg #[s_.1]), (31, .agg #[s_.2.1]), (8, .pointer (some ⟨s_.2.2.1, 0, none⟩)), (9, .pointer (some ⟨s_.2.2.2, 0, none⟩))]) (fun s_ w' => (w'.cell? ⟨gb101, 0, none⟩ = some (.int .i64 a0_0) ∧ w'.cell? ⟨gb101, 1, none⟩ = some (.slice A0_1 l0_1.length c0_1) ∧ w'.cell? ⟨gb102, 0, none⟩ = some (.int .i64 a1_0) ∧ w'.cell? ⟨gb102, 1, none⟩ = some (.slice A1_1 l1_1.length c1_1)) ∧ (Kd.R (Kd.int .i64) 3 w' w.heap.size (fun k_ => some k_ ≠ (s_.2.1 : Value).ownBlock) s_.1 t107) ∧ (Kd.R (Kd.int .i64) 3 w' w.heap.size (fun k_ => some k_ ≠ (s_.1 : Value).ownBlock) s_.2.1 t110) ∧ (w'.heap[gb101]? = some (.cells #[.int .i64 a0_0, .slice A0_1 l0_1.length c0_1] 29 (0, 0))) ∧ (w'.heap[gb102]? = some (.cells #[.int .i64 a1_0, .slice A1_1 l1_1.length c1_1] 29 (0, 0))) ∧ (w'.heap[gb103]? = some (.cells #[.func (.func 71) #[] #[]] 65 (0, 0))) ∧ (w'.heap[gb104]? = some (.cells #[.int .i64 0, .slice none 0 0] 29 (0, 0))) ∧ (w'.heap[s_.2.2.1]? = some (.cells #[.slice none 0 0] 61 (0, 0))) ∧ (w'.heap[s_.2.2.2]? = some (.cells #[.slice none 0 0] 61 (0, 0))) ∧ (w.heap.size ≤ s_.2.2.1) ∧ (w.heap.size ≤ s_.2.2.1) ∧ (gb101 ≠ s_.2.2.1) ∧ (s_.2.2.1 ≠ gb101) ∧ (gb102 ≠ s_.2.2.1) ∧ (s_.2.2.1 ≠ gb102) ∧ (gb103 ≠ s_.2.2.1) ∧ (s_.2.2.1 ≠ gb103) ∧ (gb104 ≠ s_.2.2.1) ∧ (s_.2.2.1 ≠ gb104) ∧ (s_.2.2.2 ≠ s_.2.2.1) ∧ (s_.2.2.1 ≠ s_.2.2.2) ∧ (w.heap.size ≤ s_.2.2.2) ∧ (w.heap.size ≤ s_.2.2.2) ∧ (gb101 ≠ s_.2.2.2) ∧ (s_.2.2.2 ≠ gb101) ∧ (gb102 ≠ s_.2.2.2) ∧ (s_.2.2.2 ≠ gb102) ∧ (gb103 ≠ s_.2.2.2) ∧ (s_.2.2.2 ≠ gb103) ∧ (gb104 ≠ s_.2.2.2) ∧ (s_.2.2.2 ≠ gb104) ∧ (Below w.heap.size w w')) ?_ ?_
    rotate_left
    intro hJ1_3_6_7
    refine join_ (σ := Value × Value × Nat × Nat) 4 #[true, true, true, true, true, true, true, false, true, false, false, false] (fun s_ => [(29, .agg #[s_.1]), (31, .agg #[s_.2.1]), (8, .pointer (some ⟨s_.2.2.1, 0, none⟩)), (10, .pointer (some ⟨s_.2.2.2, 0, none⟩))]) (fun s_ w' => (w'.cell? ⟨gb101, 0, none⟩ = some (.int .i64 a0_0) ∧ w'.cell? ⟨gb101, 1, none⟩ = some (.slice A0_1 l0_1.length c0_1) ∧ w'.cell? ⟨gb102, 0, none⟩ = some (.int .i64 a1_0) ∧ w'.cell? ⟨gb102, 1, none⟩ = some (.slice A1_1 l1_1.length c1_1)) ∧ (Kd.R (Kd.int .i64) 3 w' w.heap.size (fun k_ => some k_ ≠ (s_.2.1 : Value).ownBlock ∧ k_ ≠ s_.2.2.2) s_.1 t107) ∧ (Kd.R (Kd.int .i64) 3 w' w.heap.size (fun k_ => some k_ ≠ (s_.1 : Value).ownBlock ∧ k_ ≠ s_.2.2.2) s_.2.1 t110) ∧ (w'.heap[gb101]? = some (.cells #[.int .i64 a0_0, .slice A0_1 l0_1.length c0_1] 29 (0, 0))) ∧ (w'.heap[gb102]? = some (.cells #[.int .i64 a1_0, .slice A1_1 l1_1.length c1_1] 29 (0, 0))) ∧ (w'.heap[gb103]? = some (.cells #[.func (.func 71) #[] #[]] 65 (0, 0))) ∧ (w'.heap[gb104]? = some (.cells #[.int .i64 0, .slice none 0 0] 29 (0, 0))) ∧ (w'.heap[s_.2.2.1]? = some (.cells #[.slice none 0 0] 61 (0, 0))) ∧ (w'.heap[s_.2.2.2]? = some (.cells #[.int .i64 0] 3 (0, 0))) ∧ (w.heap.size ≤ s_.2.2.1) ∧ (w.heap.size ≤ s_.2.2.1) ∧ (gb101 ≠ s_.2.2.1) ∧ (s_.2.2.1 ≠ gb101) ∧ (gb102 ≠ s_.2.2.1) ∧ (s_.2.2.1 ≠ gb102) ∧ (gb103 ≠ s_.2.2.1) ∧ (s_.2.2.1 ≠ gb103) ∧ (gb104 ≠ s_.2.2.1) ∧ (s_.2.2.1 ≠ gb104) ∧ (s_.2.2.2 ≠ s_.2.2.1) ∧ (s_.2.2.1 ≠ s_.2.2.2) ∧ (w.heap.size ≤ s_.2.2.2) ∧ (w.heap.size ≤ s_.2.2.2) ∧ (gb101 ≠ s_.2.2.2) ∧ (s_.2.2.2 ≠ gb101) ∧ (gb102 ≠ s_.2.2.2) ∧ (s_.2.2.2 ≠ gb102) ∧ (gb103 ≠ s_.2.2.2) ∧ (s_.2.2.2 ≠ gb103) ∧ (gb104 ≠ s_.2.2.2) ∧ (s_.2.2.2 ≠ gb104) ∧ (Below w.heap.size w w')) ?_ ?_
    rotate_left
    intro hJ1_3_6_8
    refine join_ (σ := Value × Value × Nat × Nat) 4 #[true, true, true, true, true, true, false, true, true, false, false, false] (fun s_ => [(29, .agg #[s_.1]), (31, .agg #[s_.2.1]), (9, .pointer (some ⟨s_.2.2.1, 0, none⟩)), (10, .pointer (some ⟨s_.2.2.2, 0, none⟩))]) (fun s_ w' => (w'.cell? ⟨gb101, 0, none⟩ = some (.int .i64 a0_0) ∧ w'.cell? ⟨gb101, 1, none⟩ = some (.slice A0_1 l0_1.length c0_1) ∧ w'.cell? ⟨gb102, 0, none⟩ = some (.int .i64 a1_0) ∧ w'.cell? ⟨gb102, 1, none⟩ = some (.slice A1_1 l1_1.length c1_1)) ∧ (Kd.R (Kd.int .i64) 3 w' w.heap.size (fun k_ => some k_ ≠ (s_.2.1 : Value).ownBlock ∧ k_ ≠ s_.2.2.2) s_.1 t107) ∧ (Kd.R (Kd.int .i64) 3 w' w.heap.size (fun k_ => some k_ ≠ (s_.1 : Value).ownBlock ∧ k_ ≠ s_.2.2.2) s_.2.1 t110) ∧ (w'.heap[gb101]? = some (.cells #[.int .i64 a0_0, .slice A0_1 l0_1.length c0_1] 29 (0, 0))) ∧ (w'.heap[gb102]? = some (.cells #[.int .i64 a1_0, .slice A1_1 l1_1.length c1_1] 29 (0, 0))) ∧ (w'.heap[gb103]? = some (.cells #[.func (.func 71) #[] #[]] 65 (0, 0))) ∧ (w'.heap[gb104]? = some (.cells #[.int .i64 0, .slice none 0 0] 29 (0, 0))) ∧ (w'.heap[s_.2.2.1]? = some (.cells #[.slice none 0 0] 61 (0, 0))) ∧ (w'.heap[s_.2.2.2]? = some (.cells #[.int .i64 0] 3 (0, 0))) ∧ (w.heap.size ≤ s_.2.2.1) ∧ (w.heap.size ≤ s_.2.2.1) ∧ (gb101 ≠ s_.2.2.1) ∧ (s_.2.2.1 ≠ gb101) ∧ (gb102 ≠ s_.2.2.1) ∧ (s_.2.2.1 ≠ gb102) ∧ (gb103 ≠ s_.2.2.1) ∧ (s_.2.2.1 ≠ gb103) ∧ (gb104 ≠ s_.2.2.1) ∧ (s_.2.2.1 ≠ gb104) ∧ (s_.2.2.2 ≠ s_.2.2.1) ∧ (s_.2.2.1 ≠ s_.2.2.2) ∧ (w.heap.size ≤ s_.2.2.2) ∧ (w.heap.size ≤ s_.2.2.2) ∧ (gb101 ≠ s_.2.2.2) ∧ (s_.2.2.2 ≠ gb101) ∧ (gb102 ≠ s_.2.2.2) ∧ (s_.2.2.2 ≠ gb102) ∧ (gb103 ≠ s_.2.2.2) ∧ (s_.2.2.2 ≠ gb103) ∧ (gb104 ≠ s_.2.2.2) ∧ (s_.2.2.2 ≠ gb104) ∧ (Below w.heap.size w w')) ?_ ?_
    rotate_left
    intro hJ1_3_7_8
    refine join_ (σ := Value × Nat × Nat × Nat) 4 #[true, true, true, false, true, true, true, true, true, false, false, false] (fun s_ => [(29, .agg #[s_.1]), (8, .pointer (some ⟨s_.2.1, 0, none⟩)), (9, .pointer (some ⟨s_.2.2.1, 0, none⟩)), (10, .pointer (some ⟨s_.2.2.2, 0, none⟩))]) (fun s_ w' => (w'.cell? ⟨gb101, 0, none⟩ = some (.int .i64 a0_0) ∧ w'.cell? ⟨gb101, 1, none⟩ = some (.slice A0_1 l0_1.length c0_1) ∧ w'.cell? ⟨gb102, 0, none⟩ = some (.int .i64 a1_0) ∧ w'.cell? ⟨gb102, 1, none⟩ = some (.slice A1_1 l1_1.length c1_1)) ∧ (Kd.R (Kd.int .i64) 3 w' w.heap.size (fun k_ => k_ ≠ s_.2.2.2) s_.1 t107) ∧ (w'.heap[gb101]? = some (.cells #[.int .i64 a0_0, .slice A0_1 l0_1.length c0_1] 29 (0, 0))) ∧ (w'.heap[gb102]? = some (.cells #[.int .i64 a1_0, .slice A1_1 l1_1.length c1_1] 29 (0, 0))) ∧ (w'.heap[gb103]? = some (.cells #[.func (.func 71) #[] #[]] 65 (0, 0))) ∧ (w'.heap[gb104]? = some (.cells #[.int .i64 0, .slice none 0 0] 29 (0, 0))) ∧ (w'.heap[s_.2.1]? = some (.cells #[.slice none 0 0] 61 (0, 0))) ∧ (w'.heap[s_.2.2.1]? = some (.cells #[.slice none 0 0] 61 (0, 0))) ∧ (w'.heap[s_.2.2.2]? = some (.cells #[.int .i64 0] 3 (0, 0))) ∧ (w.heap.size ≤ s_.2.1) ∧ (w.heap.size ≤ s_.2.1) ∧ (gb101 ≠ s_.2.1) ∧ (s_.2.1 ≠ gb101) ∧ (gb102 ≠ s_.2.1) ∧ (s_.2.1 ≠ gb102) ∧ (gb103 ≠ s_.2.1) ∧ (s_.2.1 ≠ gb103) ∧ (gb104 ≠ s_.2.1) ∧ (s_.2.1 ≠ gb104) ∧ (s_.2.2.1 ≠ s_.2.1) ∧ (s_.2.1 ≠ s_.2.2.1) ∧ (s_.2.2.2 ≠ s_.2.1) ∧ (s_.2.1 ≠ s_.2.2.2) ∧ (w.heap.size ≤ s_.2.2.1) ∧ (w.heap.size ≤ s_.2.2.1) ∧ (gb101 ≠ s_.2.2.1) ∧ (s_.2.2.1 ≠ gb101) ∧ (gb102 ≠ s_.2.2.1) ∧ (s_.2.2.1 ≠ gb102) ∧ (gb103 ≠ s_.2.2.1) ∧ (s_.2.2.1 ≠ gb103) ∧ (gb104 ≠ s_.2.2.1) ∧ (s_.2.2.1 ≠ gb104) ∧ (s_.2.2.2 ≠ s_.2.2.1) ∧ (s_.2.2.1 ≠ s_.2.2.2) ∧ (w.heap.size ≤ s_.2.2.2) ∧ (w.heap.size ≤ s_.2.2.2) ∧ (gb101 ≠ s_.2.2.2) ∧ (s_.2.2.2 ≠ gb101) ∧ (gb102 ≠ s_.2.2.2) ∧ (s_.2.2.2 ≠ gb102) ∧ (gb103 ≠ s_.2.2.2) ∧ (s_.2.2.2 ≠ gb103) ∧ (gb104 ≠ s_.2.2.2) ∧ (s_.2.2.2 ≠ gb104) ∧ (Below w.heap.size w w')) ?_ ?_
    rotate_left
    intro hJ1_6_7_8
    refine join_ (σ := Value × Value × Nat) 5 #[true, true, true, true, true, true, true, false, false, false, false, false] (fun s_ => [(29, .agg #[s_.1]), (31, .agg #[s_.2.1]), (8, .pointer (some ⟨s_.2.2, 0, none⟩))]) (fun s_ w' => (w'.cell? ⟨gb101, 0, none⟩ = some (.int .i64 a0_0) ∧ w'.cell? ⟨gb101, 1, none⟩ = some (.slice A0_1 l0_1.length c0_1) ∧ w'.cell? ⟨gb102, 0, none⟩ = some (.int .i64 a1_0) ∧ w'.cell? ⟨gb102, 1, none⟩ = some (.slice A1_1 l1_1.length c1_1)) ∧ (Kd.R (Kd.int .i64) 3 w' w.heap.size (fun k_ => some k_ ≠ (s_.2.1 : Value).ownBlock) s_.1 t107) ∧ (Kd.R (Kd.int .i64) 3 w' w.heap.size (fun k_ => some k_ ≠ (s_.1 : Value).ownBlock) s_.2.1 t110) ∧ (w'.heap[gb101]? = some (.cells #[.int .i64 a0_0, .slice A0_1 l0_1.length c0_1] 29 (0, 0))) ∧ (w'.heap[gb102]? = some (.cells #[.int .i64 a1_0, .slice A1_1 l1_1.length c1_1] 29 (0, 0))) ∧ (w'.heap[gb103]? = some (.cells #[.func (.func 71) #[] #[]] 65 (0, 0))) ∧ (w'.heap[gb104]? = some (.cells #[.int .i64 0, .slice none 0 0] 29 (0, 0))) ∧ (w'.heap[s_.2.2]? = some (.cells #[.slice none 0 0] 61 (0, 0))) ∧ (w.heap.size ≤ s_.2.2) ∧ (w.heap.size ≤ s_.2.2) ∧ (gb101 ≠ s_.2.2) ∧ (s_.2.2 ≠ gb101) ∧ (gb102 ≠ s_.2.2) ∧ (s_.2.2 ≠ gb102) ∧ (gb103 ≠ s_.2.2) ∧ (s_.2.2 ≠ gb103) ∧ (gb104 ≠ s_.2.2) ∧ (s_.2.2 ≠ gb104) ∧ (Below w.heap.size w w')) ?_ ?_
    rotate_left
    intro hJ1_3_6
    refine join_ (σ := Value × Value × Nat) 5 #[true, true, true, true, true, true, false, true, false, false, false, false] (fun s_ => [(29, .agg #[s_.1]), (31, .agg #[s_.2.1]), (9, .pointer (some ⟨s_.2.2, 0, none⟩))]) (fun s_ w' => (w'.cell? ⟨gb101, 0, none⟩ = some (.int .i64 a0_0) ∧ w'.cell? ⟨gb101, 1, none⟩ = some (.slice A0_1 l0_1.length c0_1) ∧ w'.cell? ⟨gb102, 0, none⟩ = some (.int .i64 a1_0) ∧ w'.cell? ⟨gb102, 1, none⟩ = some (.slice A1_1 l1_1.length c1_1)) ∧ (Kd.R (Kd.int .i64) 3 w' w.heap.size (fun k_ => some k_ ≠ (s_.2.1 : Value).ownBlock) s_.1 t107) ∧ (Kd.R (Kd.int .i64) 3 w' w.heap.size (fun k_ => some k_ ≠ (s_.1 : Value).ownBlock) s_.2.1 t110) ∧ (w'.heap[gb101]? = some (.cells #[.int .i64 a0_0, .slice A0_1 l0_1.length c0_1] 29 (0, 0))) ∧ (w'.heap[gb102]? = some (.cells #[.int .i64 a1_0, .slice A1_1 l1_1.length c1_1] 29 (0, 0))) ∧ (w'.heap[gb103]? = some (.cells #[.func (.func 71) #[] #[]] 65 (0, 0))) ∧ (w'.heap[gb104]? = some (.cells #[.int .i64 0, .slice none 0 0] 29 (0, 0))) ∧ (w'.heap[s_.2.2]? = some (.cells #[.slice none 0 0] 61 (0, 0))) ∧ (w.heap.size ≤ s_.2.2) ∧ (w.heap.size ≤ s_.2.2) ∧ (gb101 ≠ s_.2.2) ∧ (s_.2.2 ≠ gb101) ∧ (gb102 ≠ s_.2.2) ∧ (s_.2.2 ≠ gb102) ∧ (gb103 ≠ s_.2.2) ∧ (s_.2.2 ≠ gb103) ∧ (gb104 ≠ s_.2.2) ∧ (s_.2.2 ≠ gb104) ∧ (Below w.heap.size w w')) ?_ ?_
    rotate_left
    intro hJ1_3_7
    refine join_ (σ := Value × Value × Nat) 5 #[true, true, true, true, true, true, false, false, true, false, false, false] (fun s_ => [(29, .agg #[s_.1]), (31, .agg #[s_.2.1]), (10, .pointer (some ⟨s_.2.2, 0, none⟩))]) (fun s_ w' => (w'.cell? ⟨gb101, 0, none⟩ = some (.int .i64 a0_0) ∧ w'.cell? ⟨gb101, 1, none⟩ = some (.slice A0_1 l0_1.length c0_1) ∧ w'.cell? ⟨gb102, 0, none⟩ = some (.int .i64 a1_0) ∧ w'.cell? ⟨gb102, 1, none⟩ = some (.slice A1_1 l1_1.length c1_1)) ∧ (Kd.R (Kd.int .i64) 3 w' w.heap.size (fun k_ => some k_ ≠ (s_.2.1 : Value).ownBlock ∧ k_ ≠ s_.2.2) s_.1 t107) ∧ (Kd.R (Kd.int .i64) 3 w' w.heap.size (fun k_ => some k_ ≠ (s_.1 : Value).ownBlock ∧ k_ ≠ s_.2.2) s_.2.1 t110) ∧ (w'.heap[gb101]? = some (.cells #[.int .i64 a0_0, .slice A0_1 l0_1.length c0_1] 29 (0, 0))) ∧ (w'.heap[gb102]? = some (.cells #[.int .i64 a1_0, .slice A1_1 l1_1.length c1_1] 29 (0, 0))) ∧ (w'.heap[gb103]? = some (.cells #[.func (.func 71) #[] #[]] 65 (0, 0))) ∧ (w'.heap[gb104]? = some (.cells #[.int .i64 0, .slice none 0 0] 29 (0, 0))) ∧ (w'.heap[s_.2.2]? = some (.cells #[.int .i64 0] 3 (0, 0))) ∧ (w.heap.size ≤ s_.2.2) ∧ (w.heap.size ≤ s_.2.2) ∧ (gb101 ≠ s_.2.2) ∧ (s_.2.2 ≠ gb101) ∧ (gb102 ≠ s_.2.2) ∧ (s_.2.2 ≠ gb102) ∧ (gb103 ≠ s_.2.2) ∧ (s_.2.2 ≠ gb103) ∧ (gb104 ≠ s_.2.2) ∧ (s_.2.2 ≠ gb104) ∧ (Below w.heap.size w w')) ?_ ?_
    rotate_left
    intro hJ1_3_8
    refine join_ (σ := Value × Nat × Nat) 5 #[true, true, true, false, true, true, true, true, false, false, false, false] (fun s_ => [(29, .agg #[s_.1]), (8, .pointer (some ⟨s_.2.1, 0, none⟩)), (9, .pointer (some ⟨s_.2.2, 0, none⟩))]) (fun s_ w' => (w'.cell? ⟨gb101, 0, none⟩ = some (.int .i64 a0_0) ∧ w'.cell? ⟨gb101, 1, none⟩ = some (.slice A0_1 l0_1.length c0_1) ∧ w'.cell? ⟨gb102, 0, none⟩ = some (.int .i64 a1_0) ∧ w'.cell? ⟨gb102, 1, none⟩ = some (.slice A1_1 l1_1.length c1_1)) ∧ (Kd.R (Kd.int .i64) 3 w' w.heap.size (fun _ => True) s_.1 t107) ∧ (w'.heap[gb101]? = some (.cells #[.int .i64 a0_0, .slice A0_1 l0_1.length c0_1] 29 (0, 0))) ∧ (w'.heap[gb102]? = some (.cells #[.int .i64 a1_0, .slice A1_1 l1_1.length c1_1] 29 (0, 0))) ∧ (w'.heap[gb103]? = some (.cells #[.func (.func 71) #[] #[]] 65 (0, 0))) ∧ (w'.heap[gb104]? = some (.cells #[.int .i64 0, .slice none 0 0] 29 (0, 0))) ∧ (w'.heap[s_.2.1]? = some (.cells #[.slice none 0 0] 61 (0, 0))) ∧ (w'.heap[s_.2.2]? = some (.cells #[.slice none 0 0] 61 (0, 0))) ∧ (w.heap.size ≤ s_.2.1) ∧ (w.heap.size ≤ s_.2.1) ∧ (gb101 ≠ s_.2.1) ∧ (s_.2.1 ≠ gb101) ∧ (gb102 ≠ s_.2.1) ∧ (s_.2.1 ≠ gb102) ∧ (gb103 ≠ s_.2.1) ∧ (s_.2.1 ≠ gb103) ∧ (gb104 ≠ s_.2.1) ∧ (s_.2.1 ≠ gb104) ∧ (s_.2.2 ≠ s_.2.1) ∧ (s_.2.1 ≠ s_.2.2) ∧ (w.heap.size ≤ s_.2.2) ∧ (w.heap.size ≤ s_.2.2) ∧ (gb101 ≠ s_.2.2) ∧ (s_.2.2 ≠ gb101) ∧ (gb102 ≠ s_.2.2) ∧ (s_.2.2 ≠ gb102) ∧ (gb103 ≠ s_.2.2) ∧ (s_.2.2 ≠ gb103) ∧ (gb104 ≠ s_.2.2) ∧ (s_.2.2 ≠ gb104) ∧ (Below w.heap.size w w')) ?_ ?_
    rotate_left
    intro hJ1_6_7
    refine join_ (σ := Value × Nat × Nat) 5 #[true, true, true, false, true, true, true, false, true, false, false, false] (fun s_ => [(29, .agg #[s_.1]), (8, .pointer (some ⟨s_.2.1, 0, none⟩)), (10, .pointer (some ⟨s_.2.2, 0, none⟩))]) (fun s_ w' => (w'.cell? ⟨gb101, 0, none⟩ = some (.int .i64 a0_0) ∧ w'.cell? ⟨gb101, 1, none⟩ = some (.slice A0_1 l0_1.length c0_1) ∧ w'.cell? ⟨gb102, 0, none⟩ = some (.int .i64 a1_0) ∧ w'.cell? ⟨gb102, 1, none⟩ = some (.slice A1_1 l1_1.length c1_1)) ∧ (Kd.R (Kd.int .i64) 3 w' w.heap.size (fun k_ => k_ ≠ s_.2.2) s_.1 t107) ∧ (w'.heap[gb101]? = some (.cells #[.int .i64 a0_0, .slice A0_1 l0_1.length c0_1] 29 (0, 0))) ∧ (w'.heap[gb102]? = some (.cells #[.int .i64 a1_0, .slice A1_1 l1_1.length c1_1] 29 (0, 0))) ∧ (w'.heap[gb103]? = some (.cells #[.func (.func 71) #[] #[]] 65 (0, 0))) ∧ (w'.heap[gb104]? = some (.cells #[.int .i64 0, .slice none 0 0] 29 (0, 0))) ∧ (w'.heap[s_.2.1]? = some (.cells #[.slice none 0 0] 61 (0, 0))) ∧ (w'.heap[s_.2.2]? = some (.cells #[.int .i64 0] 3 (0, 0))) ∧ (w.heap.size ≤ s_.2.1) ∧ (w.heap.size ≤ s_.2.1) ∧ (gb101 ≠ s_.2.1) ∧ (s_.2.1 ≠ gb101) ∧ (gb102 ≠ s_.2.1) ∧ (s_.2.1 ≠ gb102) ∧ (gb103 ≠ s_.2.1) ∧ (s_.2.1 ≠ gb103) ∧ (gb104 ≠ s_.2.1) ∧ (s_.2.1 ≠ gb104) ∧ (s_.2.2 ≠ s_.2.1) ∧ (s_.2.1 ≠ s_.2.2) ∧ (w.heap.size ≤ s_.2.2) ∧ (w.heap.size ≤ s_.2.2) ∧ (gb101 ≠ s_.2.2) ∧ (s_.2.2 ≠ gb101) ∧ (gb102 ≠ s_.2.2) ∧ (s_.2.2 ≠ gb102) ∧ (gb103 ≠ s_.2.2) ∧ (s_.2.2 ≠ gb103) ∧ (gb104 ≠ s_.2.2) ∧ (s_.2.2 ≠ gb104) ∧ (Below w.heap.size w w')) ?_ ?_
    rotate_left
    intro hJ1_6_8
    refine join_ (σ := Value × Nat × Nat) 5 #[true, true, true, false, true, true, false, true, true, false, false, false] (fun s_ => [(29, .agg #[s_.1]), (9, .pointer (some ⟨s_.2.1, 0, none⟩)), (10, .pointer (some ⟨s_.2.2, 0, none⟩))]) (fun s_ w' => (w'.cell? ⟨gb101, 0, none⟩ = some (.int .i64 a0_0) ∧ w'.cell? ⟨gb101, 1, none⟩ = some (.slice A0_1 l0_1.length c0_1) ∧ w'.cell? ⟨gb102, 0, none⟩ = some (.int .i64 a1_0) ∧ w'.cell? ⟨gb102, 1, none⟩ = some (.slice A1_1 l1_1.length c1_1)) ∧ (Kd.R (Kd.int .i64) 3 w' w.heap.size (fun k_ => k_ ≠ s_.2.2) s_.1 t107) ∧ (w'.heap[gb101]? = some (.cells #[.int .i64 a0_0, .slice A0_1 l0_1.length c0_1] 29 (0, 0))) ∧ (w'.heap[gb102]? = some (.cells #[.int .i64 a1_0, .slice A1_1 l1_1.length c1_1] 29 (0, 0))) ∧ (w'.heap[gb103]? = some (.cells #[.func (.func 71) #[] #[]] 65 (0, 0))) ∧ (w'.heap[gb104]? = some (.cells #[.int .i64 0, .slice none 0 0] 29 (0, 0))) ∧ (w'.heap[s_.2.1]? = some (.cells #[.slice none 0 0] 61 (0, 0))) ∧ (w'.heap[s_.2.2]? = some (.cells #[.int .i64 0] 3 (0, 0))) ∧ (w.heap.size ≤ s_.2.1) ∧ (w.heap.size ≤ s_.2.1) ∧ (gb101 ≠ s_.2.1) ∧ (s_.2.1 ≠ gb101) ∧ (gb102 ≠ s_.2.1) ∧ (s_.2.1 ≠ gb102) ∧ (gb103 ≠ s_.2.1) ∧ (s_.2.1 ≠ gb103) ∧ (gb104 ≠ s_.2.1) ∧ (s_.2.1 ≠ gb104) ∧ (s_.2.2 ≠ s_.2.1) ∧ (s_.2.1 ≠ s_.2.2) ∧ (w.heap.size ≤ s_.2.2) ∧ (w.heap.size ≤ s_.2.2) ∧ (gb101 ≠ s_.2.2) ∧ (s_.2.2 ≠ gb101) ∧ (gb102 ≠ s_.2.2) ∧ (s_.2.2 ≠ gb102) ∧ (gb103 ≠ s_.2.2) ∧ (s_.2.2 ≠ gb103) ∧ (gb104 ≠ s_.2.2) ∧ (s_.2.2 ≠ gb104) ∧ (Below w.heap.size w w')) ?_ ?_
    rotate_left
    intro hJ1_7_8
    refine join_ (σ := Nat × Nat × Nat) 5 #[true, false, true, false, true, true, true, true, true, false, false, false] (fun s_ => [(8, .pointer (some ⟨s_.1, 0, none⟩)), (9, .pointer (some ⟨s_.2.1, 0, none⟩)), (10, .pointer (some ⟨s_.2.2, 0, none⟩))]) (fun s_ w' => (w'.cell? ⟨gb101, 0, none⟩ = some (.int .i64 a0_0) ∧ w'.cell? ⟨gb101, 1, none⟩ = some (.slice A0_1 l0_1.length c0_1) ∧ w'.cell? ⟨gb102, 0, none⟩ = some (.int .i64 a1_0) ∧ w'.cell? ⟨gb102, 1, none⟩ = some (.slice A1_1 l1_1.length c1_1)) ∧ (w'.heap[gb101]? = some (.cells #[.int .i64 a0_0, .slice A0_1 l0_1.length c0_1] 29 (0, 0))) ∧ (w'.heap[gb102]? = some (.cells #[.int .i64 a1_0, .slice A1_1 l1_1.length c1_1] 29 (0, 0))) ∧ (w'.heap[gb103]? = some (.cells #[.func (.func 71) #[] #[]] 65 (0, 0))) ∧ (w'.heap[gb104]? = some (.cells #[.int .i64 0, .slice none 0 0] 29 (0, 0))) ∧ (w'.heap[s_.1]? = some (.cells #[.slice none 0 0] 61 (0, 0))) ∧ (w'.heap[s_.2.1]? = some (.cells #[.slice none 0 0] 61 (0, 0))) ∧ (w'.heap[s_.2.2]? = some (.cells #[.int .i64 0] 3 (0, 0))) ∧ (w.heap.size ≤ s_.1) ∧ (w.heap.size ≤ s_.1) ∧ (gb101 ≠ s_.1) ∧ (s_.1 ≠ gb101) ∧ (gb102 ≠ s_.1) ∧ (s_.1 ≠ gb102) ∧ (gb103 ≠ s_.1) ∧ (s_.1 ≠ gb103) ∧ (gb104 ≠ s_.1) ∧ (s_.1 ≠ gb104) ∧ (s_.2.1 ≠ s_.1) ∧ (s_.1 ≠ s_.2.1) ∧ (s_.2.2 ≠ s_.1) ∧ (s_.1 ≠ s_.2.2) ∧ (w.heap.size ≤ s_.2.1) ∧ (w.heap.size ≤ s_.2.1) ∧ (gb101 ≠ s_.2.1) ∧ (s_.2.1 ≠ gb101) ∧ (gb102 ≠ s_.2.1) ∧ (s_.2.1 ≠ gb102) ∧ (gb103 ≠ s_.2.1) ∧ (s_.2.1 ≠ gb103) ∧ (gb104 ≠ s_.2.1) ∧ (s_.2.1 ≠ gb104) ∧ (s_.2.2 ≠ s_.2.1) ∧ (s_.2.1 ≠ s_.2.2) ∧ (w.heap.size ≤ s_.2.2) ∧ (w.heap.size ≤ s_.2.2) ∧ (gb101 ≠ s_.2.2) ∧ (s_.2.2 ≠ gb101) ∧ (gb102 ≠ s_.2.2) ∧ (s_.2.2 ≠ gb102) ∧ (gb103 ≠ s_.2.2) ∧ (s_.2.2 ≠ gb103) ∧ (gb104 ≠ s_.2.2) ∧ (s_.2.2 ≠ gb104) ∧ (Below w.heap.size w w')) ?_ ?_
    rotate_left
    intro hJ6_7_8
    refine join_ (σ := Value × Value) 6 #[true, true, true, true, true, true, false, false, false, false, false, false] (fun s_ => [(29, .agg #[s_.1]), (31, .agg #[s_.2])]) (fun s_ w' => (w'.cell? ⟨gb101, 0, none⟩ = some (.int .i64 a0_0) ∧ w'.cell? ⟨gb101, 1, none⟩ = some (.slice A0_1 l0_1.length c0_1) ∧ w'.cell? ⟨gb102, 0, none⟩ = some (.int .i64 a1_0) ∧ w'.cell? ⟨gb102, 1, none⟩ = some (.slice A1_1 l1_1.length c1_1)) ∧ (Kd.R (Kd.int .i64) 3 w' w.heap.size (fun k_ => some k_ ≠ (s_.2 : Value).ownBlock) s_.1 t107) ∧ (Kd.R (Kd.int .i64) 3 w' w.heap.size (fun k_ => some k_ ≠ (s_.1 : Value).ownBlock) s_.2 t110) ∧ (w'.heap[gb101]? = some (.cells #[.int .i64 a0_0, .slice A0_1 l0_1.length c0_1] 29 (0, 0))) ∧ (w'.heap[gb102]? = some (.cells #[.int .i64 a1_0, .slice A1_1 l1_1.length c1_1] 29 (0, 0))) ∧ (w'.heap[gb103]? = some (.cells #[.func (.func 71) #[] #[]] 65 (0, 0))) ∧ (w'.heap[gb104]? = some (.cells #[.int .i64 0, .slice none 0 0] 29 (0, 0))) ∧ (Below w.heap.size w w')) ?_ ?_
    rotate_left
    intro hJ1_3
    refine join_ (σ := Value × Nat) 6 #[true, true, true, false, true, true, true, false, false, false, false, false] (fun s_ => [(29, .agg #[s_.1]), (8, .pointer (some ⟨s_.2, 0, none⟩))]) (fun s_ w' => (w'.cell? ⟨gb101, 0, none⟩ = some (.int .i64 a0_0) ∧ w'.cell? ⟨gb101, 1, none⟩ = some (.slice A0_1 l0_1.length c0_1) ∧ w'.cell? ⟨gb102, 0, none⟩ = some (.int .i64 a1_0) ∧ w'.cell? ⟨gb102, 1, none⟩ = some (.slice A1_1 l1_1.length c1_1)) ∧ (Kd.R (Kd.int .i64) 3 w' w.heap.size (fun _ => True) s_.1 t107) ∧ (w'.heap[gb101]? = some (.cells #[.int .i64 a0_0, .slice A0_1 l0_1.length c0_1] 29 (0, 0))) ∧ (w'.heap[gb102]? = some (.cells #[.int .i64 a1_0, .slice A1_1 l1_1.length c1_1] 29 (0, 0))) ∧ (w'.heap[gb103]? = some (.cells #[.func (.func 71) #[] #[]] 65 (0, 0))) ∧ (w'.heap[gb104]? = some (.cells #[.int .i64 0, .slice none 0 0] 29 (0, 0))) ∧ (w'.heap[s_.2]? = some (.cells #[.slice none 0 0] 61 (0, 0))) ∧ (w.heap.size ≤ s_.2) ∧ (w.heap.size ≤ s_.2) ∧ (gb101 ≠ s_.2) ∧ (s_.2 ≠ gb101) ∧ (gb102 ≠ s_.2) ∧ (s_.2 ≠ gb102) ∧ (gb103 ≠ s_.2) ∧ (s_.2 ≠ gb103) ∧ (gb104 ≠ s_.2) ∧ (s_.2 ≠ gb104) ∧ (Below w.heap.size w w')) ?_ ?_
    rotate_left
    intro hJ1_6
    refine join_ (σ := Value × Nat) 6 #[true, true, true, false, true, true, false, true, false, false, false, false] (fun s_ => [(29, .agg #[s_.1]), (9, .pointer (some ⟨s_.2, 0, none⟩))]) (fun s_ w' => (w'.cell? ⟨gb101, 0, none⟩ = some (.int .i64 a0_0) ∧ w'.cell? ⟨gb101, 1, none⟩ = some (.slice A0_1 l0_1.length c0_1) ∧ w'.cell? ⟨gb102, 0, none⟩ = some (.int .i64 a1_0) ∧ w'.cell? ⟨gb102, 1, none⟩ = some (.slice A1_1 l1_1.length c1_1)) ∧ (Kd.R (Kd.int .i64) 3 w' w.heap.size (fun _ => True) s_.1 t107) ∧ (w'.heap[gb101]? = some (.cells #[.int .i64 a0_0, .slice A0_1 l0_1.length c0_1] 29 (0, 0))) ∧ (w'.heap[gb102]? = some (.cells #[.int .i64 a1_0, .slice A1_1 l1_1.length c1_1] 29 (0, 0))) ∧ (w'.heap[gb103]? = some (.cells #[.func (.func 71) #[] #[]] 65 (0, 0))) ∧ (w'.heap[gb104]? = some (.cells #[.int .i64 0, .slice none 0 0] 29 (0, 0))) ∧ (w'.heap[s_.2]? = some (.cells #[.slice none 0 0] 61 (0, 0))) ∧ (w.heap.size ≤ s_.2) ∧ (w.heap.size ≤ s_.2) ∧ (gb101 ≠ s_.2) ∧ (s_.2 ≠ gb101) ∧ (gb102 ≠ s_.2) ∧ (s_.2 ≠ gb102) ∧ (gb103 ≠ s_.2) ∧ (s_.2 ≠ gb103) ∧ (gb104 ≠ s_.2) ∧ (s_.2 ≠ gb104) ∧ (Below w.heap.size w w')) ?_ ?_
    rotate_left
    intro hJ1_7
    refine join_ (σ := Value × Nat) 6 #[true, true, true, false, true, true, false, false, true, false, false, false] (fun s_ => [(29, .agg #[s_.1]), (10, .pointer (some ⟨s_.2, 0, none⟩))]) (fun s_ w' => (w'.cell? ⟨gb101, 0, none⟩ = some (.int .i64 a0_0) ∧ w'.cell? ⟨gb101, 1, none⟩ = some (.slice A0_1 l0_1.length c0_1) ∧ w'.cell? ⟨gb102, 0, none⟩ = some (.int .i64 a1_0) ∧ w'.cell? ⟨gb102, 1, none⟩ = some (.slice A1_1 l1_1.length c1_1)) ∧ (Kd.R (Kd.int .i64) 3 w' w.heap.size (fun k_ => k_ ≠ s_.2) s_.1 t107) ∧ (w'.heap[gb101]? = some (.cells #[.int .i64 a0_0, .slice A0_1 l0_1.length c0_1] 29 (0, 0))) ∧ (w'.heap[gb102]? = some (.cells #[.int .i64 a1_0, .slice A1_1 l1_1.length c1_1] 29 (0, 0))) ∧ (w'.heap[gb103]? = some (.cells #[.func (.func 71) #[] #[]] 65 (0, 0))) ∧ (w'.heap[gb104]? = some (.cells #[.int .i64 0, .slice none 0 0] 29 (0, 0))) ∧ (w'.heap[s_.2]? = some (.cells #[.int .i64 0] 3 (0, 0))) ∧ (w.heap.size ≤ s_.2) ∧ (w.heap.size ≤ s_.2) ∧ (gb101 ≠ s_.2) ∧ (s_.2 ≠ gb101) ∧ (gb102 ≠ s_.2) ∧ (s_.2 ≠ gb102) ∧ (gb103 ≠ s_.2) ∧ (s_.2 ≠ gb103) ∧ (gb104 ≠ s_.2) ∧ (s_.2 ≠ gb104) ∧ (Below w.heap.size w w')) ?_ ?_
    rotate_left
    intro hJ1_8
    refine join_ (σ := Nat × Nat) 6 #[true, false, true, false, true, true, true, true, false, false, false, false] (fun s_ => [(8, .pointer (some ⟨s_.1, 0, none⟩)), (9, .pointer (some ⟨s_.2, 0, none⟩))]) (fun s_ w' => (w'.cell? ⟨gb101, 0, none⟩ = some (.int .i64 a0_0) ∧ w'.cell? ⟨gb101, 1, none⟩ = some (.slice A0_1 l0_1.length c0_1) ∧ w'.cell? ⟨gb102, 0, none⟩ = some (.int .i64 a1_0) ∧ w'.cell? ⟨gb102, 1, none⟩ = some (.slice A1_1 l1_1.length c1_1)) ∧ (w'.heap[gb101]? = some (.cells #[.int .i64 a0_0, .slice A0_1 l0_1.length c0_1] 29 (0, 0))) ∧ (w'.heap[gb102]? = some (.cells #[.int .i64 a1_0, .slice A1_1 l1_1.length c1_1] 29 (0, 0))) ∧ (w'.heap[gb103]? = some (.cells #[.func (.func 71) #[] #[]] 65 (0, 0))) ∧ (w'.heap[gb104]? = some (.cells #[.int .i64 0, .slice none 0 0] 29 (0, 0))) ∧ (w'.heap[s_.1]? = some (.cells #[.slice none 0 0] 61 (0, 0))) ∧ (w'.heap[s_.2]? = some (.cells #[.slice none 0 0] 61 (0, 0))) ∧ (w.heap.size ≤ s_.1) ∧ (w.heap.size ≤ s_.1) ∧ (gb101 ≠ s_.1) ∧ (s_.1 ≠ gb101) ∧ (gb102 ≠ s_.1) ∧ (s_.1 ≠ gb102) ∧ (gb103 ≠ s_.1) ∧ (s_.1 ≠ gb103) ∧ (gb104 ≠ s_.1) ∧ (s_.1 ≠ gb104) ∧ (s_.2 ≠ s_.1) ∧ (s_.1 ≠ s_.2) ∧ (w.heap.size ≤ s_.2) ∧ (w.heap.size ≤ s_.2) ∧ (gb101 ≠ s_.2) ∧ (s_.2 ≠ gb101) ∧ (gb102 ≠ s_.2) ∧ (s_.2 ≠ gb102) ∧ (gb103 ≠ s_.2) ∧ (s_.2 ≠ gb103) ∧ (gb104 ≠ s_.2) ∧ (s_.2 ≠ gb104) ∧ (Below w.heap.size w w')) ?_ ?_
    rotate_left
    intro hJ6_7
    refine join_ (σ := Nat × Nat) 6 #[true, false, true, false, true, true, true, false, true, false, false, false] (fun s_ => [(8, .pointer (some ⟨s_.1, 0, none⟩)), (10, .pointer (some ⟨s_.2, 0, none⟩))]) (fun s_ w' => (w'.cell? ⟨gb101, 0, none⟩ = some (.int .i64 a0_0) ∧ w'.cell? ⟨gb101, 1, none⟩ = some (.slice A0_1 l0_1.length c0_1) ∧ w'.cell? ⟨gb102, 0, none⟩ = some (.int .i64 a1_0) ∧ w'.cell? ⟨gb102, 1, none⟩ = some (.slice A1_1 l1_1.length c1_1)) ∧ (w'.heap[gb101]? = some (.cells #[.int .i64 a0_0, .slice A0_1 l0_1.length c0_1] 29 (0, 0))) ∧ (w'.heap[gb102]? = some (.cells #[.int .i64 a1_0, .slice A1_1 l1_1.length c1_1] 29 (0, 0))) ∧ (w'.heap[gb103]? = some (.cells #[.func (.func 71) #[] #[]] 65 (0, 0))) ∧ (w'.heap[gb104]? = some (.cells #[.int .i64 0, .slice none 0 0] 29 (0, 0))) ∧ (w'.heap[s_.1]? = some (.cells #[.slice none 0 0] 61 (0, 0))) ∧ (w'.heap[s_.2]? = some (.cells #[.int .i64 0] 3 (0, 0))) ∧ (w.heap.size ≤ s_.1) ∧ (w.heap.size ≤ s_.1) ∧ (gb101 ≠ s_.1) ∧ (s_.1 ≠ gb101) ∧ (gb102 ≠ s_.1) ∧ (s_.1 ≠ gb102) ∧ (gb103 ≠ s_.1) ∧ (s_.1 ≠ gb103) ∧ (gb104 ≠ s_.1) ∧ (s_.1 ≠ gb104) ∧ (s_.2 ≠ s_.1) ∧ (s_.1 ≠ s_.2) ∧ (w.heap.size ≤ s_.2) ∧ (w.heap.size ≤ s_.2) ∧ (gb101 ≠ s_.2) ∧ (s_.2 ≠ gb101) ∧ (gb102 ≠ s_.2) ∧ (s_.2 ≠ gb102) ∧ (gb103 ≠ s_.2) ∧ (s_.2 ≠ gb103) ∧ (gb104 ≠ s_.2) ∧ (s_.2 ≠ gb104) ∧ (Below w.heap.size w w')) ?_ ?_
    rotate_left
    intro hJ6_8
    refine join_ (σ := Nat × Nat) 6 #[true, false, true, false, true, true, false, true, true, false, false, false] (fun s_ => [(9, .pointer (some ⟨s_.1, 0, none⟩)), (10, .pointer (some ⟨s_.2, 0, none⟩))]) (fun s_ w' => (w'.cell? ⟨gb101, 0, none⟩ = some (.int .i64 a0_0) ∧ w'.cell? ⟨gb101, 1, none⟩ = some (.slice A0_1 l0_1.length c0_1) ∧ w'.cell? ⟨gb102, 0, none⟩ = some (.int .i64 a1_0) ∧ w'.cell? ⟨gb102, 1, none⟩ = some (.slice A1_1 l1_1.length c1_1)) ∧ (w'.heap[gb101]? = some (.cells #[.int .i64 a0_0, .slice A0_1 l0_1.length c0_1] 29 (0, 0))) ∧ (w'.heap[gb102]? = some (.cells #[.int .i64 a1_0, .slice A1_1 l1_1.length c1_1] 29 (0, 0))) ∧ (w'.heap[gb103]? = some (.cells #[.func (.func 71) #[] #[]] 65 (0, 0))) ∧ (w'.heap[gb104]? = some (.cells #[.int .i64 0, .slice none 0 0] 29 (0, 0))) ∧ (w'.heap[s_.1]? = some (.cells #[.slice none 0 0] 61 (0, 0))) ∧ (w'.heap[s_.2]? = some (.cells #[.int .i64 0] 3 (0, 0))) ∧ (w.heap.size ≤ s_.1) ∧ (w.heap.size ≤ s_.1) ∧ (gb101 ≠ s_.1) ∧ (s_.1 ≠ gb101) ∧ (gb102 ≠ s_.1) ∧ (s_.1 ≠ gb102) ∧ (gb103 ≠ s_.1) ∧ (s_.1 ≠ gb103) ∧ (gb104 ≠ s_.1) ∧ (s_.1 ≠ gb104) ∧ (s_.2 ≠ s_.1) ∧ (s_.1 ≠ s_.2) ∧ (w.heap.size ≤ s_.2) ∧ (w.heap.size ≤ s_.2) ∧ (gb101 ≠ s_.2) ∧ (s_.2 ≠ gb101) ∧ (gb102 ≠ s_.2) ∧ (s_.2 ≠ gb102) ∧ (gb103 ≠ s_.2) ∧ (s_.2 ≠ gb103) ∧ (gb104 ≠ s_.2) ∧ (s_.2 ≠ gb104) ∧ (Below w.heap.size w w')) ?_ ?_
    rotate_left
    intro hJ7_8
    refine join_ (σ := Value) 7 #[true, true, true, false, true, true, false, false, false, false, false, false] (fun s_ => [(29, .agg #[s_])]) (fun s_ w' => (w'.cell? ⟨gb101, 0, none⟩ = some (.int .i64 a0_0) ∧ w'.cell? ⟨gb101, 1, none⟩ = some (.slice A0_1 l0_1.length c0_1) ∧ w'.cell? ⟨gb102, 0, none⟩ = some (.int .i64 a1_0) ∧ w'.cell? ⟨gb102, 1, none⟩ = some (.slice A1_1 l1_1.length c1_1)) ∧ (Kd.R (Kd.int .i64) 3 w' w.heap.size (fun _ => True) s_ t107) ∧ (w'.heap[gb101]? = some (.cells #[.int .i64 a0_0, .slice A0_1 l0_1.length c0_1] 29 (0, 0))) ∧ (w'.heap[gb102]? = some (.cells #[.int .i64 a1_0, .slice A1_1 l1_1.length c1_1] 29 (0, 0))) ∧ (w'.heap[gb103]? = some (.cells #[.func (.func 71) #[] #[]] 65 (0, 0))) ∧ (w'.heap[gb104]? = some (.cells #[.int .i64 0, .slice none 0 0] 29 (0, 0))) ∧ (Below w.heap.size w w')) ?_ ?_
    rotate_left
    intro hJ1
    refine join_ (σ := Nat) 7 #[true, false, true, false, true, true, true, false, false, false, false, false] (fun s_ => [(8, .pointer (some ⟨s_, 0, none⟩))]) (fun s_ w' => (w'.cell? ⟨gb101, 0, none⟩ = some (.int .i64 a0_0) ∧ w'.cell? ⟨gb101, 1, none⟩ = some (.slice A0_1 l0_1.length c0_1) ∧ w'.cell? ⟨gb102, 0, none⟩ = some (.int .i64 a1_0) ∧ w'.cell? ⟨gb102, 1, none⟩ = some (.slice A1_1 l1_1.length c1_1)) ∧ (w'.heap[gb101]? = some (.cells #[.int .i64 a0_0, .slice A0_1 l0_1.length c0_1] 29 (0, 0))) ∧ (w'.heap[gb102]? = some (.cells #[.int .i64 a1_0, .slice A1_1 l1_1.length c1_1] 29 (0, 0))) ∧ (w'.heap[gb103]? = some (.cells #[.func (.func 71) #[] #[]] 65 (0, 0))) ∧ (w'.heap[gb104]? = some (.cells #[.int .i64 0, .slice none 0 0] 29 (0, 0))) ∧ (w'.heap[s_]? = some (.cells #[.slice none 0 0] 61 (0, 0))) ∧ (w.heap.size ≤ s_) ∧ (w.heap.size ≤ s_) ∧ (gb101 ≠ s_) ∧ (s_ ≠ gb101) ∧ (gb102 ≠ s_) ∧ (s_ ≠ gb102) ∧ (gb103 ≠ s_) ∧ (s_ ≠ gb103) ∧ (gb104 ≠ s_) ∧ (s_ ≠ gb104) ∧ (Below w.heap.size w w')) ?_ ?_
    rotate_left
    intro hJ6
    refine join_ (σ := Nat) 7 #[true, false, true, false, true, true, false, true, false, false, false, false] (fun s_ => [(9, .pointer (some ⟨s_, 0, none⟩))]) (fun s_ w' => (w'.cell? ⟨gb101, 0, none⟩ = some (.int .i64 a0_0) ∧ w'.cell? ⟨gb101, 1, none⟩ = some (.slice A0_1 l0_1.length c0_1) ∧ w'.cell? ⟨gb102, 0, none⟩ = some (.int .i64 a1_0) ∧ w'.cell? ⟨gb102, 1, none⟩ = some (.slice A1_1 l1_1.length c1_1)) ∧ (w'.heap[gb101]? = some (.cells #[.int .i64 a0_0, .slice A0_1 l0_1.length c0_1] 29 (0, 0))) ∧ (w'.heap[gb102]? = some (.cells #[.int .i64 a1_0, .slice A1_1 l1_1.length c1_1] 29 (0, 0))) ∧ (w'.heap[gb103]? = some (.cells #[.func (.func 71) #[] #[]] 65 (0, 0))) ∧ (w'.heap[gb104]? = some (.cells #[.int .i64 0, .slice none 0 0] 29 (0, 0))) ∧ (w'.heap[s_]? = some (.cells #[.slice none 0 0] 61 (0, 0))) ∧ (w.heap.size ≤ s_) ∧ (w.heap.size ≤ s_) ∧ (gb101 ≠ s_) ∧ (s_ ≠ gb101) ∧ (gb102 ≠ s_) ∧ (s_ ≠ gb102) ∧ (gb103 ≠ s_) ∧ (s_ ≠ gb103) ∧ (gb104 ≠ s_) ∧ (s_ ≠ gb104) ∧ (Below w.heap.size w w')) ?_ ?_
    rotate_left
    intro hJ7
    refine join_ (σ := Nat) 7 #[true, false, true, false, true, true, false, false, true, false, false, false] (fun s_ => [(10, .pointer (some ⟨s_, 0, none⟩))]) (fun s_ w' => (w'.cell? ⟨gb101, 0, none⟩ = some (.int .i64 a0_0) ∧ w'.cell? ⟨gb101, 1, none⟩ = some (.slice A0_1 l0_1.length c0_1) ∧ w'.cell? ⟨gb102, 0, none⟩ = some (.int .i64 a1_0) ∧ w'.cell? ⟨gb102, 1, none⟩ = some (.slice A1_1 l1_1.length c1_1)) ∧ (w'.heap[gb101]? = some (.cells #[.int .i64 a0_0, .slice A0_1 l0_1.length c0_1] 29 (0, 0))) ∧ (w'.heap[gb102]? = some (.cells #[.int .i64 a1_0, .slice A1_1 l1_1.length c1_1] 29 (0, 0))) ∧ (w'.heap[gb103]? = some (.cells #[.func (.func 71) #[] #[]] 65 (0, 0))) ∧ (w'.heap[gb104]? = some (.cells #[.int .i64 0, .slice none 0 0] 29 (0, 0))) ∧ (w'.heap[s_]? = some (.cells #[.int .i64 0] 3 (0, 0))) ∧ (w.heap.size ≤ s_) ∧ (w.heap.size ≤ s_) ∧ (gb101 ≠ s_) ∧ (s_ ≠ gb101) ∧ (gb102 ≠ s_) ∧ (s_ ≠ gb102) ∧ (gb103 ≠ s_) ∧ (s_ ≠ gb103) ∧ (gb104 ≠ s_) ∧ (s_ ≠ gb104) ∧ (Below w.heap.size w w')) ?_ ?_
    rotate_left
    intro hJ8
    ·skip
     refine four_ (i := 1) (j := 6) (k := 7) (m := 8) (Ni := some 29) (Nj := some 8) (Nk := some 9) (Nm := some 10) #[true, true, true, false, true, true, false, false, false, false, false, false] #[true, false, true, false, true, true, true, false, false, false, false, false] #[true, false, true, false, true, true, false, true, false, false, false, false] #[true, false, true, false, true, true, false, false, true, false, false, false] rfl rfl rfl rfl rfl rfl rfl rfl (four_of HT_.out (by kernel_rfl)) (by decide) (by decide) (by decide) (by decide) (fun K hK => ?_) (fun K hK => ?_) (fun K hK => ?_) (fun K hK => ?_)
     ·skip
      refine goes_ Try.func65 (by kernel_rfl) rfl #[.agg #[.int .i64 a0_0, .slice A0_1 l0_1.length c0_1]] (by rfl) rfl rfl (by (try simp only [List.map_toArray, List.map_cons, List.map_nil]) <;> rfl) ?_
      with_reducible refine (impl_netOf.calls kj8 a0_0 _ _ l0_1 t107 _ ?side1 ?side2 A44.out).mono ?_
      (case side1 => exact (Kd.C_below HR0_1.out HB.out))
      (case side2 => exact HC0_1.out)
      rintro e w48 ⟨v108, rfl, ho0, hb⟩
      refine ⟨_, rfl, ?_⟩
      have HO109 := Aside0.mk (Kd.R_lower ho0 (below_size HB.out))
      replace BK101 := Aside0.mk (blk_below BK101.out hb)
      replace BK102 := Aside0.mk (blk_below BK102.out hb)
      replace BK103 := Aside0.mk (blk_below BK103.out hb)
      replace BK104 := Aside0.mk (blk_below BK104.out hb)
      replace HB := Aside0.mk (below_step HB.out hb)
      (try clear hb)
      (try clear ho0)
      refine hK.out _ _ ⟨(blk_cell BK101.out 0).trans rfl, (blk_cell BK101.out 1).trans rfl, (blk_cell BK102.out 0).trans rfl, (blk_cell BK102.out 1).trans rfl⟩ (fun hHeld => ?_)
      clear hK K
      refine norm_ (a' := ?_) ?_ ?_
      rotate_left
      ·show Act.put _ (some 29) _ = _
       simp only [Act.put, List.setIfInBounds_toArray, List.set_cons_zero, List.set_cons_succ, i64_w, i32_w]
       rfl
      exact norm_ (by simp only [putAll, Act.put, List.setIfInBounds_toArray, List.set_cons_zero, List.set_cons_succ] <;> rfl) (hJ1 (v108) _ ⟨hHeld, HO109.out, BK101.out, BK102.out, BK103.out, BK104.out, HB.out⟩)
     ·skip
      refine box_step ?hg (N := 8) ?hd (cs := #[.slice none 0 0]) (t := 61) ?hr ?_; (case hd => rfl); (case hg => rfl); (case hr => first | (go_simp; done) | (go_simp; rfl))
      intro gb113 hg w48 hbox hb
      have BK113 := Aside0.mk (hbox)
      have GW113 := geN HB.out hg
      have GE113 := geN HB.out hg
      have NB101_113 := neL BK101.out hg
      have NB113_101 := neR BK101.out hg
      have NB102_113 := neL BK102.out hg
      have NB113_102 := neR BK102.out hg
      have NB103_113 := neL BK103.out hg
      have NB113_103 := neR BK103.out hg
      have NB104_113 := neL BK104.out hg
      have NB113_104 := neR BK104.out hg
      replace BK101 := Aside0.mk (blk_below BK101.out hb)
      replace BK102 := Aside0.mk (blk_below BK102.out hb)
      replace BK103 := Aside0.mk (blk_below BK103.out hb)
      replace BK104 := Aside0.mk (blk_below BK104.out hb)
      replace HB := Aside0.mk (below_step HB.out hb)
      clear hb hbox hg
      refine hK.out _ _ ⟨(blk_cell BK101.out 0).trans rfl, (blk_cell BK101.out 1).trans rfl, (blk_cell BK102.out 0).trans rfl, (blk_cell BK102.out 1).trans rfl⟩ (fun hHeld => ?_)
      clear hK K
      refine norm_ (a' := ?_) ?_ ?_
      rotate_left
      ·show Act.put _ (some 8) _ = _
       simp only [Act.put, List.setIfInBounds_toArray, List.set_cons_zero, List.set_cons_succ, i64_w, i32_w]
       rfl
      exact norm_ (by simp only [putAll, Act.put, List.setIfInBounds_toArray, List.set_cons_zero, List.set_cons_succ] <;> rfl) (hJ6 (gb113) _ ⟨hHeld, BK101.out, BK102.out, BK103.out, BK104.out, BK113.out, GW113.out, GE113.out, NB101_113.out, NB113_101.out, NB102_113.out, NB113_102.out, NB103_113.out, NB113_103.out, NB104_113.out, NB113_104.out, HB.out⟩)
     ·skip
      refine box_step ?hg (N := 9) ?hd (cs := #[.slice none 0 0]) (t := 61) ?hr ?_; (case hd => rfl); (case hg => rfl); (case hr => first | (go_simp; done) | (go_simp; rfl))
      intro gb114 hg w48 hbox hb
      have BK114 := Aside0.mk (hbox)
      have GW114 := geN HB.out hg
      have GE114 := geN HB.out hg
      have NB101_114 := neL BK101.out hg
      have NB114_101 := neR BK101.out hg
      have NB102_114 := neL BK102.out hg
      have NB114_102 := neR BK102.out hg
      have NB103_114 := neL BK103.out hg
      have NB114_103 := neR BK103.out hg
      have NB104_114 := neL BK104.out hg
      have NB114_104 := neR BK104.out hg
      replace BK101 := Aside0.mk (blk_below BK101.out hb)
      replace BK102 := Aside0.mk (blk_below BK102.out hb)
      replace BK103 := Aside0.mk (blk_below BK103.out hb)
      replace BK104 := Aside0.mk (blk_below BK104.out hb)
      replace HB := Aside0.mk (below_step HB.out hb)
      clear hb hbox hg
      refine hK.out _ _ ⟨(blk_cell BK101.out 0).trans rfl, (blk_cell BK101.out 1).trans rfl, (blk_cell BK102.out 0).trans rfl, (blk_cell BK102.out 1).trans rfl⟩ (fun hHeld => ?_)
      clear hK K
      refine norm_ (a' := ?_) ?_ ?_
      rotate_left
      ·show Act.put _ (some 9) _ = _
       simp only [Act.put, List.setIfInBounds_toArray, List.set_cons_zero, List.set_cons_succ, i64_w, i32_w]
       rfl
      exact norm_ (by simp only [putAll, Act.put, List.setIfInBounds_toArray, List.set_cons_zero, List.set_cons_succ] <;> rfl) (hJ7 (gb114) _ ⟨hHeld, BK101.out, BK102.out, BK103.out, BK104.out, BK114.out, GW114.out, GE114.out, NB101_114.out, NB114_101.out, NB102_114.out, NB114_102.out, NB103_114.out, NB114_103.out, NB104_114.out, NB114_104.out, HB.out⟩)
     ·skip
      refine box_step ?hg (N := 10) ?hd (cs := #[.int .i64 0]) (t := 3) ?hr ?_; (case hd => rfl); (case hg => rfl); (case hr => first | (go_simp; done) | (go_simp; rfl))
      intro gb115 hg w48 hbox hb
      have BK115 := Aside0.mk (hbox)
      have GW115 := geN HB.out hg
      have GE115 := geN HB.out hg
      have NB101_115 := neL BK101.out hg
      have NB115_101 := neR BK101.out hg
      have NB102_115 := neL BK102.out hg
      have NB115_102 := neR BK102.out hg
      have NB103_115 := neL BK103.out hg
      have NB115_103 := neR BK103.out hg
      have NB104_115 := neL BK104.out hg
      have NB115_104 := neR BK104.out hg
      replace BK101 := Aside0.mk (blk_below BK101.out hb)
      replace BK102 := Aside0.mk (blk_below BK102.out hb)
      replace BK103 := Aside0.mk (blk_below BK103.out hb)
      replace BK104 := Aside0.mk (blk_below BK104.out hb)
      replace HB := Aside0.mk (below_step HB.out hb)
      clear hb hbox hg
      refine hK.out _ _ ⟨(blk_cell BK101.out 0).trans rfl, (blk_cell BK101.out 1).trans rfl, (blk_cell BK102.out 0).trans rfl, (blk_cell BK102.out 1).trans rfl⟩ (fun hHeld => ?_)
      clear hK K
      refine norm_ (a' := ?_) ?_ ?_
      rotate_left
      ·show Act.put _ (some 10) _ = _
       simp only [Act.put, List.setIfInBounds_toArray, List.set_cons_zero, List.set_cons_succ, i64_w, i32_w]
       rfl
      exact norm_ (by simp only [putAll, Act.put, List.setIfInBounds_toArray, List.set_cons_zero, List.set_cons_succ] <;> rfl) (hJ8 (gb115) _ ⟨hHeld, BK101.out, BK102.out, BK103.out, BK104.out, BK115.out, GW115.out, GE115.out, NB101_115.out, NB115_101.out, NB102_115.out, NB115_102.out, NB103_115.out, NB115_103.out, NB104_115.out, NB115_104.out, HB.out⟩)
    ·skip
     rintro ⟨v108, v111, gb113, gb114, gb115⟩ w53 ⟨hS_, h0_, h1_, h2_, h3_, h4_, h5_, h6_, h7_, h8_, h9_, h10_, h11_, h12_, h13_, h14_, h15_, h16_, h17_, h18_, h19_, h20_, h21_, h22_, h23_, h24_, h25_, h26_, h27_, h28_, h29_, h30_, h31_, h32_, h33_, h34_, h35_, h36_, h37_, h38_, h39_, h40_, h41_, h42_, h43_, h44_, h45_⟩
     have n0_ : Aside0 (Kd.R (Kd.int .i64) 3 w53 w.heap.size (fun k_ => some k_ ≠ (v111 : Value).ownBlock ∧ k_ ≠ gb115) v108 t107) := ⟨h0_⟩
     have n1_ : Aside0 (Kd.R (Kd.int .i64) 3 w53 w.heap.size (fun k_ => some k_ ≠ (v108 : Value).ownBlock ∧ k_ ≠ gb115) v111 t110) := ⟨h1_⟩
     have n2_ : Aside0 (w53.heap[gb101]? = some (.cells #[.int .i64 a0_0, .slice A0_1 l0_1.length c0_1] 29 (0, 0))) := ⟨h2_⟩
     have n3_ : Aside0 (w53.heap[gb102]? = some (.cells #[.int .i64 a1_0, .slice A1_1 l1_1.length c1_1] 29 (0, 0))) := ⟨h3_⟩
     have n4_ : Aside0 (w53.heap[gb103]? = some (.cells #[.func (.func 71) #[] #[]] 65 (0, 0))) := ⟨h4_⟩
     have n5_ : Aside0 (w53.heap[gb104]? = some (.cells #[.int .i64 0, .slice none 0 0] 29 (0, 0))) := ⟨h5_⟩
     have n6_ : Aside0 (w53.heap[gb113]? = some (.cells #[.slice none 0 0] 61 (0, 0))) := ⟨h6_⟩
     have n7_ : Aside0 (w53.heap[gb114]? = some (.cells #[.slice none 0 0] 61 (0, 0))) := ⟨h7_⟩
     have n8_ : Aside0 (w53.heap[gb115]? = some (.cells #[.int .i64 0] 3 (0, 0))) := ⟨h8_⟩
     have n9_ : Aside0 (w.heap.size ≤ gb113) := ⟨h9_⟩
     have n10_ : Aside0 (w.heap.size ≤ gb113) := ⟨h10_⟩
     have n11_ : Aside0 (gb101 ≠ gb113) := ⟨h11_⟩
     have n12_ : Aside0 (gb113 ≠ gb101) := ⟨h12_⟩
     have n13_ : Aside0 (gb102 ≠ gb113) := ⟨h13_⟩
     have n14_ : Aside0 (gb113 ≠ gb102) := ⟨h14_⟩
     have n15_ : Aside0 (gb103 ≠ gb113) := ⟨h15_⟩
     have n16_ : Aside0 (gb113 ≠ gb103) := ⟨h16_⟩
     have n17_ : Aside0 (gb104 ≠ gb113) := ⟨h17_⟩
     have n18_ : Aside0 (gb113 ≠ gb104) := ⟨h18_⟩
     have n19_ : Aside0 (gb114 ≠ gb113) := ⟨h19_⟩
     have n20_ : Aside0 (gb113 ≠ gb114) := ⟨h20_⟩
     have n21_ : Aside0 (gb115 ≠ gb113) := ⟨h21_⟩
     have n22_ : Aside0 (gb113 ≠ gb115) := ⟨h22_⟩
     have n23_ : Aside0 (w.heap.size ≤ gb114) := ⟨h23_⟩
     have n24_ : Aside0 (w.heap.size ≤ gb114) := ⟨h24_⟩
     have n25_ : Aside0 (gb101 ≠ gb114) := ⟨h25_⟩
     have n26_ : Aside0 (gb114 ≠ gb101) := ⟨h26_⟩
     have n27_ : Aside0 (gb102 ≠ gb114) := ⟨h27_⟩
     have n28_ : Aside0 (gb114 ≠ gb102) := ⟨h28_⟩
     have n29_ : Aside0 (gb103 ≠ gb114) := ⟨h29_⟩
     have n30_ : Aside0 (gb114 ≠ gb103) := ⟨h30_⟩
     have n31_ : Aside0 (gb104 ≠ gb114) := ⟨h31_⟩
     have n32_ : Aside0 (gb114 ≠ gb104) := ⟨h32_⟩
     have n33_ : Aside0 (gb115 ≠ gb114) := ⟨h33_⟩
     have n34_ : Aside0 (gb114 ≠ gb115) := ⟨h34_⟩
     have n35_ : Aside0 (w.heap.size ≤ gb115) := ⟨h35_⟩
     have n36_ : Aside0 (w.heap.size ≤ gb115) := ⟨h36_⟩
     have n37_ : Aside0 (gb101 ≠ gb115) := ⟨h37_⟩
     have n38_ : Aside0 (gb115 ≠ gb101) := ⟨h38_⟩
     have n39_ : Aside0 (gb102 ≠ gb115) := ⟨h39_⟩
     have n40_ : Aside0 (gb115 ≠ gb102) := ⟨h40_⟩
     have n41_ : Aside0 (gb103 ≠ gb115) := ⟨h41_⟩
     have n42_ : Aside0 (gb115 ≠ gb103) := ⟨h42_⟩
     have n43_ : Aside0 (gb104 ≠ gb115) := ⟨h43_⟩
     have n44_ : Aside0 (gb115 ≠ gb104) := ⟨h44_⟩
     have n45_ : Aside0 (Below w.heap.size w w53) := ⟨h45_⟩
     clear BK101
     clear BK102
     clear BK103
     clear BK104
     clear HB
     clear h0_ h1_ h2_ h3_ h4_ h5_ h6_ h7_ h8_ h9_ h10_ h11_ h12_ h13_ h14_ h15_ h16_ h17_ h18_ h19_ h20_ h21_ h22_ h23_ h24_ h25_ h26_ h27_ h28_ h29_ h30_ h31_ h32_ h33_ h34_ h35_ h36_ h37_ h38_ h39_ h40_ h41_ h42_ h43_ h44_ h45_
     have HO109 := n0_
     have HO112 := n1_
     have BK101 := n2_
     have BK102 := n3_
     have BK103 := n4_
     have BK104 := n5_
     have BK113 := n6_
     have BK114 := n7_
     have BK115 := n8_
     have GW113 := n9_
     have GE113 := n10_
     have NB101_113 := n11_
     have NB113_101 := n12_
     have NB102_113 := n13_
     have NB113_102 := n14_
     have NB103_113 := n15_
     have NB113_103 := n16_
     have NB104_113 := n17_
     have NB113_104 := n18_
     have NB114_113 := n19_
     have NB113_114 := n20_
     have NB115_113 := n21_
     have NB113_115 := n22_
     have GW114 := n23_
     have GE114 := n24_
     have NB101_114 := n25_
     have NB114_101 := n26_
     have NB102_114 := n27_
     have NB114_102 := n28_
     have NB103_114 := n29_
     have NB114_103 := n30_
     have NB104_114 := n31_
     have NB114_104 := n32_
     have NB115_114 := n33_
     have NB114_115 := n34_
     have GW115 := n35_
     have GE115 := n36_
     have NB101_115 := n37_
     have NB115_101 := n38_
     have NB102_115 := n39_
     have NB115_102 := n40_
     have NB103_115 := n41_
     have NB115_103 := n42_
     have NB104_115 := n43_
     have NB115_104 := n44_
     have HB := n45_
     clear n0_ n1_ n2_ n3_ n4_ n5_ n6_ n7_ n8_ n9_ n10_ n11_ n12_ n13_ n14_ n15_ n16_ n17_ n18_ n19_ n20_ n21_ n22_ n23_ n24_ n25_ n26_ n27_ n28_ n29_ n30_ n31_ n32_ n33_ n34_ n35_ n36_ n37_ n38_ n39_ n40_ n41_ n42_ n43_ n44_ n45_
     have hHeld : w53.cell? ⟨gb101, 0, none⟩ = some (.int .i64 a0_0) ∧ w53.cell? ⟨gb101, 1, none⟩ = some (.slice A0_1 l0_1.length c0_1) ∧ w53.cell? ⟨gb102, 0, none⟩ = some (.int .i64 a1_0) ∧ w53.cell? ⟨gb102, 1, none⟩ = some (.slice A1_1 l1_1.length c1_1) := hS_
     obtain ⟨Ao54, co54, eo54⟩ := Kd.R_slice HO109.out
     (first | subst eo54 | (injection eo54 with f1_ f2_ f3_; have f4_ := f1_.symm; have f5_ := f3_.symm; clear f1_ f2_ f3_; subst f4_; subst f5_))
     obtain ⟨Ao56, co56, eo56⟩ := Kd.R_slice HO112.out
     (first | subst eo56 | (injection eo56 with f1_ f2_ f3_; have f4_ := f1_.symm; have f5_ := f3_.symm; clear f1_ f2_ f3_; subst f4_; subst f5_))
     refine norm_ (a' := ?_) ?_ ?_
     rotate_left
     ·simp only [putAll, Act.put, List.setIfInBounds_toArray, List.set_cons_zero, List.set_cons_succ]
      rfl
     refine one_ (i := 9) (N := none) #[true, true, true, true, true, true, true, true, true, true, false, false] rfl rfl (one_of HT_.out (by kernel_rfl)) (by decide) (fun K hK => ?_)
     have hs55 : w53.cell? ⟨gb113, 0, none⟩ = some (.slice none 0 0) := (blk_cell BK113.out 0).trans rfl
     have hfs55 := blk_frozen BK113.out 0
     have hns55_0 := NB101_113.out
     have hns55_1 := NB102_113.out
     have hns55_2 := NB103_113.out
     have hns55_3 := NB104_113.out
     have hns55_5 := NB114_113.out
     have hns55_6 := NB115_113.out
     have hms55_0 := NB113_101.out
     have hms55_1 := NB113_102.out
     have hms55_2 := NB113_103.out
     have hms55_3 := NB113_104.out
     have hms55_5 := NB113_114.out
     have hms55_6 := NB113_115.out
     refine skip_ (w1 := ?_) (by rfl) rfl ?_ ?_
     rotate_left
     ·go_simp
      rfl
     refine hK.out _ _ ⟨((cell_far (p := ⟨gb113, _, none⟩) NB101_113.out _).trans (hHeld.1)), ((cell_far (p := ⟨gb113, _, none⟩) NB101_113.out _).trans (hHeld.2.1)), ((cell_far (p := ⟨gb113, _, none⟩) NB102_113.out _).trans (hHeld.2.2.1)), ((cell_far (p := ⟨gb113, _, none⟩) NB102_113.out _).trans (hHeld.2.2.2))⟩ (fun hHeld => ?_)
     clear hK K
     refine one_ (i := 10) (N := none) #[true, true, true, true, true, true, true, true, true, true, true, false] rfl rfl (one_of HT_.out (by kernel_rfl)) (by decide) (fun K hK => ?_)
     have hs57 : w53.cell? ⟨gb114, 0, none⟩ = some (.slice none 0 0) := (blk_cell BK114.out 0).trans rfl
     have hfs57 := blk_frozen BK114.out 0
     have hns57_0 := NB101_114.out
     have hns57_1 := NB102_114.out
     have hns57_2 := NB103_114.out
     have hns57_3 := NB104_114.out
     have hns57_4 := NB113_114.out
     have hns57_6 := NB115_114.out
     have hms57_0 := NB114_101.out
     have hms57_1 := NB114_102.out
     have hms57_2 := NB114_103.out
     have hms57_3 := NB114_104.out
     have hms57_4 := NB114_113.out
     have hms57_6 := NB114_115.out
     refine skip_ (w1 := ?_) (by rfl) rfl ?_ ?_
     rotate_left
     ·go_simp
      rfl
     refine hK.out _ _ ⟨((cell_far (p := ⟨gb114, _, none⟩) NB101_114.out _).trans (hHeld.1)), ((cell_far (p := ⟨gb114, _, none⟩) NB101_114.out _).trans (hHeld.2.1)), ((cell_far (p := ⟨gb114, _, none⟩) NB102_114.out _).trans (hHeld.2.2.1)), ((cell_far (p := ⟨gb114, _, none⟩) NB102_114.out _).trans (hHeld.2.2.2))⟩ (fun hHeld => ?_)
     clear hK K
     refine one_ (i := 11) (N := none) #[true, true, true, true, true, true, true, true, true, true, true, true] rfl rfl (one_of HT_.out (by kernel_rfl)) (by decide) (fun K hK => ?_)
     have hs58 : w53.cell? ⟨gb115, 0, none⟩ = some (.int .i64 0) := (blk_cell BK115.out 0).trans rfl
     have hfs58 := blk_frozen BK115.out 0
     have hns58_0 := NB101_115.out
     have hns58_1 := NB102_115.out
     have hns58_2 := NB103_115.out
     have hns58_3 := NB104_115.out
     have hns58_4 := NB113_115.out
     have hns58_5 := NB114_115.out
     have hms58_0 := NB115_101.out
     have hms58_1 := NB115_102.out
     have hms58_2 := NB115_103.out
     have hms58_3 := NB115_104.out
     have hms58_4 := NB115_113.out
     have hms58_5 := NB115_114.out
     refine skip_ (w1 := ?_) (by rfl) rfl ?_ ?_
     rotate_left
     ·go_simp
      rfl
     refine hK.out _ _ ⟨((cell_far (p := ⟨gb115, _, none⟩) NB101_115.out _).trans (hHeld.1)), ((cell_far (p := ⟨gb115, _, none⟩) NB101_115.out _).trans (hHeld.2.1)), ((cell_far (p := ⟨gb115, _, none⟩) NB102_115.out _).trans (hHeld.2.2.1)), ((cell_far (p := ⟨gb115, _, none⟩) NB102_115.out _).trans (hHeld.2.2.2))⟩ (fun hHeld => ?_)
     clear hK K
     refine done_ (done_of HT_.out (by kernel_rfl)) ?_
     have hnb59 := NB101_102.out
     have hnc59 := NB102_101.out
     have hnb60 := NB101_103.out
     have hnc60 := NB103_101.out
     have hnb61 := NB101_104.out
     have hnc61 := NB104_101.out
     have hnb62 := NB101_113.out
     have hnc62 := NB113_101.out
     have hnb63 := NB101_114.out
     have hnc63 := NB114_101.out
     have hnb64 := NB101_115.out
     have hnc64 := NB115_101.out
     have hcz65_0 : w53.cell? ⟨gb101, 0, none⟩ = some (.int .i64 a0_0) := (blk_cell BK101.out 0).trans rfl
     have hcz65_1 : w53.cell? ⟨gb101, 1, none⟩ = some (.slice A0_1 l0_1.length c0_1) := (blk_cell BK101.out 1).trans rfl
     have hfz65_0 := blk_frozen BK101.out 0
     have hfz65_1 := blk_frozen BK101.out 1
     have hnb66 := NB115_102.out
     have hnc66 := NB102_115.out
     have hnb67 := NB115_103.out
     have hnc67 := NB103_115.out
     have hnb68 := NB115_104.out
     have hnc68 := NB104_115.out
     have hnb69 := NB115_113.out
     have hnc69 := NB113_115.out
     have hnb70 := NB115_114.out
     have hnc70 := NB114_115.out
     have hcz71_0 : w53.cell? ⟨gb115, 0, none⟩ = some (.int .i64 0) := (blk_cell BK115.out 0).trans rfl
     have hfz71_0 := blk_frozen BK115.out 0
     try go_wp2_with (first | ((with_reducible refine gate_callee (f := 50) rfl ?_); refine goesL_ (some 39) rfl rfl Try.func50 (by kernel_rfl) rfl #[.int .i64 (wrap64 (a0_0 * a1_0)), .func (.func 81) #[] #[.pointer (some ⟨gb115, 0, none⟩), .pointer (some ⟨gb103, 0, none⟩), .pointer (some ⟨gb113, 0, none⟩), .pointer (some ⟨gb114, 0, none⟩)]] rfl (by (try simp only [List.map_toArray, List.map_cons, List.map_nil]) <;> rfl) ?_; (with_reducible refine (impl_graphBy_productS.calls kj8 (wrap64 (a0_0 * a1_0)) gb115 gb103 gb113 gb114 a1_0 a2 Ao54 co54 t107 Ao56 co56 t110 t116 t117 _ ?side1 ?side2 ?side3 ?side4 ?side5 ?side6 ?side7 ?side8 A46.out).mono ?_); (case side1 => refine (Kd.R_reads' (e := 3) (base := w.heap.size) (ok := fun k_ => (some k_ ≠ (.slice Ao56 t110.length co56 : Value).ownBlock ∧ k_ ≠ gb115)) (n := t107.length) (c := co54) ?_).2.2; exact (by (with_reducible repeat (first | apply Kd.R_alloc | apply Kd.R_drewN | apply Kd.R_drew)); exact (Kd.R_mono (Kd.R_mono (Kd.R_mono (Kd.R_far (p := ⟨gb115, 0, none⟩) (Kd.R_far (p := ⟨gb114, 0, none⟩) (Kd.R_far (p := ⟨gb113, 0, none⟩) (Kd.R_mono (Kd.R_types (Kd.R_types HO109.out BK113.out (by decide)) BK114.out (by decide)) (fun k_ hk => (⟨hk, hk.1.1.2⟩ : _ ∧ k_ ≠ gb115))) (fun _ hk => hk.1.1.2) (.slice Ao54 t107.length co54)) (fun _ hk => hk.1.2) (.slice Ao56 t110.length co56)) (fun _ hk => hk.2) (.int .i64 a1_0)) (fun _ h_ => h_.1)) (fun _ h_ => h_.1)) (fun _ h_ => h_.1)))); (case side2 => exact (Kd.R_reads' HO109.out).2.1); (case side3 => refine (Kd.R_reads' (e := 3) (base := w.heap.size) (ok := fun k_ => (some k_ ≠ (.slice Ao54 t107.length co54 : Value).ownBlock ∧ k_ ≠ gb115)) (n := t110.length) (c := co56) ?_).2.2; exact (by (with_reducible repeat (first | apply Kd.R_alloc | apply Kd.R_drewN | apply Kd.R_drew)); exact (Kd.R_mono (Kd.R_mono (Kd.R_mono (Kd.R_far (p := ⟨gb115, 0, none⟩) (Kd.R_far (p := ⟨gb114, 0, none⟩) (Kd.R_far (p := ⟨gb113, 0, none⟩) (Kd.R_mono (Kd.R_types (Kd.R_types HO112.out BK113.out (by decide)) BK114.out (by decide)) (fun k_ hk => (⟨hk, hk.1.1.2⟩ : _ ∧ k_ ≠ gb115))) (fun _ hk => hk.1.1.2) (.slice Ao54 t107.length co54)) (fun _ hk => hk.1.2) (.slice Ao56 t110.length co56)) (fun _ hk => hk.2) (.int .i64 a1_0)) (fun _ h_ => h_.1)) (fun _ h_ => h_.1)) (fun _ h_ => h_.1)))); (case side4 => exact (Kd.R_reads' HO112.out).2.1); (case side5 => exact by (with_reducible repeat (first | refine blk_drewN ?_ _ | refine blk_drew ?_ | refine blk_alloc ?_ _)); refine blk_put (cs := #[.int .i64 0]) ?_ 0 _ rfl; (with_reducible repeat (first | refine blk_drewN ?_ _ | refine blk_drew ?_ | refine blk_alloc ?_ _)); refine blk_far ?_ NB115_114.out _; (with_reducible repeat (first | refine blk_drewN ?_ _ | refine blk_drew ?_ | refine blk_alloc ?_ _)); refine blk_far ?_ NB115_113.out _; (with_reducible repeat (first | refine blk_drewN ?_ _ | refine blk_drew ?_ | refine blk_alloc ?_ _)); exact BK115.out); (case side6 => exact by (with_reducible repeat (first | refine blk_drewN ?_ _ | refine blk_drew ?_ | refine blk_alloc ?_ _)); refine blk_far ?_ NB103_115.out _; (with_reducible repeat (first | refine blk_drewN ?_ _ | refine blk_drew ?_ | refine blk_alloc ?_ _)); refine blk_far ?_ NB103_114.out _; (with_reducible repeat (first | refine blk_drewN ?_ _ | refine blk_drew ?_ | refine blk_alloc ?_ _)); refine blk_far ?_ NB103_113.out _; (with_reducible repeat (first | refine blk_drewN ?_ _ | refine blk_drew ?_ | refine blk_alloc ?_ _)); exact BK103.out); (case side7 => exact by (with_reducible repeat (first | refine blk_drewN ?_ _ | refine blk_drew ?_ | refine blk_alloc ?_ _)); refine blk_far ?_ NB113_115.out _; (with_reducible repeat (first | refine blk_drewN ?_ _ | refine blk_drew ?_ | refine blk_alloc ?_ _)); refine blk_far ?_ NB113_114.out _; (with_reducible repeat (first | refine blk_drewN ?_ _ | refine blk_drew ?_ | refine blk_alloc ?_ _)); refine blk_put (cs := #[.slice none 0 0]) ?_ 0 _ rfl; (with_reducible repeat (first | refine blk_drewN ?_ _ | refine blk_drew ?_ | refine blk_alloc ?_ _)); exact BK113.out); (case side8 => exact by (with_reducible repeat (first | refine blk_drewN ?_ _ | refine blk_drew ?_ | refine blk_alloc ?_ _)); refine blk_far ?_ NB114_115.out _; (with_reducible repeat (first | refine blk_drewN ?_ _ | refine blk_drew ?_ | refine blk_alloc ?_ _)); refine blk_put (cs := #[.slice none 0 0]) ?_ 0 _ rfl; (with_reducible repeat (first | refine blk_drewN ?_ _ | refine blk_drew ?_ | refine blk_alloc ?_ _)); refine blk_far ?_ NB114_113.out _; (with_reducible repeat (first | refine blk_drewN ?_ _ | refine blk_drew ?_ | refine blk_alloc ?_ _)); exact BK114.out); rintro e w72 ⟨v118, rfl, ho0, hb⟩; refine ⟨_, rfl, ?_⟩; have n0_ := Aside0.mk (Kd.R_below (by (with_reducible repeat (first | apply Kd.R_alloc | apply Kd.R_drewN | apply Kd.R_drew)); exact (Kd.R_mono (Kd.R_mono (Kd.R_mono (Kd.R_far (p := ⟨gb115, 0, none⟩) (Kd.R_far (p := ⟨gb114, 0, none⟩) (Kd.R_far (p := ⟨gb113, 0, none⟩) (Kd.R_mono (Kd.R_types (Kd.R_types HO109.out BK113.out (by decide)) BK114.out (by decide)) (fun k_ hk => (⟨hk, hk.1.1.2⟩ : _ ∧ k_ ≠ gb115))) (fun _ hk => hk.1.1.2) (.slice Ao54 t107.length co54)) (fun _ hk => hk.1.2) (.slice Ao56 t110.length co56)) (fun _ hk => hk.2) (.int .i64 a1_0)) (fun _ h_ => h_.1)) (fun _ h_ => h_.1)) (fun _ h_ => h_.1))) hb); have n1_ := Aside0.mk (Kd.R_below (by (with_reducible repeat (first | apply Kd.R_alloc | apply Kd.R_drewN | apply Kd.R_drew)); exact (Kd.R_mono (Kd.R_mono (Kd.R_mono (Kd.R_far (p := ⟨gb115, 0, none⟩) (Kd.R_far (p := ⟨gb114, 0, none⟩) (Kd.R_far (p := ⟨gb113, 0, none⟩) (Kd.R_mono (Kd.R_types (Kd.R_types HO112.out BK113.out (by decide)) BK114.out (by decide)) (fun k_ hk => (⟨hk, hk.1.1.2⟩ : _ ∧ k_ ≠ gb115))) (fun _ hk => hk.1.1.2) (.slice Ao54 t107.length co54)) (fun _ hk => hk.1.2) (.slice Ao56 t110.length co56)) (fun _ hk => hk.2) (.int .i64 a1_0)) (fun _ h_ => h_.1)) (fun _ h_ => h_.1)) (fun _ h_ => h_.1))) hb); have n2_ := Aside0.mk (Kd.R_lower ho0 (below_size (by repeat (first | (with_reducible first | exact HB.out | apply below_alloc | apply pw_below_drewN | apply below_drew1 | refine below_set ?_ GE113.out | refine below_set ?_ GE114.out | refine below_set ?_ GE115.out) | exact HB.out)))); have n3_ := Aside0.mk (blk_below (g := gb101) (o := .cells #[.int .i64 a0_0, .slice A0_1 l0_1.length c0_1] 29 (0, 0)) (by (with_reducible repeat (first | refine blk_drewN ?_ _ | refine blk_drew ?_ | refine blk_alloc ?_ _)); refine blk_far ?_ NB101_115.out _; (with_reducible repeat (first | refine blk_drewN ?_ _ | refine blk_drew ?_ | refine blk_alloc ?_ _)); refine blk_far ?_ NB101_114.out _; (with_reducible repeat (first | refine blk_drewN ?_ _ | refine blk_drew ?_ | refine blk_alloc ?_ _)); refine blk_far ?_ NB101_113.out _; (with_reducible repeat (first | refine blk_drewN ?_ _ | refine blk_drew ?_ | refine blk_alloc ?_ _)); exact BK101.out) hb); have n4_ := Aside0.mk (blk_below (g := gb102) (o := .cells #[.int .i64 a1_0, .slice A1_1 l1_1.length c1_1] 29 (0, 0)) (by (with_reducible repeat (first | refine blk_drewN ?_ _ | refine blk_drew ?_ | refine blk_alloc ?_ _)); refine blk_far ?_ NB102_115.out _; (with_reducible repeat (first | refine blk_drewN ?_ _ | refine blk_drew ?_ | refine blk_alloc ?_ _)); refine blk_far ?_ NB102_114.out _; (with_reducible repeat (first | refine blk_drewN ?_ _ | refine blk_drew ?_ | refine blk_alloc ?_ _)); refine blk_far ?_ NB102_113.out _; (with_reducible repeat (first | refine blk_drewN ?_ _ | refine blk_drew ?_ | refine blk_alloc ?_ _)); exact BK102.out) hb); have n5_ := Aside0.mk (blk_below (g := gb103) (o := .cells #[.func (.func 71) #[] #[]] 65 (0, 0)) (by (with_reducible repeat (first | refine blk_drewN ?_ _ | refine blk_drew ?_ | refine blk_alloc ?_ _)); refine blk_far ?_ NB103_115.out _; (with_reducible repeat (first | refine blk_drewN ?_ _ | refine blk_drew ?_ | refine blk_alloc ?_ _)); refine blk_far ?_ NB103_114.out _; (with_reducible repeat (first | refine blk_drewN ?_ _ | refine blk_drew ?_ | refine blk_alloc ?_ _)); refine blk_far ?_ NB103_113.out _; (with_reducible repeat (first | refine blk_drewN ?_ _ | refine blk_drew ?_ | refine blk_alloc ?_ _)); exact BK103.out) hb); have n6_ := Aside0.mk (blk_below (g := gb104) (o := .cells #[.int .i64 0, .slice none 0 0] 29 (0, 0)) (by (with_reducible repeat (first | refine blk_drewN ?_ _ | refine blk_drew ?_ | refine blk_alloc ?_ _)); refine blk_far ?_ NB104_115.out _; (with_reducible repeat (first | refine blk_drewN ?_ _ | refine blk_drew ?_ | refine blk_alloc ?_ _)); refine blk_far ?_ NB104_114.out _; (with_reducible repeat (first | refine blk_drewN ?_ _ | refine blk_drew ?_ | refine blk_alloc ?_ _)); refine blk_far ?_ NB104_113.out _; (with_reducible repeat (first | refine blk_drewN ?_ _ | refine blk_drew ?_ | refine blk_alloc ?_ _)); exact BK104.out) hb); have n7_ := Aside0.mk (blk_below (g := gb113) (o := .cells #[.slice Ao54 t107.length co54] 61 (0, 0)) (by (with_reducible repeat (first | refine blk_drewN ?_ _ | refine blk_drew ?_ | refine blk_alloc ?_ _)); refine blk_far ?_ NB113_115.out _; (with_reducible repeat (first | refine blk_drewN ?_ _ | refine blk_drew ?_ | refine blk_alloc ?_ _)); refine blk_far ?_ NB113_114.out _; (with_reducible repeat (first | refine blk_drewN ?_ _ | refine blk_drew ?_ | refine blk_alloc ?_ _)); refine blk_put (cs := #[.slice none 0 0]) ?_ 0 _ rfl; (with_reducible repeat (first | refine blk_drewN ?_ _ | refine blk_drew ?_ | refine blk_alloc ?_ _)); exact BK113.out) hb); have n8_ := Aside0.mk (blk_below (g := gb114) (o := .cells #[.slice Ao56 t110.length co56] 61 (0, 0)) (by (with_reducible repeat (first | refine blk_drewN ?_ _ | refine blk_drew ?_ | refine blk_alloc ?_ _)); refine blk_far ?_ NB114_115.out _; (with_reducible repeat (first | refine blk_drewN ?_ _ | refine blk_drew ?_ | refine blk_alloc ?_ _)); refine blk_put (cs := #[.slice none 0 0]) ?_ 0 _ rfl; (with_reducible repeat (first | refine blk_drewN ?_ _ | refine blk_drew ?_ | refine blk_alloc ?_ _)); refine blk_far ?_ NB114_113.out _; (with_reducible repeat (first | refine blk_drewN ?_ _ | refine blk_drew ?_ | refine blk_alloc ?_ _)); exact BK114.out) hb); have n9_ := Aside0.mk (blk_below (g := gb115) (o := .cells #[.int .i64 a1_0] 3 (0, 0)) (by (with_reducible repeat (first | refine blk_drewN ?_ _ | refine blk_drew ?_ | refine blk_alloc ?_ _)); refine blk_put (cs := #[.int .i64 0]) ?_ 0 _ rfl; (with_reducible repeat (first | refine blk_drewN ?_ _ | refine blk_drew ?_ | refine blk_alloc ?_ _)); refine blk_far ?_ NB115_114.out _; (with_reducible repeat (first | refine blk_drewN ?_ _ | refine blk_drew ?_ | refine blk_alloc ?_ _)); refine blk_far ?_ NB115_113.out _; (with_reducible repeat (first | refine blk_drewN ?_ _ | refine blk_drew ?_ | refine blk_alloc ?_ _)); exact BK115.out) hb); have n10_ := Aside0.mk (below_step (by repeat (first | (with_reducible first | exact HB.out | apply below_alloc | apply pw_below_drewN | apply below_drew1 | refine below_set ?_ GE113.out | refine below_set ?_ GE114.out | refine below_set ?_ GE115.out) | exact HB.out)) hb); clear HO109; clear HO112; clear BK101; clear BK102; clear BK103; clear BK104; clear BK113; clear BK114; clear BK115; clear HB; have HO109 := n0_; have HO112 := n1_; have HO119 := n2_; have BK101 := n3_; have BK102 := n4_; have BK103 := n5_; have BK104 := n6_; have BK113 := n7_; have BK114 := n8_; have BK115 := n9_; have HB := n10_; clear n0_ n1_ n2_ n3_ n4_ n5_ n6_ n7_ n8_ n9_ n10_; (try clear hb); (try clear hb2); (try clear hk); (try clear hi); (try clear ho0); have hnb73 := NB104_102.out; have hnc73 := NB102_104.out; have hnb74 := NB104_103.out; have hnc74 := NB103_104.out; have hnb75 := NB104_113.out; have hnc75 := NB113_104.out; have hnb76 := NB104_114.out; have hnc76 := NB114_104.out; have hcz77_0 : w72.cell? ⟨gb104, 0, none⟩ = some (.int .i64 0) := (blk_cell BK104.out 0).trans rfl; have hcz77_1 : w72.cell? ⟨gb104, 1, none⟩ = some (.slice none 0 0) := (blk_cell BK104.out 1).trans rfl; have hfz77_0 := blk_frozen BK104.out 0; have hfz77_1 := blk_frozen BK104.out 1; obtain ⟨Ao78, co78, eo78⟩ := Kd.R_slice HO119.out; subst eo78))
     refine bodyPost_ret (results_ct rfl _ _ gb104 29 #[.int .i64 t116, .slice Ao78 t117.length co78] (0, 0) _ rfl (by (with_reducible repeat (first | refine blk_drewN ?_ _ | refine blk_drew ?_ | refine blk_alloc ?_ _)); refine blk_put (cs := #[.int .i64 t116, .slice none 0 0]) ?_ 1 _ rfl; (with_reducible repeat (first | refine blk_drewN ?_ _ | refine blk_drew ?_ | refine blk_alloc ?_ _)); refine blk_put (cs := #[.int .i64 0, .slice none 0 0]) ?_ 0 _ rfl; (with_reducible repeat (first | refine blk_drewN ?_ _ | refine blk_drew ?_ | refine blk_alloc ?_ _)); exact BK104.out) Try.underlying29 rfl (by kernel_rfl)) rfl ?_
     exact ⟨_, by first | rfl | (simp [errW_none, errW_some] <;> rfl) | (simp [*, errW_none, errW_some] <;> rfl), by (with_reducible repeat (first | apply Kd.R_alloc | apply Kd.R_drewN | apply Kd.R_drew)); exact Kd.R_mono (Kd.R_far (p := ⟨gb104, 1, none⟩) (Kd.R_far (p := ⟨gb104, 0, none⟩) (Kd.R_types HO119.out BK104.out (by decide)) (fun _ hk => hk.2) (.int .i64 t116)) (fun _ hk => hk.2) (.slice Ao78 t117.length co78)) (fun _ hk => trivial), by repeat (first | (with_reducible first | exact HB.out | apply below_alloc | apply pw_below_drewN | apply below_drew1 | refine below_set ?_ GE104.out) | exact HB.out)⟩

    ·skip
     ·skip
      rintro ⟨v108, v111, gb113, gb114⟩ w52 ⟨hS_, h0_, h1_, h2_, h3_, h4_, h5_, h6_, h7_, h8_, h9_, h10_, h11_, h12_, h13_, h14_, h15_, h16_, h17_, h18_, h19_, h20_, h21_, h22_, h23_, h24_, h25_, h26_, h27_, h28_, h29_, h30_⟩
      have n0_ : Aside0 (Kd.R (Kd.int .i64) 3 w52 w.heap.size (fun k_ => some k_ ≠ (v111 : Value).ownBlock) v108 t107) := ⟨h0_⟩
      have n1_ : Aside0 (Kd.R (Kd.int .i64) 3 w52 w.heap.size (fun k_ => some k_ ≠ (v108 : Value).ownBlock) v111 t110) := ⟨h1_⟩
      have n2_ : Aside0 (w52.heap[gb101]? = some (.cells #[.int .i64 a0_0, .slice A0_1 l0_1.length c0_1] 29 (0, 0))) := ⟨h2_⟩
      have n3_ : Aside0 (w52.heap[gb102]? = some (.cells #[.int .i64 a1_0, .slice A1_1 l1_1.length c1_1] 29 (0, 0))) := ⟨h3_⟩
      have n4_ : Aside0 (w52.heap[gb103]? = some (.cells #[.func (.func 71) #[] #[]] 65 (0, 0))) := ⟨h4_⟩
      have n5_ : Aside0 (w52.heap[gb104]? = some (.cells #[.int .i64 0, .slice none 0 0] 29 (0, 0))) := ⟨h5_⟩
      have n6_ : Aside0 (w52.heap[gb113]? = some (.cells #[.slice none 0 0] 61 (0, 0))) := ⟨h6_⟩
      have n7_ : Aside0 (w52.heap[gb114]? = some (.cells #[.slice none 0 0] 61 (0, 0))) := ⟨h7_⟩
      have n8_ : Aside0 (w.heap.size ≤ gb113) := ⟨h8_⟩
      have n9_ : Aside0 (w.heap.size ≤ gb113) := ⟨h9_⟩
      have n10_ : Aside0 (gb101 ≠ gb113) := ⟨h10_⟩
      have n11_ : Aside0 (gb113 ≠ gb101) := ⟨h11_⟩
      have n12_ : Aside0 (gb102 ≠ gb113) := ⟨h12_⟩
      have n13_ : Aside0 (gb113 ≠ gb102) := ⟨h13_⟩
      have n14_ : Aside0 (gb103 ≠ gb113) := ⟨h14_⟩
      have n15_ : Aside0 (gb113 ≠ gb103) := ⟨h15_⟩
      have n16_ : Aside0 (gb104 ≠ gb113) := ⟨h16_⟩
      have n17_ : Aside0 (gb113 ≠ gb104) := ⟨h17_⟩
      have n18_ : Aside0 (gb114 ≠ gb113) := ⟨h18_⟩
      have n19_ : Aside0 (gb113 ≠ gb114) := ⟨h19_⟩
      have n20_ : Aside0 (w.heap.size ≤ gb114) := ⟨h20_⟩
      have n21_ : Aside0 (w.heap.size ≤ gb114) := ⟨h21_⟩
      have n22_ : Aside0 (gb101 ≠ gb114) := ⟨h22_⟩
      have n23_ : Aside0 (gb114 ≠ gb101) := ⟨h23_⟩
      have n24_ : Aside0 (gb102 ≠ gb114) := ⟨h24_⟩
      have n25_ : Aside0 (gb114 ≠ gb102) := ⟨h25_⟩
      have n26_ : Aside0 (gb103 ≠ gb114) := ⟨h26_⟩
      have n27_ : Aside0 (gb114 ≠ gb103) := ⟨h27_⟩
      have n28_ : Aside0 (gb104 ≠ gb114) := ⟨h28_⟩
      have n29_ : Aside0 (gb114 ≠ gb104) := ⟨h29_⟩
      have n30_ : Aside0 (Below w.heap.size w w52) := ⟨h30_⟩
      clear BK101
      clear BK102
      clear BK103
      clear BK104
      clear HB
      clear h0_ h1_ h2_ h3_ h4_ h5_ h6_ h7_ h8_ h9_ h10_ h11_ h12_ h13_ h14_ h15_ h16_ h17_ h18_ h19_ h20_ h21_ h22_ h23_ h24_ h25_ h26_ h27_ h28_ h29_ h30_
      have HO109 := n0_
      have HO112 := n1_
      have BK101 := n2_
      have BK102 := n3_
      have BK103 := n4_
      have BK104 := n5_
      have BK113 := n6_
      have BK114 := n7_
      have GW113 := n8_
      have GE113 := n9_
      have NB101_113 := n10_
      have NB113_101 := n11_
      have NB102_113 := n12_
      have NB113_102 := n13_
      have NB103_113 := n14_
      have NB113_103 := n15_
      have NB104_113 := n16_
      have NB113_104 := n17_
      have NB114_113 := n18_
      have NB113_114 := n19_
      have GW114 := n20_
      have GE114 := n21_
      have NB101_114 := n22_
      have NB114_101 := n23_
      have NB102_114 := n24_
      have NB114_102 := n25_
      have NB103_114 := n26_
      have NB114_103 := n27_
      have NB104_114 := n28_
      have NB114_104 := n29_
      have HB := n30_
      clear n0_ n1_ n2_ n3_ n4_ n5_ n6_ n7_ n8_ n9_ n10_ n11_ n12_ n13_ n14_ n15_ n16_ n17_ n18_ n19_ n20_ n21_ n22_ n23_ n24_ n25_ n26_ n27_ n28_ n29_ n30_
      have hHeld : w52.cell? ⟨gb101, 0, none⟩ = some (.int .i64 a0_0) ∧ w52.cell? ⟨gb101, 1, none⟩ = some (.slice A0_1 l0_1.length c0_1) ∧ w52.cell? ⟨gb102, 0, none⟩ = some (.int .i64 a1_0) ∧ w52.cell? ⟨gb102, 1, none⟩ = some (.slice A1_1 l1_1.length c1_1) := hS_
      refine norm_ (a' := ?_) ?_ ?_
      rotate_left
      ·simp only [putAll, Act.put, List.setIfInBounds_toArray, List.set_cons_zero, List.set_cons_succ]
       rfl
      refine one_ (i := 8) (N := some 10) #[true, true, true, true, true, true, true, true, true, false, false, false] rfl rfl (one_of HT_.out (by kernel_rfl)) (by decide) (fun K hK => ?_)
      refine box_step ?hg (N := 10) ?hd (cs := #[.int .i64 0]) (t := 3) ?hr ?_; (case hd => rfl); (case hg => rfl); (case hr => first | (go_simp; done) | (go_simp; rfl))
      intro gb115 hg w53 hbox hb
      have BK115 := Aside0.mk (hbox)
      have GW115 := geN HB.out hg
      have GE115 := geN HB.out hg
      have NB101_115 := neL BK101.out hg
      have NB115_101 := neR BK101.out hg
      have NB102_115 := neL BK102.out hg
      have NB115_102 := neR BK102.out hg
      have NB103_115 := neL BK103.out hg
      have NB115_103 := neR BK103.out hg
      have NB104_115 := neL BK104.out hg
      have NB115_104 := neR BK104.out hg
      have NB113_115 := neL BK113.out hg
      have NB115_113 := neR BK113.out hg
      have NB114_115 := neL BK114.out hg
      have NB115_114 := neR BK114.out hg
      replace HO109 := Aside0.mk (Kd.R_below (Kd.R_elderB HO109.out gb115 (Nat.le_of_eq hg.symm)) hb)
      replace HO112 := Aside0.mk (Kd.R_below (Kd.R_elderB HO112.out gb115 (Nat.le_of_eq hg.symm)) hb)
      replace BK101 := Aside0.mk (blk_below BK101.out hb)
      replace BK102 := Aside0.mk (blk_below BK102.out hb)
      replace BK103 := Aside0.mk (blk_below BK103.out hb)
      replace BK104 := Aside0.mk (blk_below BK104.out hb)
      replace BK113 := Aside0.mk (blk_below BK113.out hb)
      replace BK114 := Aside0.mk (blk_below BK114.out hb)
      replace HB := Aside0.mk (below_step HB.out hb)
      clear hb hbox hg
      refine hK.out _ _ ⟨(blk_cell BK101.out 0).trans rfl, (blk_cell BK101.out 1).trans rfl, (blk_cell BK102.out 0).trans rfl, (blk_cell BK102.out 1).trans rfl⟩ (fun hHeld => ?_)
      clear hK K
      refine norm_ (a' := ?_) ?_ ?_
      rotate_left
      ·show Act.put _ (some 10) _ = _
       simp only [Act.put, List.setIfInBounds_toArray, List.set_cons_zero, List.set_cons_succ, i64_w, i32_w]
       rfl
      exact norm_ (by simp only [putAll, Act.put, List.setIfInBounds_toArray, List.set_cons_zero, List.set_cons_succ] <;> rfl) (hJ1_3_6_7_8 (v108, v111, gb113, gb114, gb115) _ ⟨hHeld, HO109.out, HO112.out, BK101.out, BK102.out, BK103.out, BK104.out, BK113.out, BK114.out, BK115.out, GW113.out, GE113.out, NB101_113.out, NB113_101.out, NB102_113.out, NB113_102.out, NB103_113.out, NB113_103.out, NB104_113.out, NB113_104.out, NB114_113.out, NB113_114.out, NB115_113.out, NB113_115.out, GW114.out, GE114.out, NB101_114.out, NB114_101.out, NB102_114.out, NB114_102.out, NB103_114.out, NB114_103.out, NB104_114.out, NB114_104.out, NB115_114.out, NB114_115.out, GW115.out, GE115.out, NB101_115.out, NB115_101.out, NB102_115.out, NB115_102.out, NB103_115.out, NB115_103.out, NB104_115.out, NB115_104.out, HB.out⟩)
    ·skip
     ·skip
      rintro ⟨v108, v111, gb113, gb115⟩ w52 ⟨hS_, h0_, h1_, h2_, h3_, h4_, h5_, h6_, h7_, h8_, h9_, h10_, h11_, h12_, h13_, h14_, h15_, h16_, h17_, h18_, h19_, h20_, h21_, h22_, h23_, h24_, h25_, h26_, h27_, h28_, h29_, h30_⟩
      have n0_ : Aside0 (Kd.R (Kd.int .i64) 3 w52 w.heap.size (fun k_ => some k_ ≠ (v111 : Value).ownBlock ∧ k_ ≠ gb115) v108 t107) := ⟨h0_⟩
      have n1_ : Aside0 (Kd.R (Kd.int .i64) 3 w52 w.heap.size (fun k_ => some k_ ≠ (v108 : Value).ownBlock ∧ k_ ≠ gb115) v111 t110) := ⟨h1_⟩
      have n2_ : Aside0 (w52.heap[gb101]? = some (.cells #[.int .i64 a0_0, .slice A0_1 l0_1.length c0_1] 29 (0, 0))) := ⟨h2_⟩
      have n3_ : Aside0 (w52.heap[gb102]? = some (.cells #[.int .i64 a1_0, .slice A1_1 l1_1.length c1_1] 29 (0, 0))) := ⟨h3_⟩
      have n4_ : Aside0 (w52.heap[gb103]? = some (.cells #[.func (.func 71) #[] #[]] 65 (0, 0))) := ⟨h4_⟩
      have n5_ : Aside0 (w52.heap[gb104]? = some (.cells #[.int .i64 0, .slice none 0 0] 29 (0, 0))) := ⟨h5_⟩
      have n6_ : Aside0 (w52.heap[gb113]? = some (.cells #[.slice none 0 0] 61 (0, 0))) := ⟨h6_⟩
      have n7_ : Aside0 (w52.heap[gb115]? = some (.cells #[.int .i64 0] 3 (0, 0))) := ⟨h7_⟩
      have n8_ : Aside0 (w.heap.size ≤ gb113) := ⟨h8_⟩
      have n9_ : Aside0 (w.heap.size ≤ gb113) := ⟨h9_⟩
      have n10_ : Aside0 (gb101 ≠ gb113) := ⟨h10_⟩
      have n11_ : Aside0 (gb113 ≠ gb101) := ⟨h11_⟩
      have n12_ : Aside0 (gb102 ≠ gb113) := ⟨h12_⟩
      have n13_ : Aside0 (gb113 ≠ gb102) := ⟨h13_⟩
      have n14_ : Aside0 (gb103 ≠ gb113) := ⟨h14_⟩
      have n15_ : Aside0 (gb113 ≠ gb103) := ⟨h15_⟩
      have n16_ : Aside0 (gb104 ≠ gb113) := ⟨h16_⟩
      have n17_ : Aside0 (gb113 ≠ gb104) := ⟨h17_⟩
      have n18_ : Aside0 (gb115 ≠ gb113) := ⟨h18_⟩
      have n19_ : Aside0 (gb113 ≠ gb115) := ⟨h19_⟩
      have n20_ : Aside0 (w.heap.size ≤ gb115) := ⟨h20_⟩
      have n21_ : Aside0 (w.heap.size ≤ gb115) := ⟨h21_⟩
      have n22_ : Aside0 (gb101 ≠ gb115) := ⟨h22_⟩
      have n23_ : Aside0 (gb115 ≠ gb101) := ⟨h23_⟩
      have n24_ : Aside0 (gb102 ≠ gb115) := ⟨h24_⟩
      have n25_ : Aside0 (gb115 ≠ gb102) := ⟨h25_⟩
      have n26_ : Aside0 (gb103 ≠ gb115) := ⟨h26_⟩
      have n27_ : Aside0 (gb115 ≠ gb103) := ⟨h27_⟩
      have n28_ : Aside0 (gb104 ≠ gb115) := ⟨h28_⟩
      have n29_ : Aside0 (gb115 ≠ gb104) := ⟨h29_⟩
      have n30_ : Aside0 (Below w.heap.size w w52) := ⟨h30_⟩
      clear BK101
      clear BK102
      clear BK103
      clear BK104
      clear HB
      clear h0_ h1_ h2_ h3_ h4_ h5_ h6_ h7_ h8_ h9_ h10_ h11_ h12_ h13_ h14_ h15_ h16_ h17_ h18_ h19_ h20_ h21_ h22_ h23_ h24_ h25_ h26_ h27_ h28_ h29_ h30_
      have HO109 := n0_
      have HO112 := n1_
      have BK101 := n2_
      have BK102 := n3_
      have BK103 := n4_
      have BK104 := n5_
      have BK113 := n6_
      have BK115 := n7_
      have GW113 := n8_
      have GE113 := n9_
      have NB101_113 := n10_
      have NB113_101 := n11_
      have NB102_113 := n12_
      have NB113_102 := n13_
      have NB103_113 := n14_
      have NB113_103 := n15_
      have NB104_113 := n16_
      have NB113_104 := n17_
      have NB115_113 := n18_
      have NB113_115 := n19_
      have GW115 := n20_
      have GE115 := n21_
      have NB101_115 := n22_
      have NB115_101 := n23_
      have NB102_115 := n24_
      have NB115_102 := n25_
      have NB103_115 := n26_
      have NB115_103 := n27_
      have NB104_115 := n28_
      have NB115_104 := n29_
      have HB := n30_
      clear n0_ n1_ n2_ n3_ n4_ n5_ n6_ n7_ n8_ n9_ n10_ n11_ n12_ n13_ n14_ n15_ n16_ n17_ n18_ n19_ n20_ n21_ n22_ n23_ n24_ n25_ n26_ n27_ n28_ n29_ n30_
      have hHeld : w52.cell? ⟨gb101, 0, none⟩ = some (.int .i64 a0_0) ∧ w52.cell? ⟨gb101, 1, none⟩ = some (.slice A0_1 l0_1.length c0_1) ∧ w52.cell? ⟨gb102, 0, none⟩ = some (.int .i64 a1_0) ∧ w52.cell? ⟨gb102, 1, none⟩ = some (.slice A1_1 l1_1.length c1_1) := hS_
      refine norm_ (a' := ?_) ?_ ?_
      rotate_left
      ·simp only [putAll, Act.put, List.setIfInBounds_toArray, List.set_cons_zero, List.set_cons_succ]
       rfl
      refine one_ (i := 7) (N := some 9) #[true, true, true, true, true, true, true, true, true, false, false, false] rfl rfl (one_of HT_.out (by kernel_rfl)) (by decide) (fun K hK => ?_)
      refine box_step ?hg (N := 9) ?hd (cs := #[.slice none 0 0]) (t := 61) ?hr ?_; (case hd => rfl); (case hg => rfl); (case hr => first | (go_simp; done) | (go_simp; rfl))
      intro gb114 hg w53 hbox hb
      have BK114 := Aside0.mk (hbox)
      have GW114 := geN HB.out hg
      have GE114 := geN HB.out hg
      have NB101_114 := neL BK101.out hg
      have NB114_101 := neR BK101.out hg
      have NB102_114 := neL BK102.out hg
      have NB114_102 := neR BK102.out hg
      have NB103_114 := neL BK103.out hg
      have NB114_103 := neR BK103.out hg
      have NB104_114 := neL BK104.out hg
      have NB114_104 := neR BK104.out hg
      have NB113_114 := neL BK113.out hg
      have NB114_113 := neR BK113.out hg
      have NB115_114 := neL BK115.out hg
      have NB114_115 := neR BK115.out hg
      replace HO109 := Aside0.mk (Kd.R_below HO109.out hb)
      replace HO112 := Aside0.mk (Kd.R_below HO112.out hb)
      replace BK101 := Aside0.mk (blk_below BK101.out hb)
      replace BK102 := Aside0.mk (blk_below BK102.out hb)
      replace BK103 := Aside0.mk (blk_below BK103.out hb)
      replace BK104 := Aside0.mk (blk_below BK104.out hb)
      replace BK113 := Aside0.mk (blk_below BK113.out hb)
      replace BK115 := Aside0.mk (blk_below BK115.out hb)
      replace HB := Aside0.mk (below_step HB.out hb)
      clear hb hbox hg
      refine hK.out _ _ ⟨(blk_cell BK101.out 0).trans rfl, (blk_cell BK101.out 1).trans rfl, (blk_cell BK102.out 0).trans rfl, (blk_cell BK102.out 1).trans rfl⟩ (fun hHeld => ?_)
      clear hK K
      refine norm_ (a' := ?_) ?_ ?_
      rotate_left
      ·show Act.put _ (some 9) _ = _
       simp only [Act.put, List.setIfInBounds_toArray, List.set_cons_zero, List.set_cons_succ, i64_w, i32_w]
       rfl
      exact norm_ (by simp only [putAll, Act.put, List.setIfInBounds_toArray, List.set_cons_zero, List.set_cons_succ] <;> rfl) (hJ1_3_6_7_8 (v108, v111, gb113, gb114, gb115) _ ⟨hHeld, HO109.out, HO112.out, BK101.out, BK102.out, BK103.out, BK104.out, BK113.out, BK114.out, BK115.out, GW113.out, GE113.out, NB101_113.out, NB113_101.out, NB102_113.out, NB113_102.out, NB103_113.out, NB113_103.out, NB104_113.out, NB113_104.out, NB114_113.out, NB113_114.out, NB115_113.out, NB113_115.out, GW114.out, GE114.out, NB101_114.out, NB114_101.out, NB102_114.out, NB114_102.out, NB103_114.out, NB114_103.out, NB104_114.out, NB114_104.out, NB115_114.out, NB114_115.out, GW115.out, GE115.out, NB101_115.out, NB115_101.out, NB102_115.out, NB115_102.out, NB103_115.out, NB115_103.out, NB104_115.out, NB115_104.out, HB.out⟩)
    ·skip
     ·skip
      rintro ⟨v108, v111, gb114, gb115⟩ w52 ⟨hS_, h0_, h1_, h2_, h3_, h4_, h5_, h6_, h7_, h8_, h9_, h10_, h11_, h12_, h13_, h14_, h15_, h16_, h17_, h18_, h19_, h20_, h21_, h22_, h23_, h24_, h25_, h26_, h27_, h28_, h29_, h30_⟩
      have n0_ : Aside0 (Kd.R (Kd.int .i64) 3 w52 w.heap.size (fun k_ => some k_ ≠ (v111 : Value).ownBlock ∧ k_ ≠ gb115) v108 t107) := ⟨h0_⟩
      have n1_ : Aside0 (Kd.R (Kd.int .i64) 3 w52 w.heap.size (fun k_ => some k_ ≠ (v108 : Value).ownBlock ∧ k_ ≠ gb115) v111 t110) := ⟨h1_⟩
      have n2_ : Aside0 (w52.heap[gb101]? = some (.cells #[.int .i64 a0_0, .slice A0_1 l0_1.length c0_1] 29 (0, 0))) := ⟨h2_⟩
      have n3_ : Aside0 (w52.heap[gb102]? = some (.cells #[.int .i64 a1_0, .slice A1_1 l1_1.length c1_1] 29 (0, 0))) := ⟨h3_⟩
      have n4_ : Aside0 (w52.heap[gb103]? = some (.cells #[.func (.func 71) #[] #[]] 65 (0, 0))) := ⟨h4_⟩
      have n5_ : Aside0 (w52.heap[gb104]? = some (.cells #[.int .i64 0, .slice none 0 0] 29 (0, 0))) := ⟨h5_⟩
      have n6_ : Aside0 (w52.heap[gb114]? = some (.cells #[.slice none 0 0] 61 (0, 0))) := ⟨h6_⟩
      have n7_ : Aside0 (w52.heap[gb115]? = some (.cells #[.int .i64 0] 3 (0, 0))) := ⟨h7_⟩
      have n8_ : Aside0 (w.heap.size ≤ gb114) := ⟨h8_⟩
      have n9_ : Aside0 (w.heap.size ≤ gb114) := ⟨h9_⟩
      have n10_ : Aside0 (gb101 ≠ gb114) := ⟨h10_⟩
      have n11_ : Aside0 (gb114 ≠ gb101) := ⟨h11_⟩
      have n12_ : Aside0 (gb102 ≠ gb114) := ⟨h12_⟩
      have n13_ : Aside0 (gb114 ≠ gb102) := ⟨h13_⟩
      have n14_ : Aside0 (gb103 ≠ gb114) := ⟨h14_⟩
      have n15_ : Aside0 (gb114 ≠ gb103) := ⟨h15_⟩
      have n16_ : Aside0 (gb104 ≠ gb114) := ⟨h16_⟩
      have n17_ : Aside0 (gb114 ≠ gb104) := ⟨h17_⟩
      have n18_ : Aside0 (gb115 ≠ gb114) := ⟨h18_⟩
      have n19_ : Aside0 (gb114 ≠ gb115) := ⟨h19_⟩
      have n20_ : Aside0 (w.heap.size ≤ gb115) := ⟨h20_⟩
      have n21_ : Aside0 (w.heap.size ≤ gb115) := ⟨h21_⟩
      have n22_ : Aside0 (gb101 ≠ gb115) := ⟨h22_⟩
      have n23_ : Aside0 (gb115 ≠ gb101) := ⟨h23_⟩
      have n24_ : Aside0 (gb102 ≠ gb115) := ⟨h24_⟩
      have n25_ : Aside0 (gb115 ≠ gb102) := ⟨h25_⟩
      have n26_ : Aside0 (gb103 ≠ gb115) := ⟨h26_⟩
      have n27_ : Aside0 (gb115 ≠ gb103) := ⟨h27_⟩
      have n28_ : Aside0 (gb104 ≠ gb115) := ⟨h28_⟩
      have n29_ : Aside0 (gb115 ≠ gb104) := ⟨h29_⟩
      have n30_ : Aside0 (Below w.heap.size w w52) := ⟨h30_⟩
      clear BK101
      clear BK102
      clear BK103
      clear BK104
      clear HB
      clear h0_ h1_ h2_ h3_ h4_ h5_ h6_ h7_ h8_ h9_ h10_ h11_ h12_ h13_ h14_ h15_ h16_ h17_ h18_ h19_ h20_ h21_ h22_ h23_ h24_ h25_ h26_ h27_ h28_ h29_ h30_
      have HO109 := n0_
      have HO112 := n1_
      have BK101 := n2_
      have BK102 := n3_
      have BK103 := n4_
      have BK104 := n5_
      have BK114 := n6_
      have BK115 := n7_
      have GW114 := n8_
      have GE114 := n9_
      have NB101_114 := n10_
      have NB114_101 := n11_
      have NB102_114 := n12_
      have NB114_102 := n13_
      have NB103_114 := n14_
      have NB114_103 := n15_
      have NB104_114 := n16_
      have NB114_104 := n17_
      have NB115_114 := n18_
      have NB114_115 := n19_
      have GW115 := n20_
      have GE115 := n21_
      have NB101_115 := n22_
      have NB115_101 := n23_
      have NB102_115 := n24_
      have NB115_102 := n25_
      have NB103_115 := n26_
      have NB115_103 := n27_
      have NB104_115 := n28_
      have NB115_104 := n29_
      have HB := n30_
      clear n0_ n1_ n2_ n3_ n4_ n5_ n6_ n7_ n8_ n9_ n10_ n11_ n12_ n13_ n14_ n15_ n16_ n17_ n18_ n19_ n20_ n21_ n22_ n23_ n24_ n25_ n26_ n27_ n28_ n29_ n30_
      have hHeld : w52.cell? ⟨gb101, 0, none⟩ = some (.int .i64 a0_0) ∧ w52.cell? ⟨gb101, 1, none⟩ = some (.slice A0_1 l0_1.length c0_1) ∧ w52.cell? ⟨gb102, 0, none⟩ = some (.int .i64 a1_0) ∧ w52.cell? ⟨gb102, 1, none⟩ = some (.slice A1_1 l1_1.length c1_1) := hS_
      refine norm_ (a' := ?_) ?_ ?_
      rotate_left
      ·simp only [putAll, Act.put, List.setIfInBounds_toArray, List.set_cons_zero, List.set_cons_succ]
       rfl
      refine one_ (i := 6) (N := some 8) #[true, true, true, true, true, true, true, true, true, false, false, false] rfl rfl (one_of HT_.out (by kernel_rfl)) (by decide) (fun K hK => ?_)
      refine box_step ?hg (N := 8) ?hd (cs := #[.slice none 0 0]) (t := 61) ?hr ?_; (case hd => rfl); (case hg => rfl); (case hr => first | (go_simp; done) | (go_simp; rfl))
      intro gb113 hg w53 hbox hb
      have BK113 := Aside0.mk (hbox)
      have GW113 := geN HB.out hg
      have GE113 := geN HB.out hg
      have NB101_113 := neL BK101.out hg
      have NB113_101 := neR BK101.out hg
      have NB102_113 := neL BK102.out hg
      have NB113_102 := neR BK102.out hg
      have NB103_113 := neL BK103.out hg
      have NB113_103 := neR BK103.out hg
      have NB104_113 := neL BK104.out hg
      have NB113_104 := neR BK104.out hg
      have NB114_113 := neL BK114.out hg
      have NB113_114 := neR BK114.out hg
      have NB115_113 := neL BK115.out hg
      have NB113_115 := neR BK115.out hg
      replace HO109 := Aside0.mk (Kd.R_below HO109.out hb)
      replace HO112 := Aside0.mk (Kd.R_below HO112.out hb)
      replace BK101 := Aside0.mk (blk_below BK101.out hb)
      replace BK102 := Aside0.mk (blk_below BK102.out hb)
      replace BK103 := Aside0.mk (blk_below BK103.out hb)
      replace BK104 := Aside0.mk (blk_below BK104.out hb)
      replace BK114 := Aside0.mk (blk_below BK114.out hb)
      replace BK115 := Aside0.mk (blk_below BK115.out hb)
      replace HB := Aside0.mk (below_step HB.out hb)
      clear hb hbox hg
      refine hK.out _ _ ⟨(blk_cell BK101.out 0).trans rfl, (blk_cell BK101.out 1).trans rfl, (blk_cell BK102.out 0).trans rfl, (blk_cell BK102.out 1).trans rfl⟩ (fun hHeld => ?_)
      clear hK K
      refine norm_ (a' := ?_) ?_ ?_
      rotate_left
      ·show Act.put _ (some 8) _ = _
       simp only [Act.put, List.setIfInBounds_toArray, List.set_cons_zero, List.set_cons_succ, i64_w, i32_w]
       rfl
      exact norm_ (by simp only [putAll, Act.put, List.setIfInBounds_toArray, List.set_cons_zero, List.set_cons_succ] <;> rfl) (hJ1_3_6_7_8 (v108, v111, gb113, gb114, gb115) _ ⟨hHeld, HO109.out, HO112.out, BK101.out, BK102.out, BK103.out, BK104.out, BK113.out, BK114.out, BK115.out, GW113.out, GE113.out, NB101_113.out, NB113_101.out, NB102_113.out, NB113_102.out, NB103_113.out, NB113_103.out, NB104_113.out, NB113_104.out, NB114_113.out, NB113_114.out, NB115_113.out, NB113_115.out, GW114.out, GE114.out, NB101_114.out, NB114_101.out, NB102_114.out, NB114_102.out, NB103_114.out, NB114_103.out, NB104_114.out, NB114_104.out, NB115_114.out, NB114_115.out, GW115.out, GE115.out, NB101_115.out, NB115_101.out, NB102_115.out, NB115_102.out, NB103_115.out, NB115_103.out, NB104_115.out, NB115_104.out, HB.out⟩)
    ·skip
     ·skip
      rintro ⟨v108, gb113, gb114, gb115⟩ w52 ⟨hS_, h0_, h1_, h2_, h3_, h4_, h5_, h6_, h7_, h8_, h9_, h10_, h11_, h12_, h13_, h14_, h15_, h16_, h17_, h18_, h19_, h20_, h21_, h22_, h23_, h24_, h25_, h26_, h27_, h28_, h29_, h30_, h31_, h32_, h33_, h34_, h35_, h36_, h37_, h38_, h39_, h40_, h41_, h42_, h43_, h44_⟩
      have n0_ : Aside0 (Kd.R (Kd.int .i64) 3 w52 w.heap.size (fun k_ => k_ ≠ gb115) v108 t107) := ⟨h0_⟩
      have n1_ : Aside0 (w52.heap[gb101]? = some (.cells #[.int .i64 a0_0, .slice A0_1 l0_1.length c0_1] 29 (0, 0))) := ⟨h1_⟩
      have n2_ : Aside0 (w52.heap[gb102]? = some (.cells #[.int .i64 a1_0, .slice A1_1 l1_1.length c1_1] 29 (0, 0))) := ⟨h2_⟩
      have n3_ : Aside0 (w52.heap[gb103]? = some (.cells #[.func (.func 71) #[] #[]] 65 (0, 0))) := ⟨h3_⟩
      have n4_ : Aside0 (w52.heap[gb104]? = some (.cells #[.int .i64 0, .slice none 0 0] 29 (0, 0))) := ⟨h4_⟩
      have n5_ : Aside0 (w52.heap[gb113]? = some (.cells #[.slice none 0 0] 61 (0, 0))) := ⟨h5_⟩
      have n6_ : Aside0 (w52.heap[gb114]? = some (.cells #[.slice none 0 0] 61 (0, 0))) := ⟨h6_⟩
      have n7_ : Aside0 (w52.heap[gb115]? = some (.cells #[.int .i64 0] 3 (0, 0))) := ⟨h7_⟩
      have n8_ : Aside0 (w.heap.size ≤ gb113) := ⟨h8_⟩
      have n9_ : Aside0 (w.heap.size ≤ gb113) := ⟨h9_⟩
      have n10_ : Aside0 (gb101 ≠ gb113) := ⟨h10_⟩
      have n11_ : Aside0 (gb113 ≠ gb101) := ⟨h11_⟩
      have n12_ : Aside0 (gb102 ≠ gb113) := ⟨h12_⟩
      have n13_ : Aside0 (gb113 ≠ gb102) := ⟨h13_⟩
      have n14_ : Aside0 (gb103 ≠ gb113) := ⟨h14_⟩
      have n15_ : Aside0 (gb113 ≠ gb103) := ⟨h15_⟩
      have n16_ : Aside0 (gb104 ≠ gb113) := ⟨h16_⟩
      have n17_ : Aside0 (gb113 ≠ gb104) := ⟨h17_⟩
      have n18_ : Aside0 (gb114 ≠ gb113) := ⟨h18_⟩
      have n19_ : Aside0 (gb113 ≠ gb114) := ⟨h19_⟩
      have n20_ : Aside0 (gb115 ≠ gb113) := ⟨h20_⟩
      have n21_ : Aside0 (gb113 ≠ gb115) := ⟨h21_⟩
      have n22_ : Aside0 (w.heap.size ≤ gb114) := ⟨h22_⟩
      have n23_ : Aside0 (w.heap.size ≤ gb114) := ⟨h23_⟩
      have n24_ : Aside0 (gb101 ≠ gb114) := ⟨h24_⟩
      have n25_ : Aside0 (gb114 ≠ gb101) := ⟨h25_⟩
      have n26_ : Aside0 (gb102 ≠ gb114) := ⟨h26_⟩
      have n27_ : Aside0 (gb114 ≠ gb102) := ⟨h27_⟩
      have n28_ : Aside0 (gb103 ≠ gb114) := ⟨h28_⟩
      have n29_ : Aside0 (gb114 ≠ gb103) := ⟨h29_⟩
      have n30_ : Aside0 (gb104 ≠ gb114) := ⟨h30_⟩
      have n31_ : Aside0 (gb114 ≠ gb104) := ⟨h31_⟩
      have n32_ : Aside0 (gb115 ≠ gb114) := ⟨h32_⟩
      have n33_ : Aside0 (gb114 ≠ gb115) := ⟨h33_⟩
      have n34_ : Aside0 (w.heap.size ≤ gb115) := ⟨h34_⟩
      have n35_ : Aside0 (w.heap.size ≤ gb115) := ⟨h35_⟩
      have n36_ : Aside0 (gb101 ≠ gb115) := ⟨h36_⟩
      have n37_ : Aside0 (gb115 ≠ gb101) := ⟨h37_⟩
      have n38_ : Aside0 (gb102 ≠ gb115) := ⟨h38_⟩
      have n39_ : Aside0 (gb115 ≠ gb102) := ⟨h39_⟩
      have n40_ : Aside0 (gb103 ≠ gb115) := ⟨h40_⟩
      have n41_ : Aside0 (gb115 ≠ gb103) := ⟨h41_⟩
      have n42_ : Aside0 (gb104 ≠ gb115) := ⟨h42_⟩
      have n43_ : Aside0 (gb115 ≠ gb104) := ⟨h43_⟩
      have n44_ : Aside0 (Below w.heap.size w w52) := ⟨h44_⟩
      clear BK101
      clear BK102
      clear BK103
      clear BK104
      clear HB
      clear h0_ h1_ h2_ h3_ h4_ h5_ h6_ h7_ h8_ h9_ h10_ h11_ h12_ h13_ h14_ h15_ h16_ h17_ h18_ h19_ h20_ h21_ h22_ h23_ h24_ h25_ h26_ h27_ h28_ h29_ h30_ h31_ h32_ h33_ h34_ h35_ h36_ h37_ h38_ h39_ h40_ h41_ h42_ h43_ h44_
      have HO109 := n0_
      have BK101 := n1_
      have BK102 := n2_
      have BK103 := n3_
      have BK104 := n4_
      have BK113 := n5_
      have BK114 := n6_
      have BK115 := n7_
      have GW113 := n8_
      have GE113 := n9_
      have NB101_113 := n10_
      have NB113_101 := n11_
      have NB102_113 := n12_
      have NB113_102 := n13_
      have NB103_113 := n14_
      have NB113_103 := n15_
      have NB104_113 := n16_
      have NB113_104 := n17_
      have NB114_113 := n18_
      have NB113_114 := n19_
      have NB115_113 := n20_
      have NB113_115 := n21_
      have GW114 := n22_
      have GE114 := n23_
      have NB101_114 := n24_
      have NB114_101 := n25_
      have NB102_114 := n26_
      have NB114_102 := n27_
      have NB103_114 := n28_
      have NB114_103 := n29_
      have NB104_114 := n30_
      have NB114_104 := n31_
      have NB115_114 := n32_
      have NB114_115 := n33_
      have GW115 := n34_
      have GE115 := n35_
      have NB101_115 := n36_
      have NB115_101 := n37_
      have NB102_115 := n38_
      have NB115_102 := n39_
      have NB103_115 := n40_
      have NB115_103 := n41_
      have NB104_115 := n42_
      have NB115_104 := n43_
      have HB := n44_
      clear n0_ n1_ n2_ n3_ n4_ n5_ n6_ n7_ n8_ n9_ n10_ n11_ n12_ n13_ n14_ n15_ n16_ n17_ n18_ n19_ n20_ n21_ n22_ n23_ n24_ n25_ n26_ n27_ n28_ n29_ n30_ n31_ n32_ n33_ n34_ n35_ n36_ n37_ n38_ n39_ n40_ n41_ n42_ n43_ n44_
      have hHeld : w52.cell? ⟨gb101, 0, none⟩ = some (.int .i64 a0_0) ∧ w52.cell? ⟨gb101, 1, none⟩ = some (.slice A0_1 l0_1.length c0_1) ∧ w52.cell? ⟨gb102, 0, none⟩ = some (.int .i64 a1_0) ∧ w52.cell? ⟨gb102, 1, none⟩ = some (.slice A1_1 l1_1.length c1_1) := hS_
      refine norm_ (a' := ?_) ?_ ?_
      rotate_left
      ·simp only [putAll, Act.put, List.setIfInBounds_toArray, List.set_cons_zero, List.set_cons_succ]
       rfl
      refine one_ (i := 3) (N := some 31) #[true, true, true, true, true, true, true, true, true, false, false, false] rfl rfl (one_of HT_.out (by kernel_rfl)) (by decide) (fun K hK => ?_)
      refine goes_ Try.func65 (by kernel_rfl) rfl #[.agg #[.int .i64 a1_0, .slice A1_1 l1_1.length c1_1]] (by rfl) rfl rfl (by (try simp only [List.map_toArray, List.map_cons, List.map_nil]) <;> rfl) ?_
      with_reducible refine (impl_netOf.calls kj8 a1_0 _ _ l1_1 t110 _ ?side1 ?side2 A45.out).mono ?_
      (case side1 => exact (Kd.C_below HR1_1.out HB.out))
      (case side2 => exact HC1_1.out)
      rintro e w53 ⟨v111, rfl, ho0, hb⟩
      refine ⟨_, rfl, ?_⟩
      have HO112 := Aside0.mk (Kd.R_lower (Kd.R_newB (Kd.R_new' ho0 (Kd.R_lt HO109.out)) BK115.out) (below_size HB.out))
      replace HO109 := Aside0.mk (Kd.R_elder' HO109.out (Kd.R_base ho0) hb)
      replace BK101 := Aside0.mk (blk_below BK101.out hb)
      replace BK102 := Aside0.mk (blk_below BK102.out hb)
      replace BK103 := Aside0.mk (blk_below BK103.out hb)
      replace BK104 := Aside0.mk (blk_below BK104.out hb)
      replace BK113 := Aside0.mk (blk_below BK113.out hb)
      replace BK114 := Aside0.mk (blk_below BK114.out hb)
      replace BK115 := Aside0.mk (blk_below BK115.out hb)
      replace HB := Aside0.mk (below_step HB.out hb)
      (try clear hb)
      (try clear ho0)
      refine hK.out _ _ ⟨(blk_cell BK101.out 0).trans rfl, (blk_cell BK101.out 1).trans rfl, (blk_cell BK102.out 0).trans rfl, (blk_cell BK102.out 1).trans rfl⟩ (fun hHeld => ?_)
      clear hK K
      refine norm_ (a' := ?_) ?_ ?_
      rotate_left
      ·show Act.put _ (some 31) _ = _
       simp only [Act.put, List.setIfInBounds_toArray, List.set_cons_zero, List.set_cons_succ, i64_w, i32_w]
       rfl
      exact norm_ (by simp only [putAll, Act.put, List.setIfInBounds_toArray, List.set_cons_zero, List.set_cons_succ] <;> rfl) (hJ1_3_6_7_8 (v108, v111, gb113, gb114, gb115) _ ⟨hHeld, (by (with_reducible repeat (first | apply Kd.R_alloc | apply Kd.R_drewN | apply Kd.R_drew)); exact Kd.R_mono HO109.out (fun _ hk => ⟨hk.2, hk.1⟩)), (by (with_reducible repeat (first | apply Kd.R_alloc | apply Kd.R_drewN | apply Kd.R_drew)); exact Kd.R_mono HO112.out (fun _ hk => ⟨hk.1.2, hk.2⟩)), BK101.out, BK102.out, BK103.out, BK104.out, BK113.out, BK114.out, BK115.out, GW113.out, GE113.out, NB101_113.out, NB113_101.out, NB102_113.out, NB113_102.out, NB103_113.out, NB113_103.out, NB104_113.out, NB113_104.out, NB114_113.out, NB113_114.out, NB115_113.out, NB113_115.out, GW114.out, GE114.out, NB101_114.out, NB114_101.out, NB102_114.out, NB114_102.out, NB103_114.out, NB114_103.out, NB104_114.out, NB114_104.out, NB115_114.out, NB114_115.out, GW115.out, GE115.out, NB101_115.out, NB115_101.out, NB102_115.out, NB115_102.out, NB103_115.out, NB115_103.out, NB104_115.out, NB115_104.out, HB.out⟩)
    ·skip
     ·skip
      rintro ⟨v108, v111, gb113⟩ w51 ⟨hS_, h0_, h1_, h2_, h3_, h4_, h5_, h6_, h7_, h8_, h9_, h10_, h11_, h12_, h13_, h14_, h15_, h16_, h17_⟩
      have n0_ : Aside0 (Kd.R (Kd.int .i64) 3 w51 w.heap.size (fun k_ => some k_ ≠ (v111 : Value).ownBlock) v108 t107) := ⟨h0_⟩
      have n1_ : Aside0 (Kd.R (Kd.int .i64) 3 w51 w.heap.size (fun k_ => some k_ ≠ (v108 : Value).ownBlock) v111 t110) := ⟨h1_⟩
      have n2_ : Aside0 (w51.heap[gb101]? = some (.cells #[.int .i64 a0_0, .slice A0_1 l0_1.length c0_1] 29 (0, 0))) := ⟨h2_⟩
      have n3_ : Aside0 (w51.heap[gb102]? = some (.cells #[.int .i64 a1_0, .slice A1_1 l1_1.length c1_1] 29 (0, 0))) := ⟨h3_⟩
      have n4_ : Aside0 (w51.heap[gb103]? = some (.cells #[.func (.func 71) #[] #[]] 65 (0, 0))) := ⟨h4_⟩
      have n5_ : Aside0 (w51.heap[gb104]? = some (.cells #[.int .i64 0, .slice none 0 0] 29 (0, 0))) := ⟨h5_⟩
      have n6_ : Aside0 (w51.heap[gb113]? = some (.cells #[.slice none 0 0] 61 (0, 0))) := ⟨h6_⟩
      have n7_ : Aside0 (w.heap.size ≤ gb113) := ⟨h7_⟩
      have n8_ : Aside0 (w.heap.size ≤ gb113) := ⟨h8_⟩
      have n9_ : Aside0 (gb101 ≠ gb113) := ⟨h9_⟩
      have n10_ : Aside0 (gb113 ≠ gb101) := ⟨h10_⟩
      have n11_ : Aside0 (gb102 ≠ gb113) := ⟨h11_⟩
      have n12_ : Aside0 (gb113 ≠ gb102) := ⟨h12_⟩
      have n13_ : Aside0 (gb103 ≠ gb113) := ⟨h13_⟩
      have n14_ : Aside0 (gb113 ≠ gb103) := ⟨h14_⟩
      have n15_ : Aside0 (gb104 ≠ gb113) := ⟨h15_⟩
      have n16_ : Aside0 (gb113 ≠ gb104) := ⟨h16_⟩
      have n17_ : Aside0 (Below w.heap.size w w51) := ⟨h17_⟩
      clear BK101
      clear BK102
      clear BK103
      clear BK104
      clear HB
      clear h0_ h1_ h2_ h3_ h4_ h5_ h6_ h7_ h8_ h9_ h10_ h11_ h12_ h13_ h14_ h15_ h16_ h17_
      have HO109 := n0_
      have HO112 := n1_
      have BK101 := n2_
      have BK102 := n3_
      have BK103 := n4_
      have BK104 := n5_
      have BK113 := n6_
      have GW113 := n7_
      have GE113 := n8_
      have NB101_113 := n9_
      have NB113_101 := n10_
      have NB102_113 := n11_
      have NB113_102 := n12_
      have NB103_113 := n13_
      have NB113_103 := n14_
      have NB104_113 := n15_
      have NB113_104 := n16_
      have HB := n17_
      clear n0_ n1_ n2_ n3_ n4_ n5_ n6_ n7_ n8_ n9_ n10_ n11_ n12_ n13_ n14_ n15_ n16_ n17_
      have hHeld : w51.cell? ⟨gb101, 0, none⟩ = some (.int .i64 a0_0) ∧ w51.cell? ⟨gb101, 1, none⟩ = some (.slice A0_1 l0_1.length c0_1) ∧ w51.cell? ⟨gb102, 0, none⟩ = some (.int .i64 a1_0) ∧ w51.cell? ⟨gb102, 1, none⟩ = some (.slice A1_1 l1_1.length c1_1) := hS_
      refine norm_ (a' := ?_) ?_ ?_
      rotate_left
      ·simp only [putAll, Act.put, List.setIfInBounds_toArray, List.set_cons_zero, List.set_cons_succ]
       rfl
      refine two_ (i := 7) (j := 8) (Ni := some 9) (Nj := some 10) #[true, true, true, true, true, true, true, true, false, false, false, false] #[true, true, true, true, true, true, true, false, true, false, false, false] rfl rfl rfl rfl (two_of HT_.out (by kernel_rfl)) (by decide) (by decide) (fun K hK => ?_) (fun K hK => ?_)
      ·skip
       refine box_step ?hg (N := 9) ?hd (cs := #[.slice none 0 0]) (t := 61) ?hr ?_; (case hd => rfl); (case hg => rfl); (case hr => first | (go_simp; done) | (go_simp; rfl))
       intro gb114 hg w52 hbox hb
       have BK114 := Aside0.mk (hbox)
       have GW114 := geN HB.out hg
       have GE114 := geN HB.out hg
       have NB101_114 := neL BK101.out hg
       have NB114_101 := neR BK101.out hg
       have NB102_114 := neL BK102.out hg
       have NB114_102 := neR BK102.out hg
       have NB103_114 := neL BK103.out hg
       have NB114_103 := neR BK103.out hg
       have NB104_114 := neL BK104.out hg
       have NB114_104 := neR BK104.out hg
       have NB113_114 := neL BK113.out hg
       have NB114_113 := neR BK113.out hg
       replace HO109 := Aside0.mk (Kd.R_below HO109.out hb)
       replace HO112 := Aside0.mk (Kd.R_below HO112.out hb)
       replace BK101 := Aside0.mk (blk_below BK101.out hb)
       replace BK102 := Aside0.mk (blk_below BK102.out hb)
       replace BK103 := Aside0.mk (blk_below BK103.out hb)
       replace BK104 := Aside0.mk (blk_below BK104.out hb)
       replace BK113 := Aside0.mk (blk_below BK113.out hb)
       replace HB := Aside0.mk (below_step HB.out hb)
       clear hb hbox hg
       refine hK.out _ _ ⟨(blk_cell BK101.out 0).trans rfl, (blk_cell BK101.out 1).trans rfl, (blk_cell BK102.out 0).trans rfl, (blk_cell BK102.out 1).trans rfl⟩ (fun hHeld => ?_)
       clear hK K
       refine norm_ (a' := ?_) ?_ ?_
       rotate_left
       ·show Act.put _ (some 9) _ = _
        simp only [Act.put, List.setIfInBounds_toArray, List.set_cons_zero, List.set_cons_succ, i64_w, i32_w]
        rfl
       exact norm_ (by simp only [putAll, Act.put, List.setIfInBounds_toArray, List.set_cons_zero, List.set_cons_succ] <;> rfl) (hJ1_3_6_7 (v108, v111, gb113, gb114) _ ⟨hHeld, HO109.out, HO112.out, BK101.out, BK102.out, BK103.out, BK104.out, BK113.out, BK114.out, GW113.out, GE113.out, NB101_113.out, NB113_101.out, NB102_113.out, NB113_102.out, NB103_113.out, NB113_103.out, NB104_113.out, NB113_104.out, NB114_113.out, NB113_114.out, GW114.out, GE114.out, NB101_114.out, NB114_101.out, NB102_114.out, NB114_102.out, NB103_114.out, NB114_103.out, NB104_114.out, NB114_104.out, HB.out⟩)
      ·skip
       refine box_step ?hg (N := 10) ?hd (cs := #[.int .i64 0]) (t := 3) ?hr ?_; (case hd => rfl); (case hg => rfl); (case hr => first | (go_simp; done) | (go_simp; rfl))
       intro gb115 hg w52 hbox hb
       have BK115 := Aside0.mk (hbox)
       have GW115 := geN HB.out hg
       have GE115 := geN HB.out hg
       have NB101_115 := neL BK101.out hg
       have NB115_101 := neR BK101.out hg
       have NB102_115 := neL BK102.out hg
       have NB115_102 := neR BK102.out hg
       have NB103_115 := neL BK103.out hg
       have NB115_103 := neR BK103.out hg
       have NB104_115 := neL BK104.out hg
       have NB115_104 := neR BK104.out hg
       have NB113_115 := neL BK113.out hg
       have NB115_113 := neR BK113.out hg
       replace HO109 := Aside0.mk (Kd.R_below (Kd.R_elderB HO109.out gb115 (Nat.le_of_eq hg.symm)) hb)
       replace HO112 := Aside0.mk (Kd.R_below (Kd.R_elderB HO112.out gb115 (Nat.le_of_eq hg.symm)) hb)
       replace BK101 := Aside0.mk (blk_below BK101.out hb)
       replace BK102 := Aside0.mk (blk_below BK102.out hb)
       replace BK103 := Aside0.mk (blk_below BK103.out hb)
       replace BK104 := Aside0.mk (blk_below BK104.out hb)
       replace BK113 := Aside0.mk (blk_below BK113.out hb)
       replace HB := Aside0.mk (below_step HB.out hb)
       clear hb hbox hg
       refine hK.out _ _ ⟨(blk_cell BK101.out 0).trans rfl, (blk_cell BK101.out 1).trans rfl, (blk_cell BK102.out 0).trans rfl, (blk_cell BK102.out 1).trans rfl⟩ (fun hHeld => ?_)
       clear hK K
       refine norm_ (a' := ?_) ?_ ?_
       rotate_left
       ·show Act.put _ (some 10) _ = _
        simp only [Act.put, List.setIfInBounds_toArray, List.set_cons_zero, List.set_cons_succ, i64_w, i32_w]
        rfl
       exact norm_ (by simp only [putAll, Act.put, List.setIfInBounds_toArray, List.set_cons_zero, List.set_cons_succ] <;> rfl) (hJ1_3_6_8 (v108, v111, gb113, gb115) _ ⟨hHeld, HO109.out, HO112.out, BK101.out, BK102.out, BK103.out, BK104.out, BK113.out, BK115.out, GW113.out, GE113.out, NB101_113.out, NB113_101.out, NB102_113.out, NB113_102.out, NB103_113.out, NB113_103.out, NB104_113.out, NB113_104.out, NB115_113.out, NB113_115.out, GW115.out, GE115.out, NB101_115.out, NB115_101.out, NB102_115.out, NB115_102.out, NB103_115.out, NB115_103.out, NB104_115.out, NB115_104.out, HB.out⟩)
    ·skip
     ·skip
      rintro ⟨v108, v111, gb114⟩ w51 ⟨hS_, h0_, h1_, h2_, h3_, h4_, h5_, h6_, h7_, h8_, h9_, h10_, h11_, h12_, h13_, h14_, h15_, h16_, h17_⟩
      have n0_ : Aside0 (Kd.R (Kd.int .i64) 3 w51 w.heap.size (fun k_ => some k_ ≠ (v111 : Value).ownBlock) v108 t107) := ⟨h0_⟩
      have n1_ : Aside0 (Kd.R (Kd.int .i64) 3 w51 w.heap.size (fun k_ => some k_ ≠ (v108 : Value).ownBlock) v111 t110) := ⟨h1_⟩
      have n2_ : Aside0 (w51.heap[gb101]? = some (.cells #[.int .i64 a0_0, .slice A0_1 l0_1.length c0_1] 29 (0, 0))) := ⟨h2_⟩
      have n3_ : Aside0 (w51.heap[gb102]? = some (.cells #[.int .i64 a1_0, .slice A1_1 l1_1.length c1_1] 29 (0, 0))) := ⟨h3_⟩
      have n4_ : Aside0 (w51.heap[gb103]? = some (.cells #[.func (.func 71) #[] #[]] 65 (0, 0))) := ⟨h4_⟩
      have n5_ : Aside0 (w51.heap[gb104]? = some (.cells #[.int .i64 0, .slice none 0 0] 29 (0, 0))) := ⟨h5_⟩
      have n6_ : Aside0 (w51.heap[gb114]? = some (.cells #[.slice none 0 0] 61 (0, 0))) := ⟨h6_⟩
      have n7_ : Aside0 (w.heap.size ≤ gb114) := ⟨h7_⟩
      have n8_ : Aside0 (w.heap.size ≤ gb114) := ⟨h8_⟩
      have n9_ : Aside0 (gb101 ≠ gb114) := ⟨h9_⟩
      have n10_ : Aside0 (gb114 ≠ gb101) := ⟨h10_⟩
      have n11_ : Aside0 (gb102 ≠ gb114) := ⟨h11_⟩
      have n12_ : Aside0 (gb114 ≠ gb102) := ⟨h12_⟩
      have n13_ : Aside0 (gb103 ≠ gb114) := ⟨h13_⟩
      have n14_ : Aside0 (gb114 ≠ gb103) := ⟨h14_⟩
      have n15_ : Aside0 (gb104 ≠ gb114) := ⟨h15_⟩
      have n16_ : Aside0 (gb114 ≠ gb104) := ⟨h16_⟩
      have n17_ : Aside0 (Below w.heap.size w w51) := ⟨h17_⟩
      clear BK101
      clear BK102
      clear BK103
      clear BK104
      clear HB
      clear h0_ h1_ h2_ h3_ h4_ h5_ h6_ h7_ h8_ h9_ h10_ h11_ h12_ h13_ h14_ h15_ h16_ h17_
      have HO109 := n0_
      have HO112 := n1_
      have BK101 := n2_
      have BK102 := n3_
      have BK103 := n4_
      have BK104 := n5_
      have BK114 := n6_
      have GW114 := n7_
      have GE114 := n8_
      have NB101_114 := n9_
      have NB114_101 := n10_
      have NB102_114 := n11_
      have NB114_102 := n12_
      have NB103_114 := n13_
      have NB114_103 := n14_
      have NB104_114 := n15_
      have NB114_104 := n16_
      have HB := n17_
      clear n0_ n1_ n2_ n3_ n4_ n5_ n6_ n7_ n8_ n9_ n10_ n11_ n12_ n13_ n14_ n15_ n16_ n17_
      have hHeld : w51.cell? ⟨gb101, 0, none⟩ = some (.int .i64 a0_0) ∧ w51.cell? ⟨gb101, 1, none⟩ = some (.slice A0_1 l0_1.length c0_1) ∧ w51.cell? ⟨gb102, 0, none⟩ = some (.int .i64 a1_0) ∧ w51.cell? ⟨gb102, 1, none⟩ = some (.slice A1_1 l1_1.length c1_1) := hS_
      refine norm_ (a' := ?_) ?_ ?_
      rotate_left
      ·simp only [putAll, Act.put, List.setIfInBounds_toArray, List.set_cons_zero, List.set_cons_succ]
       rfl
      refine two_ (i := 6) (j := 8) (Ni := some 8) (Nj := some 10) #[true, true, true, true, true, true, true, true, false, false, false, false] #[true, true, true, true, true, true, false, true, true, false, false, false] rfl rfl rfl rfl (two_of HT_.out (by kernel_rfl)) (by decide) (by decide) (fun K hK => ?_) (fun K hK => ?_)
      ·skip
       refine box_step ?hg (N := 8) ?hd (cs := #[.slice none 0 0]) (t := 61) ?hr ?_; (case hd => rfl); (case hg => rfl); (case hr => first | (go_simp; done) | (go_simp; rfl))
       intro gb113 hg w52 hbox hb
       have BK113 := Aside0.mk (hbox)
       have GW113 := geN HB.out hg
       have GE113 := geN HB.out hg
       have NB101_113 := neL BK101.out hg
       have NB113_101 := neR BK101.out hg
       have NB102_113 := neL BK102.out hg
       have NB113_102 := neR BK102.out hg
       have NB103_113 := neL BK103.out hg
       have NB113_103 := neR BK103.out hg
       have NB104_113 := neL BK104.out hg
       have NB113_104 := neR BK104.out hg
       have NB114_113 := neL BK114.out hg
       have NB113_114 := neR BK114.out hg
       replace HO109 := Aside0.mk (Kd.R_below HO109.out hb)
       replace HO112 := Aside0.mk (Kd.R_below HO112.out hb)
       replace BK101 := Aside0.mk (blk_below BK101.out hb)
       replace BK102 := Aside0.mk (blk_below BK102.out hb)
       replace BK103 := Aside0.mk (blk_below BK103.out hb)
       replace BK104 := Aside0.mk (blk_below BK104.out hb)
       replace BK114 := Aside0.mk (blk_below BK114.out hb)
       replace HB := Aside0.mk (below_step HB.out hb)
       clear hb hbox hg
       refine hK.out _ _ ⟨(blk_cell BK101.out 0).trans rfl, (blk_cell BK101.out 1).trans rfl, (blk_cell BK102.out 0).trans rfl, (blk_cell BK102.out 1).trans rfl⟩ (fun hHeld => ?_)
       clear hK K
       refine norm_ (a' := ?_) ?_ ?_
       rotate_left
       ·show Act.put _ (some 8) _ = _
        simp only [Act.put, List.setIfInBounds_toArray, List.set_cons_zero, List.set_cons_succ, i64_w, i32_w]
        rfl
       exact norm_ (by simp only [putAll, Act.put, List.setIfInBounds_toArray, List.set_cons_zero, List.set_cons_succ] <;> rfl) (hJ1_3_6_7 (v108, v111, gb113, gb114) _ ⟨hHeld, HO109.out, HO112.out, BK101.out, BK102.out, BK103.out, BK104.out, BK113.out, BK114.out, GW113.out, GE113.out, NB101_113.out, NB113_101.out, NB102_113.out, NB113_102.out, NB103_113.out, NB113_103.out, NB104_113.out, NB113_104.out, NB114_113.out, NB113_114.out, GW114.out, GE114.out, NB101_114.out, NB114_101.out, NB102_114.out, NB114_102.out, NB103_114.out, NB114_103.out, NB104_114.out, NB114_104.out, HB.out⟩)
      ·skip
       refine box_step ?hg (N := 10) ?hd (cs := #[.int .i64 0]) (t := 3) ?hr ?_; (case hd => rfl); (case hg => rfl); (case hr => first | (go_simp; done) | (go_simp; rfl))
       intro gb115 hg w52 hbox hb
       have BK115 := Aside0.mk (hbox)
       have GW115 := geN HB.out hg
       have GE115 := geN HB.out hg
       have NB101_115 := neL BK101.out hg
       have NB115_101 := neR BK101.out hg
       have NB102_115 := neL BK102.out hg
       have NB115_102 := neR BK102.out hg
       have NB103_115 := neL BK103.out hg
       have NB115_103 := neR BK103.out hg
       have NB104_115 := neL BK104.out hg
       have NB115_104 := neR BK104.out hg
       have NB114_115 := neL BK114.out hg
       have NB115_114 := neR BK114.out hg
       replace HO109 := Aside0.mk (Kd.R_below (Kd.R_elderB HO109.out gb115 (Nat.le_of_eq hg.symm)) hb)
       replace HO112 := Aside0.mk (Kd.R_below (Kd.R_elderB HO112.out gb115 (Nat.le_of_eq hg.symm)) hb)
       replace BK101 := Aside0.mk (blk_below BK101.out hb)
       replace BK102 := Aside0.mk (blk_below BK102.out hb)
       replace BK103 := Aside0.mk (blk_below BK103.out hb)
       replace BK104 := Aside0.mk (blk_below BK104.out hb)
       replace BK114 := Aside0.mk (blk_below BK114.out hb)
       replace HB := Aside0.mk (below_step HB.out hb)
       clear hb hbox hg
       refine hK.out _ _ ⟨(blk_cell BK101.out 0).trans rfl, (blk_cell BK101.out 1).trans rfl, (blk_cell BK102.out 0).trans rfl, (blk_cell BK102.out 1).trans rfl⟩ (fun hHeld => ?_)
       clear hK K
       refine norm_ (a' := ?_) ?_ ?_
       rotate_left
       ·show Act.put _ (some 10) _ = _
        simp only [Act.put, List.setIfInBounds_toArray, List.set_cons_zero, List.set_cons_succ, i64_w, i32_w]
        rfl
       exact norm_ (by simp only [putAll, Act.put, List.setIfInBounds_toArray, List.set_cons_zero, List.set_cons_succ] <;> rfl) (hJ1_3_7_8 (v108, v111, gb114, gb115) _ ⟨hHeld, HO109.out, HO112.out, BK101.out, BK102.out, BK103.out, BK104.out, BK114.out, BK115.out, GW114.out, GE114.out, NB101_114.out, NB114_101.out, NB102_114.out, NB114_102.out, NB103_114.out, NB114_103.out, NB104_114.out, NB114_104.out, NB115_114.out, NB114_115.out, GW115.out, GE115.out, NB101_115.out, NB115_101.out, NB102_115.out, NB115_102.out, NB103_115.out, NB115_103.out, NB104_115.out, NB115_104.out, HB.out⟩)
    ·skip
     ·skip
      rintro ⟨v108, v111, gb115⟩ w51 ⟨hS_, h0_, h1_, h2_, h3_, h4_, h5_, h6_, h7_, h8_, h9_, h10_, h11_, h12_, h13_, h14_, h15_, h16_, h17_⟩
      have n0_ : Aside0 (Kd.R (Kd.int .i64) 3 w51 w.heap.size (fun k_ => some k_ ≠ (v111 : Value).ownBlock ∧ k_ ≠ gb115) v108 t107) := ⟨h0_⟩
      have n1_ : Aside0 (Kd.R (Kd.int .i64) 3 w51 w.heap.size (fun k_ => some k_ ≠ (v108 : Value).ownBlock ∧ k_ ≠ gb115) v111 t110) := ⟨h1_⟩
      have n2_ : Aside0 (w51.heap[gb101]? = some (.cells #[.int .i64 a0_0, .slice A0_1 l0_1.length c0_1] 29 (0, 0))) := ⟨h2_⟩
      have n3_ : Aside0 (w51.heap[gb102]? = some (.cells #[.int .i64 a1_0, .slice A1_1 l1_1.length c1_1] 29 (0, 0))) := ⟨h3_⟩
      have n4_ : Aside0 (w51.heap[gb103]? = some (.cells #[.func (.func 71) #[] #[]] 65 (0, 0))) := ⟨h4_⟩
      have n5_ : Aside0 (w51.heap[gb104]? = some (.cells #[.int .i64 0, .slice none 0 0] 29 (0, 0))) := ⟨h5_⟩
      have n6_ : Aside0 (w51.heap[gb115]? = some (.cells #[.int .i64 0] 3 (0, 0))) := ⟨h6_⟩
      have n7_ : Aside0 (w.heap.size ≤ gb115) := ⟨h7_⟩
      have n8_ : Aside0 (w.heap.size ≤ gb115) := ⟨h8_⟩
      have n9_ : Aside0 (gb101 ≠ gb115) := ⟨h9_⟩
      have n10_ : Aside0 (gb115 ≠ gb101) := ⟨h10_⟩
      have n11_ : Aside0 (gb102 ≠ gb115) := ⟨h11_⟩
      have n12_ : Aside0 (gb115 ≠ gb102) := ⟨h12_⟩
      have n13_ : Aside0 (gb103 ≠ gb115) := ⟨h13_⟩
      have n14_ : Aside0 (gb115 ≠ gb103) := ⟨h14_⟩
      have n15_ : Aside0 (gb104 ≠ gb115) := ⟨h15_⟩
      have n16_ : Aside0 (gb115 ≠ gb104) := ⟨h16_⟩
      have n17_ : Aside0 (Below w.heap.size w w51) := ⟨h17_⟩
      clear BK101
      clear BK102
      clear BK103
      clear BK104
      clear HB
      clear h0_ h1_ h2_ h3_ h4_ h5_ h6_ h7_ h8_ h9_ h10_ h11_ h12_ h13_ h14_ h15_ h16_ h17_
      have HO109 := n0_
      have HO112 := n1_
      have BK101 := n2_
      have BK102 := n3_
      have BK103 := n4_
      have BK104 := n5_
      have BK115 := n6_
      have GW115 := n7_
      have GE115 := n8_
      have NB101_115 := n9_
      have NB115_101 := n10_
      have NB102_115 := n11_
      have NB115_102 := n12_
      have NB103_115 := n13_
      have NB115_103 := n14_
      have NB104_115 := n15_
      have NB115_104 := n16_
      have HB := n17_
      clear n0_ n1_ n2_ n3_ n4_ n5_ n6_ n7_ n8_ n9_ n10_ n11_ n12_ n13_ n14_ n15_ n16_ n17_
      have hHeld : w51.cell? ⟨gb101, 0, none⟩ = some (.int .i64 a0_0) ∧ w51.cell? ⟨gb101, 1, none⟩ = some (.slice A0_1 l0_1.length c0_1) ∧ w51.cell? ⟨gb102, 0, none⟩ = some (.int .i64 a1_0) ∧ w51.cell? ⟨gb102, 1, none⟩ = some (.slice A1_1 l1_1.length c1_1) := hS_
      refine norm_ (a' := ?_) ?_ ?_
      rotate_left
      ·simp only [putAll, Act.put, List.setIfInBounds_toArray, List.set_cons_zero, List.set_cons_succ]
       rfl
      refine two_ (i := 6) (j := 7) (Ni := some 8) (Nj := some 9) #[true, true, true, true, true, true, true, false, true, false, false, false] #[true, true, true, true, true, true, false, true, true, false, false, false] rfl rfl rfl rfl (two_of HT_.out (by kernel_rfl)) (by decide) (by decide) (fun K hK => ?_) (fun K hK => ?_)
      ·skip
       refine box_step ?hg (N := 8) ?hd (cs := #[.slice none 0 0]) (t := 61) ?hr ?_; (case hd => rfl); (case hg => rfl); (case hr => first | (go_simp; done) | (go_simp; rfl))
       intro gb113 hg w52 hbox hb
       have BK113 := Aside0.mk (hbox)
       have GW113 := geN HB.out hg
       have GE113 := geN HB.out hg
       have NB101_113 := neL BK101.out hg
       have NB113_101 := neR BK101.out hg
       have NB102_113 := neL BK102.out hg
       have NB113_102 := neR BK102.out hg
       have NB103_113 := neL BK103.out hg
       have NB113_103 := neR BK103.out hg
       have NB104_113 := neL BK104.out hg
       have NB113_104 := neR BK104.out hg
       have NB115_113 := neL BK115.out hg
       have NB113_115 := neR BK115.out hg
       replace HO109 := Aside0.mk (Kd.R_below HO109.out hb)
       replace HO112 := Aside0.mk (Kd.R_below HO112.out hb)
       replace BK101 := Aside0.mk (blk_below BK101.out hb)
       replace BK102 := Aside0.mk (blk_below BK102.out hb)
       replace BK103 := Aside0.mk (blk_below BK103.out hb)
       replace BK104 := Aside0.mk (blk_below BK104.out hb)
       replace BK115 := Aside0.mk (blk_below BK115.out hb)
       replace HB := Aside0.mk (below_step HB.out hb)
       clear hb hbox hg
       refine hK.out _ _ ⟨(blk_cell BK101.out 0).trans rfl, (blk_cell BK101.out 1).trans rfl, (blk_cell BK102.out 0).trans rfl, (blk_cell BK102.out 1).trans rfl⟩ (fun hHeld => ?_)
       clear hK K
       refine norm_ (a' := ?_) ?_ ?_
       rotate_left
       ·show Act.put _ (some 8) _ = _
        simp only [Act.put, List.setIfInBounds_toArray, List.set_cons_zero, List.set_cons_succ, i64_w, i32_w]
        rfl
       exact norm_ (by simp only [putAll, Act.put, List.setIfInBounds_toArray, List.set_cons_zero, List.set_cons_succ] <;> rfl) (hJ1_3_6_8 (v108, v111, gb113, gb115) _ ⟨hHeld, HO109.out, HO112.out, BK101.out, BK102.out, BK103.out, BK104.out, BK113.out, BK115.out, GW113.out, GE113.out, NB101_113.out, NB113_101.out, NB102_113.out, NB113_102.out, NB103_113.out, NB113_103.out, NB104_113.out, NB113_104.out, NB115_113.out, NB113_115.out, GW115.out, GE115.out, NB101_115.out, NB115_101.out, NB102_115.out, NB115_102.out, NB103_115.out, NB115_103.out, NB104_115.out, NB115_104.out, HB.out⟩)
      ·skip
       refine box_step ?hg (N := 9) ?hd (cs := #[.slice none 0 0]) (t := 61) ?hr ?_; (case hd => rfl); (case hg => rfl); (case hr => first | (go_simp; done) | (go_simp; rfl))
       intro gb114 hg w52 hbox hb
       have BK114 := Aside0.mk (hbox)
       have GW114 := geN HB.out hg
       have GE114 := geN HB.out hg
       have NB101_114 := neL BK101.out hg
       have NB114_101 := neR BK101.out hg
       have NB102_114 := neL BK102.out hg
       have NB114_102 := neR BK102.out hg
       have NB103_114 := neL BK103.out hg
       have NB114_103 := neR BK103.out hg
       have NB104_114 := neL BK104.out hg
       have NB114_104 := neR BK104.out hg
       have NB115_114 := neL BK115.out hg
       have NB114_115 := neR BK115.out hg
       replace HO109 := Aside0.mk (Kd.R_below HO109.out hb)
       replace HO112 := Aside0.mk (Kd.R_below HO112.out hb)
       replace BK101 := Aside0.mk (blk_below BK101.out hb)
       replace BK102 := Aside0.mk (blk_below BK102.out hb)
       replace BK103 := Aside0.mk (blk_below BK103.out hb)
       replace BK104 := Aside0.mk (blk_below BK104.out hb)
       replace BK115 := Aside0.mk (blk_below BK115.out hb)
       replace HB := Aside0.mk (below_step HB.out hb)
       clear hb hbox hg
       refine hK.out _ _ ⟨(blk_cell BK101.out 0).trans rfl, (blk_cell BK101.out 1).trans rfl, (blk_cell BK102.out 0).trans rfl, (blk_cell BK102.out 1).trans rfl⟩ (fun hHeld => ?_)
       clear hK K
       refine norm_ (a' := ?_) ?_ ?_
       rotate_left
       ·show Act.put _ (some 9) _ = _
        simp only [Act.put, List.setIfInBounds_toArray, List.set_cons_zero, List.set_cons_succ, i64_w, i32_w]
        rfl
       exact norm_ (by simp only [putAll, Act.put, List.setIfInBounds_toArray, List.set_cons_zero, List.set_cons_succ] <;> rfl) (hJ1_3_7_8 (v108, v111, gb114, gb115) _ ⟨hHeld, HO109.out, HO112.out, BK101.out, BK102.out, BK103.out, BK104.out, BK114.out, BK115.out, GW114.out, GE114.out, NB101_114.out, NB114_101.out, NB102_114.out, NB114_102.out, NB103_114.out, NB114_103.out, NB104_114.out, NB114_104.out, NB115_114.out, NB114_115.out, GW115.out, GE115.out, NB101_115.out, NB115_101.out, NB102_115.out, NB115_102.out, NB103_115.out, NB115_103.out, NB104_115.out, NB115_104.out, HB.out⟩)
    ·skip
     ·skip
      rintro ⟨v108, gb113, gb114⟩ w51 ⟨hS_, h0_, h1_, h2_, h3_, h4_, h5_, h6_, h7_, h8_, h9_, h10_, h11_, h12_, h13_, h14_, h15_, h16_, h17_, h18_, h19_, h20_, h21_, h22_, h23_, h24_, h25_, h26_, h27_, h28_, h29_⟩
      have n0_ : Aside0 (Kd.R (Kd.int .i64) 3 w51 w.heap.size (fun _ => True) v108 t107) := ⟨h0_⟩
      have n1_ : Aside0 (w51.heap[gb101]? = some (.cells #[.int .i64 a0_0, .slice A0_1 l0_1.length c0_1] 29 (0, 0))) := ⟨h1_⟩
      have n2_ : Aside0 (w51.heap[gb102]? = some (.cells #[.int .i64 a1_0, .slice A1_1 l1_1.length c1_1] 29 (0, 0))) := ⟨h2_⟩
      have n3_ : Aside0 (w51.heap[gb103]? = some (.cells #[.func (.func 71) #[] #[]] 65 (0, 0))) := ⟨h3_⟩
      have n4_ : Aside0 (w51.heap[gb104]? = some (.cells #[.int .i64 0, .slice none 0 0] 29 (0, 0))) := ⟨h4_⟩
      have n5_ : Aside0 (w51.heap[gb113]? = some (.cells #[.slice none 0 0] 61 (0, 0))) := ⟨h5_⟩
      have n6_ : Aside0 (w51.heap[gb114]? = some (.cells #[.slice none 0 0] 61 (0, 0))) := ⟨h6_⟩
      have n7_ : Aside0 (w.heap.size ≤ gb113) := ⟨h7_⟩
      have n8_ : Aside0 (w.heap.size ≤ gb113) := ⟨h8_⟩
      have n9_ : Aside0 (gb101 ≠ gb113) := ⟨h9_⟩
      have n10_ : Aside0 (gb113 ≠ gb101) := ⟨h10_⟩
      have n11_ : Aside0 (gb102 ≠ gb113) := ⟨h11_⟩
      have n12_ : Aside0 (gb113 ≠ gb102) := ⟨h12_⟩
      have n13_ : Aside0 (gb103 ≠ gb113) := ⟨h13_⟩
      have n14_ : Aside0 (gb113 ≠ gb103) := ⟨h14_⟩
      have n15_ : Aside0 (gb104 ≠ gb113) := ⟨h15_⟩
      have n16_ : Aside0 (gb113 ≠ gb104) := ⟨h16_⟩
      have n17_ : Aside0 (gb114 ≠ gb113) := ⟨h17_⟩
      have n18_ : Aside0 (gb113 ≠ gb114) := ⟨h18_⟩
      have n19_ : Aside0 (w.heap.size ≤ gb114) := ⟨h19_⟩
      have n20_ : Aside0 (w.heap.size ≤ gb114) := ⟨h20_⟩
      have n21_ : Aside0 (gb101 ≠ gb114) := ⟨h21_⟩
      have n22_ : Aside0 (gb114 ≠ gb101) := ⟨h22_⟩
      have n23_ : Aside0 (gb102 ≠ gb114) := ⟨h23_⟩
      have n24_ : Aside0 (gb114 ≠ gb102) := ⟨h24_⟩
      have n25_ : Aside0 (gb103 ≠ gb114) := ⟨h25_⟩
      have n26_ : Aside0 (gb114 ≠ gb103) := ⟨h26_⟩
      have n27_ : Aside0 (gb104 ≠ gb114) := ⟨h27_⟩
      have n28_ : Aside0 (gb114 ≠ gb104) := ⟨h28_⟩
      have n29_ : Aside0 (Below w.heap.size w w51) := ⟨h29_⟩
      clear BK101
      clear BK102
      clear BK103
      clear BK104
      clear HB
      clear h0_ h1_ h2_ h3_ h4_ h5_ h6_ h7_ h8_ h9_ h10_ h11_ h12_ h13_ h14_ h15_ h16_ h17_ h18_ h19_ h20_ h21_ h22_ h23_ h24_ h25_ h26_ h27_ h28_ h29_
      have HO109 := n0_
      have BK101 := n1_
      have BK102 := n2_
      have BK103 := n3_
      have BK104 := n4_
      have BK113 := n5_
      have BK114 := n6_
      have GW113 := n7_
      have GE113 := n8_
      have NB101_113 := n9_
      have NB113_101 := n10_
      have NB102_113 := n11_
      have NB113_102 := n12_
      have NB103_113 := n13_
      have NB113_103 := n14_
      have NB104_113 := n15_
      have NB113_104 := n16_
      have NB114_113 := n17_
      have NB113_114 := n18_
      have GW114 := n19_
      have GE114 := n20_
      have NB101_114 := n21_
      have NB114_101 := n22_
      have NB102_114 := n23_
      have NB114_102 := n24_
      have NB103_114 := n25_
      have NB114_103 := n26_
      have NB104_114 := n27_
      have NB114_104 := n28_
      have HB := n29_
      clear n0_ n1_ n2_ n3_ n4_ n5_ n6_ n7_ n8_ n9_ n10_ n11_ n12_ n13_ n14_ n15_ n16_ n17_ n18_ n19_ n20_ n21_ n22_ n23_ n24_ n25_ n26_ n27_ n28_ n29_
      have hHeld : w51.cell? ⟨gb101, 0, none⟩ = some (.int .i64 a0_0) ∧ w51.cell? ⟨gb101, 1, none⟩ = some (.slice A0_1 l0_1.length c0_1) ∧ w51.cell? ⟨gb102, 0, none⟩ = some (.int .i64 a1_0) ∧ w51.cell? ⟨gb102, 1, none⟩ = some (.slice A1_1 l1_1.length c1_1) := hS_
      refine norm_ (a' := ?_) ?_ ?_
      rotate_left
      ·simp only [putAll, Act.put, List.setIfInBounds_toArray, List.set_cons_zero, List.set_cons_succ]
       rfl
      refine two_ (i := 3) (j := 8) (Ni := some 31) (Nj := some 10) #[true, true, true, true, true, true, true, true, false, false, false, false] #[true, true, true, false, true, true, true, true, true, false, false, false] rfl rfl rfl rfl (two_of HT_.out (by kernel_rfl)) (by decide) (by decide) (fun K hK => ?_) (fun K hK => ?_)
      ·skip
       refine goes_ Try.func65 (by kernel_rfl) rfl #[.agg #[.int .i64 a1_0, .slice A1_1 l1_1.length c1_1]] (by rfl) rfl rfl (by (try simp only [List.map_toArray, List.map_cons, List.map_nil]) <;> rfl) ?_
       with_reducible refine (impl_netOf.calls kj8 a1_0 _ _ l1_1 t110 _ ?side1 ?side2 A45.out).mono ?_
       (case side1 => exact (Kd.C_below HR1_1.out HB.out))
       (case side2 => exact HC1_1.out)
       rintro e w52 ⟨v111, rfl, ho0, hb⟩
       refine ⟨_, rfl, ?_⟩
       have HO112 := Aside0.mk (Kd.R_lower (Kd.R_new' ho0 (Kd.R_lt HO109.out)) (below_size HB.out))
       replace HO109 := Aside0.mk (Kd.R_elder' HO109.out (Kd.R_base ho0) hb)
       replace BK101 := Aside0.mk (blk_below BK101.out hb)
       replace BK102 := Aside0.mk (blk_below BK102.out hb)
       replace BK103 := Aside0.mk (blk_below BK103.out hb)
       replace BK104 := Aside0.mk (blk_below BK104.out hb)
       replace BK113 := Aside0.mk (blk_below BK113.out hb)
       replace BK114 := Aside0.mk (blk_below BK114.out hb)
       replace HB := Aside0.mk (below_step HB.out hb)
       (try clear hb)
       (try clear ho0)
       refine hK.out _ _ ⟨(blk_cell BK101.out 0).trans rfl, (blk_cell BK101.out 1).trans rfl, (blk_cell BK102.out 0).trans rfl, (blk_cell BK102.out 1).trans rfl⟩ (fun hHeld => ?_)
       clear hK K
       refine norm_ (a' := ?_) ?_ ?_
       rotate_left
       ·show Act.put _ (some 31) _ = _
        simp only [Act.put, List.setIfInBounds_toArray, List.set_cons_zero, List.set_cons_succ, i64_w, i32_w]
        rfl
       exact norm_ (by simp only [putAll, Act.put, List.setIfInBounds_toArray, List.set_cons_zero, List.set_cons_succ] <;> rfl) (hJ1_3_6_7 (v108, v111, gb113, gb114) _ ⟨hHeld, (by (with_reducible repeat (first | apply Kd.R_alloc | apply Kd.R_drewN | apply Kd.R_drew)); exact Kd.R_mono HO109.out (fun _ hk => hk.2)), (by (with_reducible repeat (first | apply Kd.R_alloc | apply Kd.R_drewN | apply Kd.R_drew)); exact Kd.R_mono HO112.out (fun _ hk => hk.2)), BK101.out, BK102.out, BK103.out, BK104.out, BK113.out, BK114.out, GW113.out, GE113.out, NB101_113.out, NB113_101.out, NB102_113.out, NB113_102.out, NB103_113.out, NB113_103.out, NB104_113.out, NB113_104.out, NB114_113.out, NB113_114.out, GW114.out, GE114.out, NB101_114.out, NB114_101.out, NB102_114.out, NB114_102.out, NB103_114.out, NB114_103.out, NB104_114.out, NB114_104.out, HB.out⟩)
      ·skip
       refine box_step ?hg (N := 10) ?hd (cs := #[.int .i64 0]) (t := 3) ?hr ?_; (case hd => rfl); (case hg => rfl); (case hr => first | (go_simp; done) | (go_simp; rfl))
       intro gb115 hg w52 hbox hb
       have BK115 := Aside0.mk (hbox)
       have GW115 := geN HB.out hg
       have GE115 := geN HB.out hg
       have NB101_115 := neL BK101.out hg
       have NB115_101 := neR BK101.out hg
       have NB102_115 := neL BK102.out hg
       have NB115_102 := neR BK102.out hg
       have NB103_115 := neL BK103.out hg
       have NB115_103 := neR BK103.out hg
       have NB104_115 := neL BK104.out hg
       have NB115_104 := neR BK104.out hg
       have NB113_115 := neL BK113.out hg
       have NB115_113 := neR BK113.out hg
       have NB114_115 := neL BK114.out hg
       have NB115_114 := neR BK114.out hg
       replace HO109 := Aside0.mk (Kd.R_below (Kd.R_elderB HO109.out gb115 (Nat.le_of_eq hg.symm)) hb)
       replace BK101 := Aside0.mk (blk_below BK101.out hb)
       replace BK102 := Aside0.mk (blk_below BK102.out hb)
       replace BK103 := Aside0.mk (blk_below BK103.out hb)
       replace BK104 := Aside0.mk (blk_below BK104.out hb)
       replace BK113 := Aside0.mk (blk_below BK113.out hb)
       replace BK114 := Aside0.mk (blk_below BK114.out hb)
       replace HB := Aside0.mk (below_step HB.out hb)
       clear hb hbox hg
       refine hK.out _ _ ⟨(blk_cell BK101.out 0).trans rfl, (blk_cell BK101.out 1).trans rfl, (blk_cell BK102.out 0).trans rfl, (blk_cell BK102.out 1).trans rfl⟩ (fun hHeld => ?_)
       clear hK K
       refine norm_ (a' := ?_) ?_ ?_
       rotate_left
       ·show Act.put _ (some 10) _ = _
        simp only [Act.put, List.setIfInBounds_toArray, List.set_cons_zero, List.set_cons_succ, i64_w, i32_w]
        rfl
       exact norm_ (by simp only [putAll, Act.put, List.setIfInBounds_toArray, List.set_cons_zero, List.set_cons_succ] <;> rfl) (hJ1_6_7_8 (v108, gb113, gb114, gb115) _ ⟨hHeld, (by (with_reducible repeat (first | apply Kd.R_alloc | apply Kd.R_drewN | apply Kd.R_drew)); exact Kd.R_mono HO109.out (fun _ hk => hk.2)), BK101.out, BK102.out, BK103.out, BK104.out, BK113.out, BK114.out, BK115.out, GW113.out, GE113.out, NB101_113.out, NB113_101.out, NB102_113.out, NB113_102.out, NB103_113.out, NB113_103.out, NB104_113.out, NB113_104.out, NB114_113.out, NB113_114.out, NB115_113.out, NB113_115.out, GW114.out, GE114.out, NB101_114.out, NB114_101.out, NB102_114.out, NB114_102.out, NB103_114.out, NB114_103.out, NB104_114.out, NB114_104.out, NB115_114.out, NB114_115.out, GW115.out, GE115.out, NB101_115.out, NB115_101.out, NB102_115.out, NB115_102.out, NB103_115.out, NB115_103.out, NB104_115.out, NB115_104.out, HB.out⟩)
    ·skip
     ·skip
      rintro ⟨v108, gb113, gb115⟩ w51 ⟨hS_, h0_, h1_, h2_, h3_, h4_, h5_, h6_, h7_, h8_, h9_, h10_, h11_, h12_, h13_, h14_, h15_, h16_, h17_, h18_, h19_, h20_, h21_, h22_, h23_, h24_, h25_, h26_, h27_, h28_, h29_⟩
      have n0_ : Aside0 (Kd.R (Kd.int .i64) 3 w51 w.heap.size (fun k_ => k_ ≠ gb115) v108 t107) := ⟨h0_⟩
      have n1_ : Aside0 (w51.heap[gb101]? = some (.cells #[.int .i64 a0_0, .slice A0_1 l0_1.length c0_1] 29 (0, 0))) := ⟨h1_⟩
      have n2_ : Aside0 (w51.heap[gb102]? = some (.cells #[.int .i64 a1_0, .slice A1_1 l1_1.length c1_1] 29 (0, 0))) := ⟨h2_⟩
      have n3_ : Aside0 (w51.heap[gb103]? = some (.cells #[.func (.func 71) #[] #[]] 65 (0, 0))) := ⟨h3_⟩
      have n4_ : Aside0 (w51.heap[gb104]? = some (.cells #[.int .i64 0, .slice none 0 0] 29 (0, 0))) := ⟨h4_⟩
      have n5_ : Aside0 (w51.heap[gb113]? = some (.cells #[.slice none 0 0] 61 (0, 0))) := ⟨h5_⟩
      have n6_ : Aside0 (w51.heap[gb115]? = some (.cells #[.int .i64 0] 3 (0, 0))) := ⟨h6_⟩
      have n7_ : Aside0 (w.heap.size ≤ gb113) := ⟨h7_⟩
      have n8_ : Aside0 (w.heap.size ≤ gb113) := ⟨h8_⟩
      have n9_ : Aside0 (gb101 ≠ gb113) := ⟨h9_⟩
      have n10_ : Aside0 (gb113 ≠ gb101) := ⟨h10_⟩
      have n11_ : Aside0 (gb102 ≠ gb113) := ⟨h11_⟩
      have n12_ : Aside0 (gb113 ≠ gb102) := ⟨h12_⟩
      have n13_ : Aside0 (gb103 ≠ gb113) := ⟨h13_⟩
      have n14_ : Aside0 (gb113 ≠ gb103) := ⟨h14_⟩
      have n15_ : Aside0 (gb104 ≠ gb113) := ⟨h15_⟩
      have n16_ : Aside0 (gb113 ≠ gb104) := ⟨h16_⟩
      have n17_ : Aside0 (gb115 ≠ gb113) := ⟨h17_⟩
      have n18_ : Aside0 (gb113 ≠ gb115) := ⟨h18_⟩
      have n19_ : Aside0 (w.heap.size ≤ gb115) := ⟨h19_⟩
      have n20_ : Aside0 (w.heap.size ≤ gb115) := ⟨h20_⟩
      have n21_ : Aside0 (gb101 ≠ gb115) := ⟨h21_⟩
      have n22_ : Aside0 (gb115 ≠ gb101) := ⟨h22_⟩
      have n23_ : Aside0 (gb102 ≠ gb115) := ⟨h23_⟩
      have n24_ : Aside0 (gb115 ≠ gb102) := ⟨h24_⟩
      have n25_ : Aside0 (gb103 ≠ gb115) := ⟨h25_⟩
      have n26_ : Aside0 (gb115 ≠ gb103) := ⟨h26_⟩
      have n27_ : Aside0 (gb104 ≠ gb115) := ⟨h27_⟩
      have n28_ : Aside0 (gb115 ≠ gb104) := ⟨h28_⟩
      have n29_ : Aside0 (Below w.heap.size w w51) := ⟨h29_⟩
      clear BK101
      clear BK102
      clear BK103
      clear BK104
      clear HB
      clear h0_ h1_ h2_ h3_ h4_ h5_ h6_ h7_ h8_ h9_ h10_ h11_ h12_ h13_ h14_ h15_ h16_ h17_ h18_ h19_ h20_ h21_ h22_ h23_ h24_ h25_ h26_ h27_ h28_ h29_
      have HO109 := n0_
      have BK101 := n1_
      have BK102 := n2_
      have BK103 := n3_
      have BK104 := n4_
      have BK113 := n5_
      have BK115 := n6_
      have GW113 := n7_
      have GE113 := n8_
      have NB101_113 := n9_
      have NB113_101 := n10_
      have NB102_113 := n11_
      have NB113_102 := n12_
      have NB103_113 := n13_
      have NB113_103 := n14_
      have NB104_113 := n15_
      have NB113_104 := n16_
      have NB115_113 := n17_
      have NB113_115 := n18_
      have GW115 := n19_
      have GE115 := n20_
      have NB101_115 := n21_
      have NB115_101 := n22_
      have NB102_115 := n23_
      have NB115_102 := n24_
      have NB103_115 := n25_
      have NB115_103 := n26_
      have NB104_115 := n27_
      have NB115_104 := n28_
      have HB := n29_
      clear n0_ n1_ n2_ n3_ n4_ n5_ n6_ n7_ n8_ n9_ n10_ n11_ n12_ n13_ n14_ n15_ n16_ n17_ n18_ n19_ n20_ n21_ n22_ n23_ n24_ n25_ n26_ n27_ n28_ n29_
      have hHeld : w51.cell? ⟨gb101, 0, none⟩ = some (.int .i64 a0_0) ∧ w51.cell? ⟨gb101, 1, none⟩ = some (.slice A0_1 l0_1.length c0_1) ∧ w51.cell? ⟨gb102, 0, none⟩ = some (.int .i64 a1_0) ∧ w51.cell? ⟨gb102, 1, none⟩ = some (.slice A1_1 l1_1.length c1_1) := hS_
      refine norm_ (a' := ?_) ?_ ?_
      rotate_left
      ·simp only [putAll, Act.put, List.setIfInBounds_toArray, List.set_cons_zero, List.set_cons_succ]
       rfl
      refine two_ (i := 3) (j := 7) (Ni := some 31) (Nj := some 9) #[true, true, true, true, true, true, true, false, true, false, false, false] #[true, true, true, false, true, true, true, true, true, false, false, false] rfl rfl rfl rfl (two_of HT_.out (by kernel_rfl)) (by decide) (by decide) (fun K hK => ?_) (fun K hK => ?_)
      ·skip
       refine goes_ Try.func65 (by kernel_rfl) rfl #[.agg #[.int .i64 a1_0, .slice A1_1 l1_1.length c1_1]] (by rfl) rfl rfl (by (try simp only [List.map_toArray, List.map_cons, List.map_nil]) <;> rfl) ?_
       with_reducible refine (impl_netOf.calls kj8 a1_0 _ _ l1_1 t110 _ ?side1 ?side2 A45.out).mono ?_
       (case side1 => exact (Kd.C_below HR1_1.out HB.out))
       (case side2 => exact HC1_1.out)
       rintro e w52 ⟨v111, rfl, ho0, hb⟩
       refine ⟨_, rfl, ?_⟩
       have HO112 := Aside0.mk (Kd.R_lower (Kd.R_newB (Kd.R_new' ho0 (Kd.R_lt HO109.out)) BK115.out) (below_size HB.out))
       replace HO109 := Aside0.mk (Kd.R_elder' HO109.out (Kd.R_base ho0) hb)
       replace BK101 := Aside0.mk (blk_below BK101.out hb)
       replace BK102 := Aside0.mk (blk_below BK102.out hb)
       replace BK103 := Aside0.mk (blk_below BK103.out hb)
       replace BK104 := Aside0.mk (blk_below BK104.out hb)
       replace BK113 := Aside0.mk (blk_below BK113.out hb)
       replace BK115 := Aside0.mk (blk_below BK115.out hb)
       replace HB := Aside0.mk (below_step HB.out hb)
       (try clear hb)
       (try clear ho0)
       refine hK.out _ _ ⟨(blk_cell BK101.out 0).trans rfl, (blk_cell BK101.out 1).trans rfl, (blk_cell BK102.out 0).trans rfl, (blk_cell BK102.out 1).trans rfl⟩ (fun hHeld => ?_)
       clear hK K
       refine norm_ (a' := ?_) ?_ ?_
       rotate_left
       ·show Act.put _ (some 31) _ = _
        simp only [Act.put, List.setIfInBounds_toArray, List.set_cons_zero, List.set_cons_succ, i64_w, i32_w]
        rfl
       exact norm_ (by simp only [putAll, Act.put, List.setIfInBounds_toArray, List.set_cons_zero, List.set_cons_succ] <;> rfl) (hJ1_3_6_8 (v108, v111, gb113, gb115) _ ⟨hHeld, (by (with_reducible repeat (first | apply Kd.R_alloc | apply Kd.R_drewN | apply Kd.R_drew)); exact Kd.R_mono HO109.out (fun _ hk => ⟨hk.2, hk.1⟩)), (by (with_reducible repeat (first | apply Kd.R_alloc | apply Kd.R_drewN | apply Kd.R_drew)); exact Kd.R_mono HO112.out (fun _ hk => ⟨hk.1.2, hk.2⟩)), BK101.out, BK102.out, BK103.out, BK104.out, BK113.out, BK115.out, GW113.out, GE113.out, NB101_113.out, NB113_101.out, NB102_113.out, NB113_102.out, NB103_113.out, NB113_103.out, NB104_113.out, NB113_104.out, NB115_113.out, NB113_115.out, GW115.out, GE115.out, NB101_115.out, NB115_101.out, NB102_115.out, NB115_102.out, NB103_115.out, NB115_103.out, NB104_115.out, NB115_104.out, HB.out⟩)
      ·skip
       refine box_step ?hg (N := 9) ?hd (cs := #[.slice none 0 0]) (t := 61) ?hr ?_; (case hd => rfl); (case hg => rfl); (case hr => first | (go_simp; done) | (go_simp; rfl))
       intro gb114 hg w52 hbox hb
       have BK114 := Aside0.mk (hbox)
       have GW114 := geN HB.out hg
       have GE114 := geN HB.out hg
       have NB101_114 := neL BK101.out hg
       have NB114_101 := neR BK101.out hg
       have NB102_114 := neL BK102.out hg
       have NB114_102 := neR BK102.out hg
       have NB103_114 := neL BK103.out hg
       have NB114_103 := neR BK103.out hg
       have NB104_114 := neL BK104.out hg
       have NB114_104 := neR BK104.out hg
       have NB113_114 := neL BK113.out hg
       have NB114_113 := neR BK113.out hg
       have NB115_114 := neL BK115.out hg
       have NB114_115 := neR BK115.out hg
       replace HO109 := Aside0.mk (Kd.R_below HO109.out hb)
       replace BK101 := Aside0.mk (blk_below BK101.out hb)
       replace BK102 := Aside0.mk (blk_below BK102.out hb)
       replace BK103 := Aside0.mk (blk_below BK103.out hb)
       replace BK104 := Aside0.mk (blk_below BK104.out hb)
       replace BK113 := Aside0.mk (blk_below BK113.out hb)
       replace BK115 := Aside0.mk (blk_below BK115.out hb)
       replace HB := Aside0.mk (below_step HB.out hb)
       clear hb hbox hg
       refine hK.out _ _ ⟨(blk_cell BK101.out 0).trans rfl, (blk_cell BK101.out 1).trans rfl, (blk_cell BK102.out 0).trans rfl, (blk_cell BK102.out 1).trans rfl⟩ (fun hHeld => ?_)
       clear hK K
       refine norm_ (a' := ?_) ?_ ?_
       rotate_left
       ·show Act.put _ (some 9) _ = _
        simp only [Act.put, List.setIfInBounds_toArray, List.set_cons_zero, List.set_cons_succ, i64_w, i32_w]
        rfl
       exact norm_ (by simp only [putAll, Act.put, List.setIfInBounds_toArray, List.set_cons_zero, List.set_cons_succ] <;> rfl) (hJ1_6_7_8 (v108, gb113, gb114, gb115) _ ⟨hHeld, HO109.out, BK101.out, BK102.out, BK103.out, BK104.out, BK113.out, BK114.out, BK115.out, GW113.out, GE113.out, NB101_113.out, NB113_101.out, NB102_113.out, NB113_102.out, NB103_113.out, NB113_103.out, NB104_113.out, NB113_104.out, NB114_113.out, NB113_114.out, NB115_113.out, NB113_115.out, GW114.out, GE114.out, NB101_114.out, NB114_101.out, NB102_114.out, NB114_102.out, NB103_114.out, NB114_103.out, NB104_114.out, NB114_104.out, NB115_114.out, NB114_115.out, GW115.out, GE115.out, NB101_115.out, NB115_101.out, NB102_115.out, NB115_102.out, NB103_115.out, NB115_103.out, NB104_115.out, NB115_104.out, HB.out⟩)
    ·skip
     ·skip
      rintro ⟨v108, gb114, gb115⟩ w51 ⟨hS_, h0_, h1_, h2_, h3_, h4_, h5_, h6_, h7_, h8_, h9_, h10_, h11_, h12_, h13_, h14_, h15_, h16_, h17_, h18_, h19_, h20_, h21_, h22_, h23_, h24_, h25_, h26_, h27_, h28_, h29_⟩
      have n0_ : Aside0 (Kd.R (Kd.int .i64) 3 w51 w.heap.size (fun k_ => k_ ≠ gb115) v108 t107) := ⟨h0_⟩
      have n1_ : Aside0 (w51.heap[gb101]? = some (.cells #[.int .i64 a0_0, .slice A0_1 l0_1.length c0_1] 29 (0, 0))) := ⟨h1_⟩
      have n2_ : Aside0 (w51.heap[gb102]? = some (.cells #[.int .i64 a1_0, .slice A1_1 l1_1.length c1_1] 29 (0, 0))) := ⟨h2_⟩
      have n3_ : Aside0 (w51.heap[gb103]? = some (.cells #[.func (.func 71) #[] #[]] 65 (0, 0))) := ⟨h3_⟩
      have n4_ : Aside0 (w51.heap[gb104]? = some (.cells #[.int .i64 0, .slice none 0 0] 29 (0, 0))) := ⟨h4_⟩
      have n5_ : Aside0 (w51.heap[gb114]? = some (.cells #[.slice none 0 0] 61 (0, 0))) := ⟨h5_⟩
      have n6_ : Aside0 (w51.heap[gb115]? = some (.cells #[.int .i64 0] 3 (0, 0))) := ⟨h6_⟩
      have n7_ : Aside0 (w.heap.size ≤ gb114) := ⟨h7_⟩
      have n8_ : Aside0 (w.heap.size ≤ gb114) := ⟨h8_⟩
      have n9_ : Aside0 (gb101 ≠ gb114) := ⟨h9_⟩
      have n10_ : Aside0 (gb114 ≠ gb101) := ⟨h10_⟩
      have n11_ : Aside0 (gb102 ≠ gb114) := ⟨h11_⟩
      have n12_ : Aside0 (gb114 ≠ gb102) := ⟨h12_⟩
      have n13_ : Aside0 (gb103 ≠ gb114) := ⟨h13_⟩
      have n14_ : Aside0 (gb114 ≠ gb103) := ⟨h14_⟩
      have n15_ : Aside0 (gb104 ≠ gb114) := ⟨h15_⟩
      have n16_ : Aside0 (gb114 ≠ gb104) := ⟨h16_⟩
      have n17_ : Aside0 (gb115 ≠ gb114) := ⟨h17_⟩
      have n18_ : Aside0 (gb114 ≠ gb115) := ⟨h18_⟩
      have n19_ : Aside0 (w.heap.size ≤ gb115) := ⟨h19_⟩
      have n20_ : Aside0 (w.heap.size ≤ gb115) := ⟨h20_⟩
      have n21_ : Aside0 (gb101 ≠ gb115) := ⟨h21_⟩
      have n22_ : Aside0 (gb115 ≠ gb101) := ⟨h22_⟩
      have n23_ : Aside0 (gb102 ≠ gb115) := ⟨h23_⟩
      have n24_ : Aside0 (gb115 ≠ gb102) := ⟨h24_⟩
      have n25_ : Aside0 (gb103 ≠ gb115) := ⟨h25_⟩
      have n26_ : Aside0 (gb115 ≠ gb103) := ⟨h26_⟩
      have n27_ : Aside0 (gb104 ≠ gb115) := ⟨h27_⟩
      have n28_ : Aside0 (gb115 ≠ gb104) := ⟨h28_⟩
      have n29_ : Aside0 (Below w.heap.size w w51) := ⟨h29_⟩
      clear BK101
      clear BK102
      clear BK103
      clear BK104
      clear HB
      clear h0_ h1_ h2_ h3_ h4_ h5_ h6_ h7_ h8_ h9_ h10_ h11_ h12_ h13_ h14_ h15_ h16_ h17_ h18_ h19_ h20_ h21_ h22_ h23_ h24_ h25_ h26_ h27_ h28_ h29_
      have HO109 := n0_
      have BK101 := n1_
      have BK102 := n2_
      have BK103 := n3_
      have BK104 := n4_
      have BK114 := n5_
      have BK115 := n6_
      have GW114 := n7_
      have GE114 := n8_
      have NB101_114 := n9_
      have NB114_101 := n10_
      have NB102_114 := n11_
      have NB114_102 := n12_
      have NB103_114 := n13_
      have NB114_103 := n14_
      have NB104_114 := n15_
      have NB114_104 := n16_
      have NB115_114 := n17_
      have NB114_115 := n18_
      have GW115 := n19_
      have GE115 := n20_
      have NB101_115 := n21_
      have NB115_101 := n22_
      have NB102_115 := n23_
      have NB115_102 := n24_
      have NB103_115 := n25_
      have NB115_103 := n26_
      have NB104_115 := n27_
      have NB115_104 := n28_
      have HB := n29_
      clear n0_ n1_ n2_ n3_ n4_ n5_ n6_ n7_ n8_ n9_ n10_ n11_ n12_ n13_ n14_ n15_ n16_ n17_ n18_ n19_ n20_ n21_ n22_ n23_ n24_ n25_ n26_ n27_ n28_ n29_
      have hHeld : w51.cell? ⟨gb101, 0, none⟩ = some (.int .i64 a0_0) ∧ w51.cell? ⟨gb101, 1, none⟩ = some (.slice A0_1 l0_1.length c0_1) ∧ w51.cell? ⟨gb102, 0, none⟩ = some (.int .i64 a1_0) ∧ w51.cell? ⟨gb102, 1, none⟩ = some (.slice A1_1 l1_1.length c1_1) := hS_
      refine norm_ (a' := ?_) ?_ ?_
      rotate_left
      ·simp only [putAll, Act.put, List.setIfInBounds_toArray, List.set_cons_zero, List.set_cons_succ]
       rfl
      refine two_ (i := 3) (j := 6) (Ni := some 31) (Nj := some 8) #[true, true, true, true, true, true, false, true, true, false, false, false] #[true, true, true, false, true, true, true, true, true, false, false, false] rfl rfl rfl rfl (two_of HT_.out (by kernel_rfl)) (by decide) (by decide) (fun K hK => ?_) (fun K hK => ?_)
      ·skip
       refine goes_ Try.func65 (by kernel_rfl) rfl #[.agg #[.int .i64 a1_0, .slice A1_1 l1_1.length c1_1]] (by rfl) rfl rfl (by (try simp only [List.map_toArray, List.map_cons, List.map_nil]) <;> rfl) ?_
       with_reducible refine (impl_netOf.calls kj8 a1_0 _ _ l1_1 t110 _ ?side1 ?side2 A45.out).mono ?_
       (case side1 => exact (Kd.C_below HR1_1.out HB.out))
       (case side2 => exact HC1_1.out)
       rintro e w52 ⟨v111, rfl, ho0, hb⟩
       refine ⟨_, rfl, ?_⟩
       have HO112 := Aside0.mk (Kd.R_lower (Kd.R_newB (Kd.R_new' ho0 (Kd.R_lt HO109.out)) BK115.out) (below_size HB.out))
       replace HO109 := Aside0.mk (Kd.R_elder' HO109.out (Kd.R_base ho0) hb)
       replace BK101 := Aside0.mk (blk_below BK101.out hb)
       replace BK102 := Aside0.mk (blk_below BK102.out hb)
       replace BK103 := Aside0.mk (blk_below BK103.out hb)
       replace BK104 := Aside0.mk (blk_below BK104.out hb)
       replace BK114 := Aside0.mk (blk_below BK114.out hb)
       replace BK115 := Aside0.mk (blk_below BK115.out hb)
       replace HB := Aside0.mk (below_step HB.out hb)
       (try clear hb)
       (try clear ho0)
       refine hK.out _ _ ⟨(blk_cell BK101.out 0).trans rfl, (blk_cell BK101.out 1).trans rfl, (blk_cell BK102.out 0).trans rfl, (blk_cell BK102.out 1).trans rfl⟩ (fun hHeld => ?_)
       clear hK K
       refine norm_ (a' := ?_) ?_ ?_
       rotate_left
       ·show Act.put _ (some 31) _ = _
        simp only [Act.put, List.setIfInBounds_toArray, List.set_cons_zero, List.set_cons_succ, i64_w, i32_w]
        rfl
       exact norm_ (by simp only [putAll, Act.put, List.setIfInBounds_toArray, List.set_cons_zero, List.set_cons_succ] <;> rfl) (hJ1_3_7_8 (v108, v111, gb114, gb115) _ ⟨hHeld, (by (with_reducible repeat (first | apply Kd.R_alloc | apply Kd.R_drewN | apply Kd.R_drew)); exact Kd.R_mono HO109.out (fun _ hk => ⟨hk.2, hk.1⟩)), (by (with_reducible repeat (first | apply Kd.R_alloc | apply Kd.R_drewN | apply Kd.R_drew)); exact Kd.R_mono HO112.out (fun _ hk => ⟨hk.1.2, hk.2⟩)), BK101.out, BK102.out, BK103.out, BK104.out, BK114.out, BK115.out, GW114.out, GE114.out, NB101_114.out, NB114_101.out, NB102_114.out, NB114_102.out, NB103_114.out, NB114_103.out, NB104_114.out, NB114_104.out, NB115_114.out, NB114_115.out, GW115.out, GE115.out, NB101_115.out, NB115_101.out, NB102_115.out, NB115_102.out, NB103_115.out, NB115_103.out, NB104_115.out, NB115_104.out, HB.out⟩)
      ·skip
       refine box_step ?hg (N := 8) ?hd (cs := #[.slice none 0 0]) (t := 61) ?hr ?_; (case hd => rfl); (case hg => rfl); (case hr => first | (go_simp; done) | (go_simp; rfl))
       intro gb113 hg w52 hbox hb
       have BK113 := Aside0.mk (hbox)
       have GW113 := geN HB.out hg
       have GE113 := geN HB.out hg
       have NB101_113 := neL BK101.out hg
       have NB113_101 := neR BK101.out hg
       have NB102_113 := neL BK102.out hg
       have NB113_102 := neR BK102.out hg
       have NB103_113 := neL BK103.out hg
       have NB113_103 := neR BK103.out hg
       have NB104_113 := neL BK104.out hg
       have NB113_104 := neR BK104.out hg
       have NB114_113 := neL BK114.out hg
       have NB113_114 := neR BK114.out hg
       have NB115_113 := neL BK115.out hg
       have NB113_115 := neR BK115.out hg
       replace HO109 := Aside0.mk (Kd.R_below HO109.out hb)
       replace BK101 := Aside0.mk (blk_below BK101.out hb)
       replace BK102 := Aside0.mk (blk_below BK102.out hb)
       replace BK103 := Aside0.mk (blk_below BK103.out hb)
       replace BK104 := Aside0.mk (blk_below BK104.out hb)
       replace BK114 := Aside0.mk (blk_below BK114.out hb)
       replace BK115 := Aside0.mk (blk_below BK115.out hb)
       replace HB := Aside0.mk (below_step HB.out hb)
       clear hb hbox hg
       refine hK.out _ _ ⟨(blk_cell BK101.out 0).trans rfl, (blk_cell BK101.out 1).trans rfl, (blk_cell BK102.out 0).trans rfl, (blk_cell BK102.out 1).trans rfl⟩ (fun hHeld => ?_)
       clear hK K
       refine norm_ (a' := ?_) ?_ ?_
       rotate_left
       ·show Act.put _ (some 8) _ = _
        simp only [Act.put, List.setIfInBounds_toArray, List.set_cons_zero, List.set_cons_succ, i64_w, i32_w]
        rfl
       exact norm_ (by simp only [putAll, Act.put, List.setIfInBounds_toArray, List.set_cons_zero, List.set_cons_succ] <;> rfl) (hJ1_6_7_8 (v108, gb113, gb114, gb115) _ ⟨hHeld, HO109.out, BK101.out, BK102.out, BK103.out, BK104.out, BK113.out, BK114.out, BK115.out, GW113.out, GE113.out, NB101_113.out, NB113_101.out, NB102_113.out, NB113_102.out, NB103_113.out, NB113_103.out, NB104_113.out, NB113_104.out, NB114_113.out, NB113_114.out, NB115_113.out, NB113_115.out, GW114.out, GE114.out, NB101_114.out, NB114_101.out, NB102_114.out, NB114_102.out, NB103_114.out, NB114_103.out, NB104_114.out, NB114_104.out, NB115_114.out, NB114_115.out, GW115.out, GE115.out, NB101_115.out, NB115_101.out, NB102_115.out, NB115_102.out, NB103_115.out, NB115_103.out, NB104_115.out, NB115_104.out, HB.out⟩)
    ·skip
     ·skip
      rintro ⟨gb113, gb114, gb115⟩ w51 ⟨hS_, h0_, h1_, h2_, h3_, h4_, h5_, h6_, h7_, h8_, h9_, h10_, h11_, h12_, h13_, h14_, h15_, h16_, h17_, h18_, h19_, h20_, h21_, h22_, h23_, h24_, h25_, h26_, h27_, h28_, h29_, h30_, h31_, h32_, h33_, h34_, h35_, h36_, h37_, h38_, h39_, h40_, h41_, h42_, h43_⟩
      have n0_ : Aside0 (w51.heap[gb101]? = some (.cells #[.int .i64 a0_0, .slice A0_1 l0_1.length c0_1] 29 (0, 0))) := ⟨h0_⟩
      have n1_ : Aside0 (w51.heap[gb102]? = some (.cells #[.int .i64 a1_0, .slice A1_1 l1_1.length c1_1] 29 (0, 0))) := ⟨h1_⟩
      have n2_ : Aside0 (w51.heap[gb103]? = some (.cells #[.func (.func 71) #[] #[]] 65 (0, 0))) := ⟨h2_⟩
      have n3_ : Aside0 (w51.heap[gb104]? = some (.cells #[.int .i64 0, .slice none 0 0] 29 (0, 0))) := ⟨h3_⟩
      have n4_ : Aside0 (w51.heap[gb113]? = some (.cells #[.slice none 0 0] 61 (0, 0))) := ⟨h4_⟩
      have n5_ : Aside0 (w51.heap[gb114]? = some (.cells #[.slice none 0 0] 61 (0, 0))) := ⟨h5_⟩
      have n6_ : Aside0 (w51.heap[gb115]? = some (.cells #[.int .i64 0] 3 (0, 0))) := ⟨h6_⟩
      have n7_ : Aside0 (w.heap.size ≤ gb113) := ⟨h7_⟩
      have n8_ : Aside0 (w.heap.size ≤ gb113) := ⟨h8_⟩
      have n9_ : Aside0 (gb101 ≠ gb113) := ⟨h9_⟩
      have n10_ : Aside0 (gb113 ≠ gb101) := ⟨h10_⟩
      have n11_ : Aside0 (gb102 ≠ gb113) := ⟨h11_⟩
      have n12_ : Aside0 (gb113 ≠ gb102) := ⟨h12_⟩
      have n13_ : Aside0 (gb103 ≠ gb113) := ⟨h13_⟩
      have n14_ : Aside0 (gb113 ≠ gb103) := ⟨h14_⟩
      have n15_ : Aside0 (gb104 ≠ gb113) := ⟨h15_⟩
      have n16_ : Aside0 (gb113 ≠ gb104) := ⟨h16_⟩
      have n17_ : Aside0 (gb114 ≠ gb113) := ⟨h17_⟩
      have n18_ : Aside0 (gb113 ≠ gb114) := ⟨h18_⟩
      have n19_ : Aside0 (gb115 ≠ gb113) := ⟨h19_⟩
      have n20_ : Aside0 (gb113 ≠ gb115) := ⟨h20_⟩
      have n21_ : Aside0 (w.heap.size ≤ gb114) := ⟨h21_⟩
      have n22_ : Aside0 (w.heap.size ≤ gb114) := ⟨h22_⟩
      have n23_ : Aside0 (gb101 ≠ gb114) := ⟨h23_⟩
      have n24_ : Aside0 (gb114 ≠ gb101) := ⟨h24_⟩
      have n25_ : Aside0 (gb102 ≠ gb114) := ⟨h25_⟩
      have n26_ : Aside0 (gb114 ≠ gb102) := ⟨h26_⟩
      have n27_ : Aside0 (gb103 ≠ gb114) := ⟨h27_⟩
      have n28_ : Aside0 (gb114 ≠ gb103) := ⟨h28_⟩
      have n29_ : Aside0 (gb104 ≠ gb114) := ⟨h29_⟩
      have n30_ : Aside0 (gb114 ≠ gb104) := ⟨h30_⟩
      have n31_ : Aside0 (gb115 ≠ gb114) := ⟨h31_⟩
      have n32_ : Aside0 (gb114 ≠ gb115) := ⟨h32_⟩
      have n33_ : Aside0 (w.heap.size ≤ gb115) := ⟨h33_⟩
      have n34_ : Aside0 (w.heap.size ≤ gb115) := ⟨h34_⟩
      have n35_ : Aside0 (gb101 ≠ gb115) := ⟨h35_⟩
      have n36_ : Aside0 (gb115 ≠ gb101) := ⟨h36_⟩
      have n37_ : Aside0 (gb102 ≠ gb115) := ⟨h37_⟩
      have n38_ : Aside0 (gb115 ≠ gb102) := ⟨h38_⟩
      have n39_ : Aside0 (gb103 ≠ gb115) := ⟨h39_⟩
      have n40_ : Aside0 (gb115 ≠ gb103) := ⟨h40_⟩
      have n41_ : Aside0 (gb104 ≠ gb115) := ⟨h41_⟩
      have n42_ : Aside0 (gb115 ≠ gb104) := ⟨h42_⟩
      have n43_ : Aside0 (Below w.heap.size w w51) := ⟨h43_⟩
      clear BK101
      clear BK102
      clear BK103
      clear BK104
      clear HB
      clear h0_ h1_ h2_ h3_ h4_ h5_ h6_ h7_ h8_ h9_ h10_ h11_ h12_ h13_ h14_ h15_ h16_ h17_ h18_ h19_ h20_ h21_ h22_ h23_ h24_ h25_ h26_ h27_ h28_ h29_ h30_ h31_ h32_ h33_ h34_ h35_ h36_ h37_ h38_ h39_ h40_ h41_ h42_ h43_
      have BK101 := n0_
      have BK102 := n1_
      have BK103 := n2_
      have BK104 := n3_
      have BK113 := n4_
      have BK114 := n5_
      have BK115 := n6_
      have GW113 := n7_
      have GE113 := n8_
      have NB101_113 := n9_
      have NB113_101 := n10_
      have NB102_113 := n11_
      have NB113_102 := n12_
      have NB103_113 := n13_
      have NB113_103 := n14_
      have NB104_113 := n15_
      have NB113_104 := n16_
      have NB114_113 := n17_
      have NB113_114 := n18_
      have NB115_113 := n19_
      have NB113_115 := n20_
      have GW114 := n21_
      have GE114 := n22_
      have NB101_114 := n23_
      have NB114_101 := n24_
      have NB102_114 := n25_
      have NB114_102 := n26_
      have NB103_114 := n27_
      have NB114_103 := n28_
      have NB104_114 := n29_
      have NB114_104 := n30_
      have NB115_114 := n31_
      have NB114_115 := n32_
      have GW115 := n33_
      have GE115 := n34_
      have NB101_115 := n35_
      have NB115_101 := n36_
      have NB102_115 := n37_
      have NB115_102 := n38_
      have NB103_115 := n39_
      have NB115_103 := n40_
      have NB104_115 := n41_
      have NB115_104 := n42_
      have HB := n43_
      clear n0_ n1_ n2_ n3_ n4_ n5_ n6_ n7_ n8_ n9_ n10_ n11_ n12_ n13_ n14_ n15_ n16_ n17_ n18_ n19_ n20_ n21_ n22_ n23_ n24_ n25_ n26_ n27_ n28_ n29_ n30_ n31_ n32_ n33_ n34_ n35_ n36_ n37_ n38_ n39_ n40_ n41_ n42_ n43_
      have hHeld : w51.cell? ⟨gb101, 0, none⟩ = some (.int .i64 a0_0) ∧ w51.cell? ⟨gb101, 1, none⟩ = some (.slice A0_1 l0_1.length c0_1) ∧ w51.cell? ⟨gb102, 0, none⟩ = some (.int .i64 a1_0) ∧ w51.cell? ⟨gb102, 1, none⟩ = some (.slice A1_1 l1_1.length c1_1) := hS_
      refine norm_ (a' := ?_) ?_ ?_
      rotate_left
      ·simp only [putAll, Act.put, List.setIfInBounds_toArray, List.set_cons_zero, List.set_cons_succ]
       rfl
      refine one_ (i := 1) (N := some 29) #[true, true, true, false, true, true, true, true, true, false, false, false] rfl rfl (one_of HT_.out (by kernel_rfl)) (by decide) (fun K hK => ?_)
      refine goes_ Try.func65 (by kernel_rfl) rfl #[.agg #[.int .i64 a0_0, .slice A0_1 l0_1.length c0_1]] (by rfl) rfl rfl (by (try simp only [List.map_toArray, List.map_cons, List.map_nil]) <;> rfl) ?_
      with_reducible refine (impl_netOf.calls kj8 a0_0 _ _ l0_1 t107 _ ?side1 ?side2 A44.out).mono ?_
      (case side1 => exact (Kd.C_below HR0_1.out HB.out))
      (case side2 => exact HC0_1.out)
      rintro e w52 ⟨v108, rfl, ho0, hb⟩
      refine ⟨_, rfl, ?_⟩
      have HO109 := Aside0.mk (Kd.R_lower (Kd.R_newB ho0 BK115.out) (below_size HB.out))
      replace BK101 := Aside0.mk (blk_below BK101.out hb)
      replace BK102 := Aside0.mk (blk_below BK102.out hb)
      replace BK103 := Aside0.mk (blk_below BK103.out hb)
      replace BK104 := Aside0.mk (blk_below BK104.out hb)
      replace BK113 := Aside0.mk (blk_below BK113.out hb)
      replace BK114 := Aside0.mk (blk_below BK114.out hb)
      replace BK115 := Aside0.mk (blk_below BK115.out hb)
      replace HB := Aside0.mk (below_step HB.out hb)
      (try clear hb)
      (try clear ho0)
      refine hK.out _ _ ⟨(blk_cell BK101.out 0).trans rfl, (blk_cell BK101.out 1).trans rfl, (blk_cell BK102.out 0).trans rfl, (blk_cell BK102.out 1).trans rfl⟩ (fun hHeld => ?_)
      clear hK K
      refine norm_ (a' := ?_) ?_ ?_
      rotate_left
      ·show Act.put _ (some 29) _ = _
       simp only [Act.put, List.setIfInBounds_toArray, List.set_cons_zero, List.set_cons_succ, i64_w, i32_w]
       rfl
      exact norm_ (by simp only [putAll, Act.put, List.setIfInBounds_toArray, List.set_cons_zero, List.set_cons_succ] <;> rfl) (hJ1_6_7_8 (v108, gb113, gb114, gb115) _ ⟨hHeld, (by (with_reducible repeat (first | apply Kd.R_alloc | apply Kd.R_drewN | apply Kd.R_drew)); exact Kd.R_mono HO109.out (fun _ hk => hk.2)), BK101.out, BK102.out, BK103.out, BK104.out, BK113.out, BK114.out, BK115.out, GW113.out, GE113.out, NB101_113.out, NB113_101.out, NB102_113.out, NB113_102.out, NB103_113.out, NB113_103.out, NB104_113.out, NB113_104.out, NB114_113.out, NB113_114.out, NB115_113.out, NB113_115.out, GW114.out, GE114.out, NB101_114.out, NB114_101.out, NB102_114.out, NB114_102.out, NB103_114.out, NB114_103.out, NB104_114.out, NB114_104.out, NB115_114.out, NB114_115.out, GW115.out, GE115.out, NB101_115.out, NB115_101.out, NB102_115.out, NB115_102.out, NB103_115.out, NB115_103.out, NB104_115.out, NB115_104.out, HB.out⟩)
    ·skip
     ·skip
      rintro ⟨v108, v111⟩ w50 ⟨hS_, h0_, h1_, h2_, h3_, h4_, h5_, h6_⟩
      have n0_ : Aside0 (Kd.R (Kd.int .i64) 3 w50 w.heap.size (fun k_ => some k_ ≠ (v111 : Value).ownBlock) v108 t107) := ⟨h0_⟩
      have n1_ : Aside0 (Kd.R (Kd.int .i64) 3 w50 w.heap.size (fun k_ => some k_ ≠ (v108 : Value).ownBlock) v111 t110) := ⟨h1_⟩
      have n2_ : Aside0 (w50.heap[gb101]? = some (.cells #[.int .i64 a0_0, .slice A0_1 l0_1.length c0_1] 29 (0, 0))) := ⟨h2_⟩
      have n3_ : Aside0 (w50.heap[gb102]? = some (.cells #[.int .i64 a1_0, .slice A1_1 l1_1.length c1_1] 29 (0, 0))) := ⟨h3_⟩
      have n4_ : Aside0 (w50.heap[gb103]? = some (.cells #[.func (.func 71) #[] #[]] 65 (0, 0))) := ⟨h4_⟩
      have n5_ : Aside0 (w50.heap[gb104]? = some (.cells #[.int .i64 0, .slice none 0 0] 29 (0, 0))) := ⟨h5_⟩
      have n6_ : Aside0 (Below w.heap.size w w50) := ⟨h6_⟩
      clear BK101
      clear BK102
      clear BK103
      clear BK104
      clear HB
      clear h0_ h1_ h2_ h3_ h4_ h5_ h6_
      have HO109 := n0_
      have HO112 := n1_
      have BK101 := n2_
      have BK102 := n3_
      have BK103 := n4_
      have BK104 := n5_
      have HB := n6_
      clear n0_ n1_ n2_ n3_ n4_ n5_ n6_
      have hHeld : w50.cell? ⟨gb101, 0, none⟩ = some (.int .i64 a0_0) ∧ w50.cell? ⟨gb101, 1, none⟩ = some (.slice A0_1 l0_1.length c0_1) ∧ w50.cell? ⟨gb102, 0, none⟩ = some (.int .i64 a1_0) ∧ w50.cell? ⟨gb102, 1, none⟩ = some (.slice A1_1 l1_1.length c1_1) := hS_
      refine norm_ (a' := ?_) ?_ ?_
      rotate_left
      ·simp only [putAll, Act.put, List.setIfInBounds_toArray, List.set_cons_zero, List.set_cons_succ]
       rfl
      refine three_ (i := 6) (j := 7) (k := 8) (Ni := some 8) (Nj := some 9) (Nk := some 10) #[true, true, true, true, true, true, true, false, false, false, false, false] #[true, true, true, true, true, true, false, true, false, false, false, false] #[true, true, true, true, true, true, false, false, true, false, false, false] rfl rfl rfl rfl rfl rfl (three_of HT_.out (by kernel_rfl)) (by decide) (by decide) (by decide) (fun K hK => ?_) (fun K hK => ?_) (fun K hK => ?_)
      ·skip
       refine box_step ?hg (N := 8) ?hd (cs := #[.slice none 0 0]) (t := 61) ?hr ?_; (case hd => rfl); (case hg => rfl); (case hr => first | (go_simp; done) | (go_simp; rfl))
       intro gb113 hg w51 hbox hb
       have BK113 := Aside0.mk (hbox)
       have GW113 := geN HB.out hg
       have GE113 := geN HB.out hg
       have NB101_113 := neL BK101.out hg
       have NB113_101 := neR BK101.out hg
       have NB102_113 := neL BK102.out hg
       have NB113_102 := neR BK102.out hg
       have NB103_113 := neL BK103.out hg
       have NB113_103 := neR BK103.out hg
       have NB104_113 := neL BK104.out hg
       have NB113_104 := neR BK104.out hg
       replace HO109 := Aside0.mk (Kd.R_below HO109.out hb)
       replace HO112 := Aside0.mk (Kd.R_below HO112.out hb)
       replace BK101 := Aside0.mk (blk_below BK101.out hb)
       replace BK102 := Aside0.mk (blk_below BK102.out hb)
       replace BK103 := Aside0.mk (blk_below BK103.out hb)
       replace BK104 := Aside0.mk (blk_below BK104.out hb)
       replace HB := Aside0.mk (below_step HB.out hb)
       clear hb hbox hg
       refine hK.out _ _ ⟨(blk_cell BK101.out 0).trans rfl, (blk_cell BK101.out 1).trans rfl, (blk_cell BK102.out 0).trans rfl, (blk_cell BK102.out 1).trans rfl⟩ (fun hHeld => ?_)
       clear hK K
       refine norm_ (a' := ?_) ?_ ?_
       rotate_left
       ·show Act.put _ (some 8) _ = _
        simp only [Act.put, List.setIfInBounds_toArray, List.set_cons_zero, List.set_cons_succ, i64_w, i32_w]
        rfl
       exact norm_ (by simp only [putAll, Act.put, List.setIfInBounds_toArray, List.set_cons_zero, List.set_cons_succ] <;> rfl) (hJ1_3_6 (v108, v111, gb113) _ ⟨hHeld, HO109.out, HO112.out, BK101.out, BK102.out, BK103.out, BK104.out, BK113.out, GW113.out, GE113.out, NB101_113.out, NB113_101.out, NB102_113.out, NB113_102.out, NB103_113.out, NB113_103.out, NB104_113.out, NB113_104.out, HB.out⟩)
      ·skip
       refine box_step ?hg (N := 9) ?hd (cs := #[.slice none 0 0]) (t := 61) ?hr ?_; (case hd => rfl); (case hg => rfl); (case hr => first | (go_simp; done) | (go_simp; rfl))
       intro gb114 hg w51 hbox hb
       have BK114 := Aside0.mk (hbox)
       have GW114 := geN HB.out hg
       have GE114 := geN HB.out hg
       have NB101_114 := neL BK101.out hg
       have NB114_101 := neR BK101.out hg
       have NB102_114 := neL BK102.out hg
       have NB114_102 := neR BK102.out hg
       have NB103_114 := neL BK103.out hg
       have NB114_103 := neR BK103.out hg
       have NB104_114 := neL BK104.out hg
       have NB114_104 := neR BK104.out hg
       replace HO109 := Aside0.mk (Kd.R_below HO109.out hb)
       replace HO112 := Aside0.mk (Kd.R_below HO112.out hb)
       replace BK101 := Aside0.mk (blk_below BK101.out hb)
       replace BK102 := Aside0.mk (blk_below BK102.out hb)
       replace BK103 := Aside0.mk (blk_below BK103.out hb)
       replace BK104 := Aside0.mk (blk_below BK104.out hb)
       replace HB := Aside0.mk (below_step HB.out hb)
       clear hb hbox hg
       refine hK.out _ _ ⟨(blk_cell BK101.out 0).trans rfl, (blk_cell BK101.out 1).trans rfl, (blk_cell BK102.out 0).trans rfl, (blk_cell BK102.out 1).trans rfl⟩ (fun hHeld => ?_)
       clear hK K
       refine norm_ (a' := ?_) ?_ ?_
       rotate_left
       ·show Act.put _ (some 9) _ = _
        simp only [Act.put, List.setIfInBounds_toArray, List.set_cons_zero, List.set_cons_succ, i64_w, i32_w]
        rfl
       exact norm_ (by simp only [putAll, Act.put, List.setIfInBounds_toArray, List.set_cons_zero, List.set_cons_succ] <;> rfl) (hJ1_3_7 (v108, v111, gb114) _ ⟨hHeld, HO109.out, HO112.out, BK101.out, BK102.out, BK103.out, BK104.out, BK114.out, GW114.out, GE114.out, NB101_114.out, NB114_101.out, NB102_114.out, NB114_102.out, NB103_114.out, NB114_103.out, NB104_114.out, NB114_104.out, HB.out⟩)
      ·skip
       refine box_step ?hg (N := 10) ?hd (cs := #[.int .i64 0]) (t := 3) ?hr ?_; (case hd => rfl); (case hg => rfl); (case hr => first | (go_simp; done) | (go_simp; rfl))
       intro gb115 hg w51 hbox hb
       have BK115 := Aside0.mk (hbox)
       have GW115 := geN HB.out hg
       have GE115 := geN HB.out hg
       have NB101_115 := neL BK101.out hg
       have NB115_101 := neR BK101.out hg
       have NB102_115 := neL BK102.out hg
       have NB115_102 := neR BK102.out hg
       have NB103_115 := neL BK103.out hg
       have NB115_103 := neR BK103.out hg
       have NB104_115 := neL BK104.out hg
       have NB115_104 := neR BK104.out hg
       replace HO109 := Aside0.mk (Kd.R_below (Kd.R_elderB HO109.out gb115 (Nat.le_of_eq hg.symm)) hb)
       replace HO112 := Aside0.mk (Kd.R_below (Kd.R_elderB HO112.out gb115 (Nat.le_of_eq hg.symm)) hb)
       replace BK101 := Aside0.mk (blk_below BK101.out hb)
       replace BK102 := Aside0.mk (blk_below BK102.out hb)
       replace BK103 := Aside0.mk (blk_below BK103.out hb)
       replace BK104 := Aside0.mk (blk_below BK104.out hb)
       replace HB := Aside0.mk (below_step HB.out hb)
       clear hb hbox hg
       refine hK.out _ _ ⟨(blk_cell BK101.out 0).trans rfl, (blk_cell BK101.out 1).trans rfl, (blk_cell BK102.out 0).trans rfl, (blk_cell BK102.out 1).trans rfl⟩ (fun hHeld => ?_)
       clear hK K
       refine norm_ (a' := ?_) ?_ ?_
       rotate_left
       ·show Act.put _ (some 10) _ = _
        simp only [Act.put, List.setIfInBounds_toArray, List.set_cons_zero, List.set_cons_succ, i64_w, i32_w]
        rfl
       exact norm_ (by simp only [putAll, Act.put, List.setIfInBounds_toArray, List.set_cons_zero, List.set_cons_succ] <;> rfl) (hJ1_3_8 (v108, v111, gb115) _ ⟨hHeld, HO109.out, HO112.out, BK101.out, BK102.out, BK103.out, BK104.out, BK115.out, GW115.out, GE115.out, NB101_115.out, NB115_101.out, NB102_115.out, NB115_102.out, NB103_115.out, NB115_103.out, NB104_115.out, NB115_104.out, HB.out⟩)
    ·skip
     ·skip
      rintro ⟨v108, gb113⟩ w50 ⟨hS_, h0_, h1_, h2_, h3_, h4_, h5_, h6_, h7_, h8_, h9_, h10_, h11_, h12_, h13_, h14_, h15_, h16_⟩
      have n0_ : Aside0 (Kd.R (Kd.int .i64) 3 w50 w.heap.size (fun _ => True) v108 t107) := ⟨h0_⟩
      have n1_ : Aside0 (w50.heap[gb101]? = some (.cells #[.int .i64 a0_0, .slice A0_1 l0_1.length c0_1] 29 (0, 0))) := ⟨h1_⟩
      have n2_ : Aside0 (w50.heap[gb102]? = some (.cells #[.int .i64 a1_0, .slice A1_1 l1_1.length c1_1] 29 (0, 0))) := ⟨h2_⟩
      have n3_ : Aside0 (w50.heap[gb103]? = some (.cells #[.func (.func 71) #[] #[]] 65 (0, 0))) := ⟨h3_⟩
      have n4_ : Aside0 (w50.heap[gb104]? = some (.cells #[.int .i64 0, .slice none 0 0] 29 (0, 0))) := ⟨h4_⟩
      have n5_ : Aside0 (w50.heap[gb113]? = some (.cells #[.slice none 0 0] 61 (0, 0))) := ⟨h5_⟩
      have n6_ : Aside0 (w.heap.size ≤ gb113) := ⟨h6_⟩
      have n7_ : Aside0 (w.heap.size ≤ gb113) := ⟨h7_⟩
      have n8_ : Aside0 (gb101 ≠ gb113) := ⟨h8_⟩
      have n9_ : Aside0 (gb113 ≠ gb101) := ⟨h9_⟩
      have n10_ : Aside0 (gb102 ≠ gb113) := ⟨h10_⟩
      have n11_ : Aside0 (gb113 ≠ gb102) := ⟨h11_⟩
      have n12_ : Aside0 (gb103 ≠ gb113) := ⟨h12_⟩
      have n13_ : Aside0 (gb113 ≠ gb103) := ⟨h13_⟩
      have n14_ : Aside0 (gb104 ≠ gb113) := ⟨h14_⟩
      have n15_ : Aside0 (gb113 ≠ gb104) := ⟨h15_⟩
      have n16_ : Aside0 (Below w.heap.size w w50) := ⟨h16_⟩
      clear BK101
      clear BK102
      clear BK103
      clear BK104
      clear HB
      clear h0_ h1_ h2_ h3_ h4_ h5_ h6_ h7_ h8_ h9_ h10_ h11_ h12_ h13_ h14_ h15_ h16_
      have HO109 := n0_
      have BK101 := n1_
      have BK102 := n2_
      have BK103 := n3_
      have BK104 := n4_
      have BK113 := n5_
      have GW113 := n6_
      have GE113 := n7_
      have NB101_113 := n8_
      have NB113_101 := n9_
      have NB102_113 := n10_
      have NB113_102 := n11_
      have NB103_113 := n12_
      have NB113_103 := n13_
      have NB104_113 := n14_
      have NB113_104 := n15_
      have HB := n16_
      clear n0_ n1_ n2_ n3_ n4_ n5_ n6_ n7_ n8_ n9_ n10_ n11_ n12_ n13_ n14_ n15_ n16_
      have hHeld : w50.cell? ⟨gb101, 0, none⟩ = some (.int .i64 a0_0) ∧ w50.cell? ⟨gb101, 1, none⟩ = some (.slice A0_1 l0_1.length c0_1) ∧ w50.cell? ⟨gb102, 0, none⟩ = some (.int .i64 a1_0) ∧ w50.cell? ⟨gb102, 1, none⟩ = some (.slice A1_1 l1_1.length c1_1) := hS_
      refine norm_ (a' := ?_) ?_ ?_
      rotate_left
      ·simp only [putAll, Act.put, List.setIfInBounds_toArray, List.set_cons_zero, List.set_cons_succ]
       rfl
      refine three_ (i := 3) (j := 7) (k := 8) (Ni := some 31) (Nj := some 9) (Nk := some 10) #[true, true, true, true, true, true, true, false, false, false, false, false] #[true, true, true, false, true, true, true, true, false, false, false, false] #[true, true, true, false, true, true, true, false, true, false, false, false] rfl rfl rfl rfl rfl rfl (three_of HT_.out (by kernel_rfl)) (by decide) (by decide) (by decide) (fun K hK => ?_) (fun K hK => ?_) (fun K hK => ?_)
      ·skip
       refine goes_ Try.func65 (by kernel_rfl) rfl #[.agg #[.int .i64 a1_0, .slice A1_1 l1_1.length c1_1]] (by rfl) rfl rfl (by (try simp only [List.map_toArray, List.map_cons, List.map_nil]) <;> rfl) ?_
       with_reducible refine (impl_netOf.calls kj8 a1_0 _ _ l1_1 t110 _ ?side1 ?side2 A45.out).mono ?_
       (case side1 => exact (Kd.C_below HR1_1.out HB.out))
       (case side2 => exact HC1_1.out)
       rintro e w51 ⟨v111, rfl, ho0, hb⟩
       refine ⟨_, rfl, ?_⟩
       have HO112 := Aside0.mk (Kd.R_lower (Kd.R_new' ho0 (Kd.R_lt HO109.out)) (below_size HB.out))
       replace HO109 := Aside0.mk (Kd.R_elder' HO109.out (Kd.R_base ho0) hb)
       replace BK101 := Aside0.mk (blk_below BK101.out hb)
       replace BK102 := Aside0.mk (blk_below BK102.out hb)
       replace BK103 := Aside0.mk (blk_below BK103.out hb)
       replace BK104 := Aside0.mk (blk_below BK104.out hb)
       replace BK113 := Aside0.mk (blk_below BK113.out hb)
       replace HB := Aside0.mk (below_step HB.out hb)
       (try clear hb)
       (try clear ho0)
       refine hK.out _ _ ⟨(blk_cell BK101.out 0).trans rfl, (blk_cell BK101.out 1).trans rfl, (blk_cell BK102.out 0).trans rfl, (blk_cell BK102.out 1).trans rfl⟩ (fun hHeld => ?_)
       clear hK K
       refine norm_ (a' := ?_) ?_ ?_
       rotate_left
       ·show Act.put _ (some 31) _ = _
        simp only [Act.put, List.setIfInBounds_toArray, List.set_cons_zero, List.set_cons_succ, i64_w, i32_w]
        rfl
       exact norm_ (by simp only [putAll, Act.put, List.setIfInBounds_toArray, List.set_cons_zero, List.set_cons_succ] <;> rfl) (hJ1_3_6 (v108, v111, gb113) _ ⟨hHeld, (by (with_reducible repeat (first | apply Kd.R_alloc | apply Kd.R_drewN | apply Kd.R_drew)); exact Kd.R_mono HO109.out (fun _ hk => hk.2)), (by (with_reducible repeat (first | apply Kd.R_alloc | apply Kd.R_drewN | apply Kd.R_drew)); exact Kd.R_mono HO112.out (fun _ hk => hk.2)), BK101.out, BK102.out, BK103.out, BK104.out, BK113.out, GW113.out, GE113.out, NB101_113.out, NB113_101.out, NB102_113.out, NB113_102.out, NB103_113.out, NB113_103.out, NB104_113.out, NB113_104.out, HB.out⟩)
      ·skip
       refine box_step ?hg (N := 9) ?hd (cs := #[.slice none 0 0]) (t := 61) ?hr ?_; (case hd => rfl); (case hg => rfl); (case hr => first | (go_simp; done) | (go_simp; rfl))
       intro gb114 hg w51 hbox hb
       have BK114 := Aside0.mk (hbox)
       have GW114 := geN HB.out hg
       have GE114 := geN HB.out hg
       have NB101_114 := neL BK101.out hg
       have NB114_101 := neR BK101.out hg
       have NB102_114 := neL BK102.out hg
       have NB114_102 := neR BK102.out hg
       have NB103_114 := neL BK103.out hg
       have NB114_103 := neR BK103.out hg
       have NB104_114 := neL BK104.out hg
       have NB114_104 := neR BK104.out hg
       have NB113_114 := neL BK113.out hg
       have NB114_113 := neR BK113.out hg
       replace HO109 := Aside0.mk (Kd.R_below HO109.out hb)
       replace BK101 := Aside0.mk (blk_below BK101.out hb)
       replace BK102 := Aside0.mk (blk_below BK102.out hb)
       replace BK103 := Aside0.mk (blk_below BK103.out hb)
       replace BK104 := Aside0.mk (blk_below BK104.out hb)
       replace BK113 := Aside0.mk (blk_below BK113.out hb)
       replace HB := Aside0.mk (below_step HB.out hb)
       clear hb hbox hg
       refine hK.out _ _ ⟨(blk_cell BK101.out 0).trans rfl, (blk_cell BK101.out 1).trans rfl, (blk_cell BK102.out 0).trans rfl, (blk_cell BK102.out 1).trans rfl⟩ (fun hHeld => ?_)
       clear hK K
       refine norm_ (a' := ?_) ?_ ?_
       rotate_left
       ·show Act.put _ (some 9) _ = _
        simp only [Act.put, List.setIfInBounds_toArray, List.set_cons_zero, List.set_cons_succ, i64_w, i32_w]
        rfl
       exact norm_ (by simp only [putAll, Act.put, List.setIfInBounds_toArray, List.set_cons_zero, List.set_cons_succ] <;> rfl) (hJ1_6_7 (v108, gb113, gb114) _ ⟨hHeld, HO109.out, BK101.out, BK102.out, BK103.out, BK104.out, BK113.out, BK114.out, GW113.out, GE113.out, NB101_113.out, NB113_101.out, NB102_113.out, NB113_102.out, NB103_113.out, NB113_103.out, NB104_113.out, NB113_104.out, NB114_113.out, NB113_114.out, GW114.out, GE114.out, NB101_114.out, NB114_101.out, NB102_114.out, NB114_102.out, NB103_114.out, NB114_103.out, NB104_114.out, NB114_104.out, HB.out⟩)
      ·skip
       refine box_step ?hg (N := 10) ?hd (cs := #[.int .i64 0]) (t := 3) ?hr ?_; (case hd => rfl); (case hg => rfl); (case hr => first | (go_simp; done) | (go_simp; rfl))
       intro gb115 hg w51 hbox hb
       have BK115 := Aside0.mk (hbox)
       have GW115 := geN HB.out hg
       have GE115 := geN HB.out hg
       have NB101_115 := neL BK101.out hg
       have NB115_101 := neR BK101.out hg
       have NB102_115 := neL BK102.out hg
       have NB115_102 := neR BK102.out hg
       have NB103_115 := neL BK103.out hg
       have NB115_103 := neR BK103.out hg
       have NB104_115 := neL BK104.out hg
       have NB115_104 := neR BK104.out hg
       have NB113_115 := neL BK113.out hg
       have NB115_113 := neR BK113.out hg
       replace HO109 := Aside0.mk (Kd.R_below (Kd.R_elderB HO109.out gb115 (Nat.le_of_eq hg.symm)) hb)
       replace BK101 := Aside0.mk (blk_below BK101.out hb)
       replace BK102 := Aside0.mk (blk_below BK102.out hb)
       replace BK103 := Aside0.mk (blk_below BK103.out hb)
       replace BK104 := Aside0.mk (blk_below BK104.out hb)
       replace BK113 := Aside0.mk (blk_below BK113.out hb)
       replace HB := Aside0.mk (below_step HB.out hb)
       clear hb hbox hg
       refine hK.out _ _ ⟨(blk_cell BK101.out 0).trans rfl, (blk_cell BK101.out 1).trans rfl, (blk_cell BK102.out 0).trans rfl, (blk_cell BK102.out 1).trans rfl⟩ (fun hHeld => ?_)
       clear hK K
       refine norm_ (a' := ?_) ?_ ?_
       rotate_left
       ·show Act.put _ (some 10) _ = _
        simp only [Act.put, List.setIfInBounds_toArray, List.set_cons_zero, List.set_cons_succ, i64_w, i32_w]
        rfl
       exact norm_ (by simp only [putAll, Act.put, List.setIfInBounds_toArray, List.set_cons_zero, List.set_cons_succ] <;> rfl) (hJ1_6_8 (v108, gb113, gb115) _ ⟨hHeld, (by (with_reducible repeat (first | apply Kd.R_alloc | apply Kd.R_drewN | apply Kd.R_drew)); exact Kd.R_mono HO109.out (fun _ hk => hk.2)), BK101.out, BK102.out, BK103.out, BK104.out, BK113.out, BK115.out, GW113.out, GE113.out, NB101_113.out, NB113_101.out, NB102_113.out, NB113_102.out, NB103_113.out, NB113_103.out, NB104_113.out, NB113_104.out, NB115_113.out, NB113_115.out, GW115.out, GE115.out, NB101_115.out, NB115_101.out, NB102_115.out, NB115_102.out, NB103_115.out, NB115_103.out, NB104_115.out, NB115_104.out, HB.out⟩)
    ·skip
     ·skip
      rintro ⟨v108, gb114⟩ w50 ⟨hS_, h0_, h1_, h2_, h3_, h4_, h5_, h6_, h7_, h8_, h9_, h10_, h11_, h12_, h13_, h14_, h15_, h16_⟩
      have n0_ : Aside0 (Kd.R (Kd.int .i64) 3 w50 w.heap.size (fun _ => True) v108 t107) := ⟨h0_⟩
      have n1_ : Aside0 (w50.heap[gb101]? = some (.cells #[.int .i64 a0_0, .slice A0_1 l0_1.length c0_1] 29 (0, 0))) := ⟨h1_⟩
      have n2_ : Aside0 (w50.heap[gb102]? = some (.cells #[.int .i64 a1_0, .slice A1_1 l1_1.length c1_1] 29 (0, 0))) := ⟨h2_⟩
      have n3_ : Aside0 (w50.heap[gb103]? = some (.cells #[.func (.func 71) #[] #[]] 65 (0, 0))) := ⟨h3_⟩
      have n4_ : Aside0 (w50.heap[gb104]? = some (.cells #[.int .i64 0, .slice none 0 0] 29 (0, 0))) := ⟨h4_⟩
      have n5_ : Aside0 (w50.heap[gb114]? = some (.cells #[.slice none 0 0] 61 (0, 0))) := ⟨h5_⟩
      have n6_ : Aside0 (w.heap.size ≤ gb114) := ⟨h6_⟩
      have n7_ : Aside0 (w.heap.size ≤ gb114) := ⟨h7_⟩
      have n8_ : Aside0 (gb101 ≠ gb114) := ⟨h8_⟩
      have n9_ : Aside0 (gb114 ≠ gb101) := ⟨h9_⟩
      have n10_ : Aside0 (gb102 ≠ gb114) := ⟨h10_⟩
      have n11_ : Aside0 (gb114 ≠ gb102) := ⟨h11_⟩
      have n12_ : Aside0 (gb103 ≠ gb114) := ⟨h12_⟩
      have n13_ : Aside0 (gb114 ≠ gb103) := ⟨h13_⟩
      have n14_ : Aside0 (gb104 ≠ gb114) := ⟨h14_⟩
      have n15_ : Aside0 (gb114 ≠ gb104) := ⟨h15_⟩
      have n16_ : Aside0 (Below w.heap.size w w50) := ⟨h16_⟩
      clear BK101
      clear BK102
      clear BK103
      clear BK104
      clear HB
      clear h0_ h1_ h2_ h3_ h4_ h5_ h6_ h7_ h8_ h9_ h10_ h11_ h12_ h13_ h14_ h15_ h16_
      have HO109 := n0_
      have BK101 := n1_
      have BK102 := n2_
      have BK103 := n3_
      have BK104 := n4_
      have BK114 := n5_
      have GW114 := n6_
      have GE114 := n7_
      have NB101_114 := n8_
      have NB114_101 := n9_
      have NB102_114 := n10_
      have NB114_102 := n11_
      have NB103_114 := n12_
      have NB114_103 := n13_
      have NB104_114 := n14_
      have NB114_104 := n15_
      have HB := n16_
      clear n0_ n1_ n2_ n3_ n4_ n5_ n6_ n7_ n8_ n9_ n10_ n11_ n12_ n13_ n14_ n15_ n16_
      have hHeld : w50.cell? ⟨gb101, 0, none⟩ = some (.int .i64 a0_0) ∧ w50.cell? ⟨gb101, 1, none⟩ = some (.slice A0_1 l0_1.length c0_1) ∧ w50.cell? ⟨gb102, 0, none⟩ = some (.int .i64 a1_0) ∧ w50.cell? ⟨gb102, 1, none⟩ = some (.slice A1_1 l1_1.length c1_1) := hS_
      refine norm_ (a' := ?_) ?_ ?_
      rotate_left
      ·simp only [putAll, Act.put, List.setIfInBounds_toArray, List.set_cons_zero, List.set_cons_succ]
       rfl
      refine three_ (i := 3) (j := 6) (k := 8) (Ni := some 31) (Nj := some 8) (Nk := some 10) #[true, true, true, true, true, true, false, true, false, false, false, false] #[true, true, true, false, true, true, true, true, false, false, false, false] #[true, true, true, false, true, true, false, true, true, false, false, false] rfl rfl rfl rfl rfl rfl (three_of HT_.out (by kernel_rfl)) (by decide) (by decide) (by decide) (fun K hK => ?_) (fun K hK => ?_) (fun K hK => ?_)
      ·skip
       refine goes_ Try.func65 (by kernel_rfl) rfl #[.agg #[.int .i64 a1_0, .slice A1_1 l1_1.length c1_1]] (by rfl) rfl rfl (by (try simp only [List.map_toArray, List.map_cons, List.map_nil]) <;> rfl) ?_
       with_reducible refine (impl_netOf.calls kj8 a1_0 _ _ l1_1 t110 _ ?side1 ?side2 A45.out).mono ?_
       (case side1 => exact (Kd.C_below HR1_1.out HB.out))
       (case side2 => exact HC1_1.out)
       rintro e w51 ⟨v111, rfl, ho0, hb⟩
       refine ⟨_, rfl, ?_⟩
       have HO112 := Aside0.mk (Kd.R_lower (Kd.R_new' ho0 (Kd.R_lt HO109.out)) (below_size HB.out))
       replace HO109 := Aside0.mk (Kd.R_elder' HO109.out (Kd.R_base ho0) hb)
       replace BK101 := Aside0.mk (blk_below BK101.out hb)
       replace BK102 := Aside0.mk (blk_below BK102.out hb)
       replace BK103 := Aside0.mk (blk_below BK103.out hb)
       replace BK104 := Aside0.mk (blk_below BK104.out hb)
       replace BK114 := Aside0.mk (blk_below BK114.out hb)
       replace HB := Aside0.mk (below_step HB.out hb)
       (try clear hb)
       (try clear ho0)
       refine hK.out _ _ ⟨(blk_cell BK101.out 0).trans rfl, (blk_cell BK101.out 1).trans rfl, (blk_cell BK102.out 0).trans rfl, (blk_cell BK102.out 1).trans rfl⟩ (fun hHeld => ?_)
       clear hK K
       refine norm_ (a' := ?_) ?_ ?_
       rotate_left
       ·show Act.put _ (some 31) _ = _
        simp only [Act.put, List.setIfInBounds_toArray, List.set_cons_zero, List.set_cons_succ, i64_w, i32_w]
        rfl
       exact norm_ (by simp only [putAll, Act.put, List.setIfInBounds_toArray, List.set_cons_zero, List.set_cons_succ] <;> rfl) (hJ1_3_7 (v108, v111, gb114) _ ⟨hHeld, (by (with_reducible repeat (first | apply Kd.R_alloc | apply Kd.R_drewN | apply Kd.R_drew)); exact Kd.R_mono HO109.out (fun _ hk => hk.2)), (by (with_reducible repeat (first | apply Kd.R_alloc | apply Kd.R_drewN | apply Kd.R_drew)); exact Kd.R_mono HO112.out (fun _ hk => hk.2)), BK101.out, BK102.out, BK103.out, BK104.out, BK114.out, GW114.out, GE114.out, NB101_114.out, NB114_101.out, NB102_114.out, NB114_102.out, NB103_114.out, NB114_103.out, NB104_114.out, NB114_104.out, HB.out⟩)
      ·skip
       refine box_step ?hg (N := 8) ?hd (cs := #[.slice none 0 0]) (t := 61) ?hr ?_; (case hd => rfl); (case hg => rfl); (case hr => first | (go_simp; done) | (go_simp; rfl))
       intro gb113 hg w51 hbox hb
       have BK113 := Aside0.mk (hbox)
       have GW113 := geN HB.out hg
       have GE113 := geN HB.out hg
       have NB101_113 := neL BK101.out hg
       have NB113_101 := neR BK101.out hg
       have NB102_113 := neL BK102.out hg
       have NB113_102 := neR BK102.out hg
       have NB103_113 := neL BK103.out hg
       have NB113_103 := neR BK103.out hg
       have NB104_113 := neL BK104.out hg
       have NB113_104 := neR BK104.out hg
       have NB114_113 := neL BK114.out hg
       have NB113_114 := neR BK114.out hg
       replace HO109 := Aside0.mk (Kd.R_below HO109.out hb)
       replace BK101 := Aside0.mk (blk_below BK101.out hb)
       replace BK102 := Aside0.mk (blk_below BK102.out hb)
       replace BK103 := Aside0.mk (blk_below BK103.out hb)
       replace BK104 := Aside0.mk (blk_below BK104.out hb)
       replace BK114 := Aside0.mk (blk_below BK114.out hb)
       replace HB := Aside0.mk (below_step HB.out hb)
       clear hb hbox hg
       refine hK.out _ _ ⟨(blk_cell BK101.out 0).trans rfl, (blk_cell BK101.out 1).trans rfl, (blk_cell BK102.out 0).trans rfl, (blk_cell BK102.out 1).trans rfl⟩ (fun hHeld => ?_)
       clear hK K
       refine norm_ (a' := ?_) ?_ ?_
       rotate_left
       ·show Act.put _ (some 8) _ = _
        simp only [Act.put, List.setIfInBounds_toArray, List.set_cons_zero, List.set_cons_succ, i64_w, i32_w]
        rfl
       exact norm_ (by simp only [putAll, Act.put, List.setIfInBounds_toArray, List.set_cons_zero, List.set_cons_succ] <;> rfl) (hJ1_6_7 (v108, gb113, gb114) _ ⟨hHeld, HO109.out, BK101.out, BK102.out, BK103.out, BK104.out, BK113.out, BK114.out, GW113.out, GE113.out, NB101_113.out, NB113_101.out, NB102_113.out, NB113_102.out, NB103_113.out, NB113_103.out, NB104_113.out, NB113_104.out, NB114_113.out, NB113_114.out, GW114.out, GE114.out, NB101_114.out, NB114_101.out, NB102_114.out, NB114_102.out, NB103_114.out, NB114_103.out, NB104_114.out, NB114_104.out, HB.out⟩)
      ·skip
       refine box_step ?hg (N := 10) ?hd (cs := #[.int .i64 0]) (t := 3) ?hr ?_; (case hd => rfl); (case hg => rfl); (case hr => first | (go_simp; done) | (go_simp; rfl))
       intro gb115 hg w51 hbox hb
       have BK115 := Aside0.mk (hbox)
       have GW115 := geN HB.out hg
       have GE115 := geN HB.out hg
       have NB101_115 := neL BK101.out hg
       have NB115_101 := neR BK101.out hg
       have NB102_115 := neL BK102.out hg
       have NB115_102 := neR BK102.out hg
       have NB103_115 := neL BK103.out hg
       have NB115_103 := neR BK103.out hg
       have NB104_115 := neL BK104.out hg
       have NB115_104 := neR BK104.out hg
       have NB114_115 := neL BK114.out hg
       have NB115_114 := neR BK114.out hg
       replace HO109 := Aside0.mk (Kd.R_below (Kd.R_elderB HO109.out gb115 (Nat.le_of_eq hg.symm)) hb)
       replace BK101 := Aside0.mk (blk_below BK101.out hb)
       replace BK102 := Aside0.mk (blk_below BK102.out hb)
       replace BK103 := Aside0.mk (blk_below BK103.out hb)
       replace BK104 := Aside0.mk (blk_below BK104.out hb)
       replace BK114 := Aside0.mk (blk_below BK114.out hb)
       replace HB := Aside0.mk (below_step HB.out hb)
       clear hb hbox hg
       refine hK.out _ _ ⟨(blk_cell BK101.out 0).trans rfl, (blk_cell BK101.out 1).trans rfl, (blk_cell BK102.out 0).trans rfl, (blk_cell BK102.out 1).trans rfl⟩ (fun hHeld => ?_)
       clear hK K
       refine norm_ (a' := ?_) ?_ ?_
       rotate_left
       ·show Act.put _ (some 10) _ = _
        simp only [Act.put, List.setIfInBounds_toArray, List.set_cons_zero, List.set_cons_succ, i64_w, i32_w]
        rfl
       exact norm_ (by simp only [putAll, Act.put, List.setIfInBounds_toArray, List.set_cons_zero, List.set_cons_succ] <;> rfl) (hJ1_7_8 (v108, gb114, gb115) _ ⟨hHeld, (by (with_reducible repeat (first | apply Kd.R_alloc | apply Kd.R_drewN | apply Kd.R_drew)); exact Kd.R_mono HO109.out (fun _ hk => hk.2)), BK101.out, BK102.out, BK103.out, BK104.out, BK114.out, BK115.out, GW114.out, GE114.out, NB101_114.out, NB114_101.out, NB102_114.out, NB114_102.out, NB103_114.out, NB114_103.out, NB104_114.out, NB114_104.out, NB115_114.out, NB114_115.out, GW115.out, GE115.out, NB101_115.out, NB115_101.out, NB102_115.out, NB115_102.out, NB103_115.out, NB115_103.out, NB104_115.out, NB115_104.out, HB.out⟩)
    ·skip
     ·skip
      rintro ⟨v108, gb115⟩ w50 ⟨hS_, h0_, h1_, h2_, h3_, h4_, h5_, h6_, h7_, h8_, h9_, h10_, h11_, h12_, h13_, h14_, h15_, h16_⟩
      have n0_ : Aside0 (Kd.R (Kd.int .i64) 3 w50 w.heap.size (fun k_ => k_ ≠ gb115) v108 t107) := ⟨h0_⟩
      have n1_ : Aside0 (w50.heap[gb101]? = some (.cells #[.int .i64 a0_0, .slice A0_1 l0_1.length c0_1] 29 (0, 0))) := ⟨h1_⟩
      have n2_ : Aside0 (w50.heap[gb102]? = some (.cells #[.int .i64 a1_0, .slice A1_1 l1_1.length c1_1] 29 (0, 0))) := ⟨h2_⟩
      have n3_ : Aside0 (w50.heap[gb103]? = some (.cells #[.func (.func 71) #[] #[]] 65 (0, 0))) := ⟨h3_⟩
      have n4_ : Aside0 (w50.heap[gb104]? = some (.cells #[.int .i64 0, .slice none 0 0] 29 (0, 0))) := ⟨h4_⟩
      have n5_ : Aside0 (w50.heap[gb115]? = some (.cells #[.int .i64 0] 3 (0, 0))) := ⟨h5_⟩
      have n6_ : Aside0 (w.heap.size ≤ gb115) := ⟨h6_⟩
      have n7_ : Aside0 (w.heap.size ≤ gb115) := ⟨h7_⟩
      have n8_ : Aside0 (gb101 ≠ gb115) := ⟨h8_⟩
      have n9_ : Aside0 (gb115 ≠ gb101) := ⟨h9_⟩
      have n10_ : Aside0 (gb102 ≠ gb115) := ⟨h10_⟩
      have n11_ : Aside0 (gb115 ≠ gb102) := ⟨h11_⟩
      have n12_ : Aside0 (gb103 ≠ gb115) := ⟨h12_⟩
      have n13_ : Aside0 (gb115 ≠ gb103) := ⟨h13_⟩
      have n14_ : Aside0 (gb104 ≠ gb115) := ⟨h14_⟩
      have n15_ : Aside0 (gb115 ≠ gb104) := ⟨h15_⟩
      have n16_ : Aside0 (Below w.heap.size w w50) := ⟨h16_⟩
      clear BK101
      clear BK102
      clear BK103
      clear BK104
      clear HB
      clear h0_ h1_ h2_ h3_ h4_ h5_ h6_ h7_ h8_ h9_ h10_ h11_ h12_ h13_ h14_ h15_ h16_
      have HO109 := n0_
      have BK101 := n1_
      have BK102 := n2_
      have BK103 := n3_
      have BK104 := n4_
      have BK115 := n5_
      have GW115 := n6_
      have GE115 := n7_
      have NB101_115 := n8_
      have NB115_101 := n9_
      have NB102_115 := n10_
      have NB115_102 := n11_
      have NB103_115 := n12_
      have NB115_103 := n13_
      have NB104_115 := n14_
      have NB115_104 := n15_
      have HB := n16_
      clear n0_ n1_ n2_ n3_ n4_ n5_ n6_ n7_ n8_ n9_ n10_ n11_ n12_ n13_ n14_ n15_ n16_
      have hHeld : w50.cell? ⟨gb101, 0, none⟩ = some (.int .i64 a0_0) ∧ w50.cell? ⟨gb101, 1, none⟩ = some (.slice A0_1 l0_1.length c0_1) ∧ w50.cell? ⟨gb102, 0, none⟩ = some (.int .i64 a1_0) ∧ w50.cell? ⟨gb102, 1, none⟩ = some (.slice A1_1 l1_1.length c1_1) := hS_
      refine norm_ (a' := ?_) ?_ ?_
      rotate_left
      ·simp only [putAll, Act.put, List.setIfInBounds_toArray, List.set_cons_zero, List.set_cons_succ]
       rfl
      refine three_ (i := 3) (j := 6) (k := 7) (Ni := some 31) (Nj := some 8) (Nk := some 9) #[true, true, true, true, true, true, false, false, true, false, false, false] #[true, true, true, false, true, true, true, false, true, false, false, false] #[true, true, true, false, true, true, false, true, true, false, false, false] rfl rfl rfl rfl rfl rfl (three_of HT_.out (by kernel_rfl)) (by decide) (by decide) (by decide) (fun K hK => ?_) (fun K hK => ?_) (fun K hK => ?_)
      ·skip
       refine goes_ Try.func65 (by kernel_rfl) rfl #[.agg #[.int .i64 a1_0, .slice A1_1 l1_1.length c1_1]] (by rfl) rfl rfl (by (try simp only [List.map_toArray, List.map_cons, List.map_nil]) <;> rfl) ?_
       with_reducible refine (impl_netOf.calls kj8 a1_0 _ _ l1_1 t110 _ ?side1 ?side2 A45.out).mono ?_
       (case side1 => exact (Kd.C_below HR1_1.out HB.out))
       (case side2 => exact HC1_1.out)
       rintro e w51 ⟨v111, rfl, ho0, hb⟩
       refine ⟨_, rfl, ?_⟩
       have HO112 := Aside0.mk (Kd.R_lower (Kd.R_newB (Kd.R_new' ho0 (Kd.R_lt HO109.out)) BK115.out) (below_size HB.out))
       replace HO109 := Aside0.mk (Kd.R_elder' HO109.out (Kd.R_base ho0) hb)
       replace BK101 := Aside0.mk (blk_below BK101.out hb)
       replace BK102 := Aside0.mk (blk_below BK102.out hb)
       replace BK103 := Aside0.mk (blk_below BK103.out hb)
       replace BK104 := Aside0.mk (blk_below BK104.out hb)
       replace BK115 := Aside0.mk (blk_below BK115.out hb)
       replace HB := Aside0.mk (below_step HB.out hb)
       (try clear hb)
       (try clear ho0)
       refine hK.out _ _ ⟨(blk_cell BK101.out 0).trans rfl, (blk_cell BK101.out 1).trans rfl, (blk_cell BK102.out 0).trans rfl, (blk_cell BK102.out 1).trans rfl⟩ (fun hHeld => ?_)
       clear hK K
       refine norm_ (a' := ?_) ?_ ?_
       rotate_left
       ·show Act.put _ (some 31) _ = _
        simp only [Act.put, List.setIfInBounds_toArray, List.set_cons_zero, List.set_cons_succ, i64_w, i32_w]
        rfl
       exact norm_ (by simp only [putAll, Act.put, List.setIfInBounds_toArray, List.set_cons_zero, List.set_cons_succ] <;> rfl) (hJ1_3_8 (v108, v111, gb115) _ ⟨hHeld, (by (with_reducible repeat (first | apply Kd.R_alloc | apply Kd.R_drewN | apply Kd.R_drew)); exact Kd.R_mono HO109.out (fun _ hk => ⟨hk.2, hk.1⟩)), (by (with_reducible repeat (first | apply Kd.R_alloc | apply Kd.R_drewN | apply Kd.R_drew)); exact Kd.R_mono HO112.out (fun _ hk => ⟨hk.1.2, hk.2⟩)), BK101.out, BK102.out, BK103.out, BK104.out, BK115.out, GW115.out, GE115.out, NB101_115.out, NB115_101.out, NB102_115.out, NB115_102.out, NB103_115.out, NB115_103.out, NB104_115.out, NB115_104.out, HB.out⟩)
      ·skip
       refine box_step ?hg (N := 8) ?hd (cs := #[.slice none 0 0]) (t := 61) ?hr ?_; (case hd => rfl); (case hg => rfl); (case hr => first | (go_simp; done) | (go_simp; rfl))
       intro gb113 hg w51 hbox hb
       have BK113 := Aside0.mk (hbox)
       have GW113 := geN HB.out hg
       have GE113 := geN HB.out hg
       have NB101_113 := neL BK101.out hg
       have NB113_101 := neR BK101.out hg
       have NB102_113 := neL BK102.out hg
       have NB113_102 := neR BK102.out hg
       have NB103_113 := neL BK103.out hg
       have NB113_103 := neR BK103.out hg
       have NB104_113 := neL BK104.out hg
       have NB113_104 := neR BK104.out hg
       have NB115_113 := neL BK115.out hg
       have NB113_115 := neR BK115.out hg
       replace HO109 := Aside0.mk (Kd.R_below HO109.out hb)
       replace BK101 := Aside0.mk (blk_below BK101.out hb)
       replace BK102 := Aside0.mk (blk_below BK102.out hb)
       replace BK103 := Aside0.mk (blk_below BK103.out hb)
       replace BK104 := Aside0.mk (blk_below BK104.out hb)
       replace BK115 := Aside0.mk (blk_below BK115.out hb)
       replace HB := Aside0.mk (below_step HB.out hb)
       clear hb hbox hg
       refine hK.out _ _ ⟨(blk_cell BK101.out 0).trans rfl, (blk_cell BK101.out 1).trans rfl, (blk_cell BK102.out 0).trans rfl, (blk_cell BK102.out 1).trans rfl⟩ (fun hHeld => ?_)
       clear hK K
       refine norm_ (a' := ?_) ?_ ?_
       rotate_left
       ·show Act.put _ (some 8) _ = _
        simp only [Act.put, List.setIfInBounds_toArray, List.set_cons_zero, List.set_cons_succ, i64_w, i32_w]
        rfl
       exact norm_ (by simp only [putAll, Act.put, List.setIfInBounds_toArray, List.set_cons_zero, List.set_cons_succ] <;> rfl) (hJ1_6_8 (v108, gb113, gb115) _ ⟨hHeld, HO109.out, BK101.out, BK102.out, BK103.out, BK104.out, BK113.out, BK115.out, GW113.out, GE113.out, NB101_113.out, NB113_101.out, NB102_113.out, NB113_102.out, NB103_113.out, NB113_103.out, NB104_113.out, NB113_104.out, NB115_113.out, NB113_115.out, GW115.out, GE115.out, NB101_115.out, NB115_101.out, NB102_115.out, NB115_102.out, NB103_115.out, NB115_103.out, NB104_115.out, NB115_104.out, HB.out⟩)
      ·skip
       refine box_step ?hg (N := 9) ?hd (cs := #[.slice none 0 0]) (t := 61) ?hr ?_; (case hd => rfl); (case hg => rfl); (case hr => first | (go_simp; done) | (go_simp; rfl))
       intro gb114 hg w51 hbox hb
       have BK114 := Aside0.mk (hbox)
       have GW114 := geN HB.out hg
       have GE114 := geN HB.out hg
       have NB101_114 := neL BK101.out hg
       have NB114_101 := neR BK101.out hg
       have NB102_114 := neL BK102.out hg
       have NB114_102 := neR BK102.out hg
       have NB103_114 := neL BK103.out hg
       have NB114_103 := neR BK103.out hg
       have NB104_114 := neL BK104.out hg
       have NB114_104 := neR BK104.out hg
       have NB115_114 := neL BK115.out hg
       have NB114_115 := neR BK115.out hg
       replace HO109 := Aside0.mk (Kd.R_below HO109.out hb)
       replace BK101 := Aside0.mk (blk_below BK101.out hb)
       replace BK102 := Aside0.mk (blk_below BK102.out hb)
       replace BK103 := Aside0.mk (blk_below BK103.out hb)
       replace BK104 := Aside0.mk (blk_below BK104.out hb)
       replace BK115 := Aside0.mk (blk_below BK115.out hb)
       replace HB := Aside0.mk (below_step HB.out hb)
       clear hb hbox hg
       refine hK.out _ _ ⟨(blk_cell BK101.out 0).trans rfl, (blk_cell BK101.out 1).trans rfl, (blk_cell BK102.out 0).trans rfl, (blk_cell BK102.out 1).trans rfl⟩ (fun hHeld => ?_)
       clear hK K
       refine norm_ (a' := ?_) ?_ ?_
       rotate_left
       ·show Act.put _ (some 9) _ = _
        simp only [Act.put, List.setIfInBounds_toArray, List.set_cons_zero, List.set_cons_succ, i64_w, i32_w]
        rfl
       exact norm_ (by simp only [putAll, Act.put, List.setIfInBounds_toArray, List.set_cons_zero, List.set_cons_succ] <;> rfl) (hJ1_7_8 (v108, gb114, gb115) _ ⟨hHeld, HO109.out, BK101.out, BK102.out, BK103.out, BK104.out, BK114.out, BK115.out, GW114.out, GE114.out, NB101_114.out, NB114_101.out, NB102_114.out, NB114_102.out, NB103_114.out, NB114_103.out, NB104_114.out, NB114_104.out, NB115_114.out, NB114_115.out, GW115.out, GE115.out, NB101_115.out, NB115_101.out, NB102_115.out, NB115_102.out, NB103_115.out, NB115_103.out, NB104_115.out, NB115_104.out, HB.out⟩)
    ·skip
     ·skip
      rintro ⟨gb113, gb114⟩ w50 ⟨hS_, h0_, h1_, h2_, h3_, h4_, h5_, h6_, h7_, h8_, h9_, h10_, h11_, h12_, h13_, h14_, h15_, h16_, h17_, h18_, h19_, h20_, h21_, h22_, h23_, h24_, h25_, h26_, h27_, h28_⟩
      have n0_ : Aside0 (w50.heap[gb101]? = some (.cells #[.int .i64 a0_0, .slice A0_1 l0_1.length c0_1] 29 (0, 0))) := ⟨h0_⟩
      have n1_ : Aside0 (w50.heap[gb102]? = some (.cells #[.int .i64 a1_0, .slice A1_1 l1_1.length c1_1] 29 (0, 0))) := ⟨h1_⟩
      have n2_ : Aside0 (w50.heap[gb103]? = some (.cells #[.func (.func 71) #[] #[]] 65 (0, 0))) := ⟨h2_⟩
      have n3_ : Aside0 (w50.heap[gb104]? = some (.cells #[.int .i64 0, .slice none 0 0] 29 (0, 0))) := ⟨h3_⟩
      have n4_ : Aside0 (w50.heap[gb113]? = some (.cells #[.slice none 0 0] 61 (0, 0))) := ⟨h4_⟩
      have n5_ : Aside0 (w50.heap[gb114]? = some (.cells #[.slice none 0 0] 61 (0, 0))) := ⟨h5_⟩
      have n6_ : Aside0 (w.heap.size ≤ gb113) := ⟨h6_⟩
      have n7_ : Aside0 (w.heap.size ≤ gb113) := ⟨h7_⟩
      have n8_ : Aside0 (gb101 ≠ gb113) := ⟨h8_⟩
      have n9_ : Aside0 (gb113 ≠ gb101) := ⟨h9_⟩
      have n10_ : Aside0 (gb102 ≠ gb113) := ⟨h10_⟩
      have n11_ : Aside0 (gb113 ≠ gb102) := ⟨h11_⟩
      have n12_ : Aside0 (gb103 ≠ gb113) := ⟨h12_⟩
      have n13_ : Aside0 (gb113 ≠ gb103) := ⟨h13_⟩
      have n14_ : Aside0 (gb104 ≠ gb113) := ⟨h14_⟩
      have n15_ : Aside0 (gb113 ≠ gb104) := ⟨h15_⟩
      have n16_ : Aside0 (gb114 ≠ gb113) := ⟨h16_⟩
      have n17_ : Aside0 (gb113 ≠ gb114) := ⟨h17_⟩
      have n18_ : Aside0 (w.heap.size ≤ gb114) := ⟨h18_⟩
      have n19_ : Aside0 (w.heap.size ≤ gb114) := ⟨h19_⟩
      have n20_ : Aside0 (gb101 ≠ gb114) := ⟨h20_⟩
      have n21_ : Aside0 (gb114 ≠ gb101) := ⟨h21_⟩
      have n22_ : Aside0 (gb102 ≠ gb114) := ⟨h22_⟩
      have n23_ : Aside0 (gb114 ≠ gb102) := ⟨h23_⟩
      have n24_ : Aside0 (gb103 ≠ gb114) := ⟨h24_⟩
      have n25_ : Aside0 (gb114 ≠ gb103) := ⟨h25_⟩
      have n26_ : Aside0 (gb104 ≠ gb114) := ⟨h26_⟩
      have n27_ : Aside0 (gb114 ≠ gb104) := ⟨h27_⟩
      have n28_ : Aside0 (Below w.heap.size w w50) := ⟨h28_⟩
      clear BK101
      clear BK102
      clear BK103
      clear BK104
      clear HB
      clear h0_ h1_ h2_ h3_ h4_ h5_ h6_ h7_ h8_ h9_ h10_ h11_ h12_ h13_ h14_ h15_ h16_ h17_ h18_ h19_ h20_ h21_ h22_ h23_ h24_ h25_ h26_ h27_ h28_
      have BK101 := n0_
      have BK102 := n1_
      have BK103 := n2_
      have BK104 := n3_
      have BK113 := n4_
      have BK114 := n5_
      have GW113 := n6_
      have GE113 := n7_
      have NB101_113 := n8_
      have NB113_101 := n9_
      have NB102_113 := n10_
      have NB113_102 := n11_
      have NB103_113 := n12_
      have NB113_103 := n13_
      have NB104_113 := n14_
      have NB113_104 := n15_
      have NB114_113 := n16_
      have NB113_114 := n17_
      have GW114 := n18_
      have GE114 := n19_
      have NB101_114 := n20_
      have NB114_101 := n21_
      have NB102_114 := n22_
      have NB114_102 := n23_
      have NB103_114 := n24_
      have NB114_103 := n25_
      have NB104_114 := n26_
      have NB114_104 := n27_
      have HB := n28_
      clear n0_ n1_ n2_ n3_ n4_ n5_ n6_ n7_ n8_ n9_ n10_ n11_ n12_ n13_ n14_ n15_ n16_ n17_ n18_ n19_ n20_ n21_ n22_ n23_ n24_ n25_ n26_ n27_ n28_
      have hHeld : w50.cell? ⟨gb101, 0, none⟩ = some (.int .i64 a0_0) ∧ w50.cell? ⟨gb101, 1, none⟩ = some (.slice A0_1 l0_1.length c0_1) ∧ w50.cell? ⟨gb102, 0, none⟩ = some (.int .i64 a1_0) ∧ w50.cell? ⟨gb102, 1, none⟩ = some (.slice A1_1 l1_1.length c1_1) := hS_
      refine norm_ (a' := ?_) ?_ ?_
      rotate_left
      ·simp only [putAll, Act.put, List.setIfInBounds_toArray, List.set_cons_zero, List.set_cons_succ]
       rfl
      refine two_ (i := 1) (j := 8) (Ni := some 29) (Nj := some 10) #[true, true, true, false, true, true, true, true, false, false, false, false] #[true, false, true, false, true, true, true, true, true, false, false, false] rfl rfl rfl rfl (two_of HT_.out (by kernel_rfl)) (by decide) (by decide) (fun K hK => ?_) (fun K hK => ?_)
      ·skip
       refine goes_ Try.func65 (by kernel_rfl) rfl #[.agg #[.int .i64 a0_0, .slice A0_1 l0_1.length c0_1]] (by rfl) rfl rfl (by (try simp only [List.map_toArray, List.map_cons, List.map_nil]) <;> rfl) ?_
       with_reducible refine (impl_netOf.calls kj8 a0_0 _ _ l0_1 t107 _ ?side1 ?side2 A44.out).mono ?_
       (case side1 => exact (Kd.C_below HR0_1.out HB.out))
       (case side2 => exact HC0_1.out)
       rintro e w51 ⟨v108, rfl, ho0, hb⟩
       refine ⟨_, rfl, ?_⟩
       have HO109 := Aside0.mk (Kd.R_lower ho0 (below_size HB.out))
       replace BK101 := Aside0.mk (blk_below BK101.out hb)
       replace BK102 := Aside0.mk (blk_below BK102.out hb)
       replace BK103 := Aside0.mk (blk_below BK103.out hb)
       replace BK104 := Aside0.mk (blk_below BK104.out hb)
       replace BK113 := Aside0.mk (blk_below BK113.out hb)
       replace BK114 := Aside0.mk (blk_below BK114.out hb)
       replace HB := Aside0.mk (below_step HB.out hb)
       (try clear hb)
       (try clear ho0)
       refine hK.out _ _ ⟨(blk_cell BK101.out 0).trans rfl, (blk_cell BK101.out 1).trans rfl, (blk_cell BK102.out 0).trans rfl, (blk_cell BK102.out 1).trans rfl⟩ (fun hHeld => ?_)
       clear hK K
       refine norm_ (a' := ?_) ?_ ?_
       rotate_left
       ·show Act.put _ (some 29) _ = _
        simp only [Act.put, List.setIfInBounds_toArray, List.set_cons_zero, List.set_cons_succ, i64_w, i32_w]
        rfl
       exact norm_ (by simp only [putAll, Act.put, List.setIfInBounds_toArray, List.set_cons_zero, List.set_cons_succ] <;> rfl) (hJ1_6_7 (v108, gb113, gb114) _ ⟨hHeld, HO109.out, BK101.out, BK102.out, BK103.out, BK104.out, BK113.out, BK114.out, GW113.out, GE113.out, NB101_113.out, NB113_101.out, NB102_113.out, NB113_102.out, NB103_113.out, NB113_103.out, NB104_113.out, NB113_104.out, NB114_113.out, NB113_114.out, GW114.out, GE114.out, NB101_114.out, NB114_101.out, NB102_114.out, NB114_102.out, NB103_114.out, NB114_103.out, NB104_114.out, NB114_104.out, HB.out⟩)
      ·skip
       refine box_step ?hg (N := 10) ?hd (cs := #[.int .i64 0]) (t := 3) ?hr ?_; (case hd => rfl); (case hg => rfl); (case hr => first | (go_simp; done) | (go_simp; rfl))
       intro gb115 hg w51 hbox hb
       have BK115 := Aside0.mk (hbox)
       have GW115 := geN HB.out hg
       have GE115 := geN HB.out hg
       have NB101_115 := neL BK101.out hg
       have NB115_101 := neR BK101.out hg
       have NB102_115 := neL BK102.out hg
       have NB115_102 := neR BK102.out hg
       have NB103_115 := neL BK103.out hg
       have NB115_103 := neR BK103.out hg
       have NB104_115 := neL BK104.out hg
       have NB115_104 := neR BK104.out hg
       have NB113_115 := neL BK113.out hg
       have NB115_113 := neR BK113.out hg
       have NB114_115 := neL BK114.out hg
       have NB115_114 := neR BK114.out hg
       replace BK101 := Aside0.mk (blk_below BK101.out hb)
       replace BK102 := Aside0.mk (blk_below BK102.out hb)
       replace BK103 := Aside0.mk (blk_below BK103.out hb)
       replace BK104 := Aside0.mk (blk_below BK104.out hb)
       replace BK113 := Aside0.mk (blk_below BK113.out hb)
       replace BK114 := Aside0.mk (blk_below BK114.out hb)
       replace HB := Aside0.mk (below_step HB.out hb)
       clear hb hbox hg
       refine hK.out _ _ ⟨(blk_cell BK101.out 0).trans rfl, (blk_cell BK101.out 1).trans rfl, (blk_cell BK102.out 0).trans rfl, (blk_cell BK102.out 1).trans rfl⟩ (fun hHeld => ?_)
       clear hK K
       refine norm_ (a' := ?_) ?_ ?_
       rotate_left
       ·show Act.put _ (some 10) _ = _
        simp only [Act.put, List.setIfInBounds_toArray, List.set_cons_zero, List.set_cons_succ, i64_w, i32_w]
        rfl
       exact norm_ (by simp only [putAll, Act.put, List.setIfInBounds_toArray, List.set_cons_zero, List.set_cons_succ] <;> rfl) (hJ6_7_8 (gb113, gb114, gb115) _ ⟨hHeld, BK101.out, BK102.out, BK103.out, BK104.out, BK113.out, BK114.out, BK115.out, GW113.out, GE113.out, NB101_113.out, NB113_101.out, NB102_113.out, NB113_102.out, NB103_113.out, NB113_103.out, NB104_113.out, NB113_104.out, NB114_113.out, NB113_114.out, NB115_113.out, NB113_115.out, GW114.out, GE114.out, NB101_114.out, NB114_101.out, NB102_114.out, NB114_102.out, NB103_114.out, NB114_103.out, NB104_114.out, NB114_104.out, NB115_114.out, NB114_115.out, GW115.out, GE115.out, NB101_115.out, NB115_101.out, NB102_115.out, NB115_102.out, NB103_115.out, NB115_103.out, NB104_115.out, NB115_104.out, HB.out⟩)
    ·skip
     ·skip
      rintro ⟨gb113, gb115⟩ w50 ⟨hS_, h0_, h1_, h2_, h3_, h4_, h5_, h6_, h7_, h8_, h9_, h10_, h11_, h12_, h13_, h14_, h15_, h16_, h17_, h18_, h19_, h20_, h21_, h22_, h23_, h24_, h25_, h26_, h27_, h28_⟩
      have n0_ : Aside0 (w50.heap[gb101]? = some (.cells #[.int .i64 a0_0, .slice A0_1 l0_1.length c0_1] 29 (0, 0))) := ⟨h0_⟩
      have n1_ : Aside0 (w50.heap[gb102]? = some (.cells #[.int .i64 a1_0, .slice A1_1 l1_1.length c1_1] 29 (0, 0))) := ⟨h1_⟩
      have n2_ : Aside0 (w50.heap[gb103]? = some (.cells #[.func (.func 71) #[] #[]] 65 (0, 0))) := ⟨h2_⟩
      have n3_ : Aside0 (w50.heap[gb104]? = some (.cells #[.int .i64 0, .slice none 0 0] 29 (0, 0))) := ⟨h3_⟩
      have n4_ : Aside0 (w50.heap[gb113]? = some (.cells #[.slice none 0 0] 61 (0, 0))) := ⟨h4_⟩
      have n5_ : Aside0 (w50.heap[gb115]? = some (.cells #[.int .i64 0] 3 (0, 0))) := ⟨h5_⟩
      have n6_ : Aside0 (w.heap.size ≤ gb113) := ⟨h6_⟩
      have n7_ : Aside0 (w.heap.size ≤ gb113) := ⟨h7_⟩
      have n8_ : Aside0 (gb101 ≠ gb113) := ⟨h8_⟩
      have n9_ : Aside0 (gb113 ≠ gb101) := ⟨h9_⟩
      have n10_ : Aside0 (gb102 ≠ gb113) := ⟨h10_⟩
      have n11_ : Aside0 (gb113 ≠ gb102) := ⟨h11_⟩
      have n12_ : Aside0 (gb103 ≠ gb113) := ⟨h12_⟩
      have n13_ : Aside0 (gb113 ≠ gb103) := ⟨h13_⟩
      have n14_ : Aside0 (gb104 ≠ gb113) := ⟨h14_⟩
      have n15_ : Aside0 (gb113 ≠ gb104) := ⟨h15_⟩
      have n16_ : Aside0 (gb115 ≠ gb113) := ⟨h16_⟩
      have n17_ : Aside0 (gb113 ≠ gb115) := ⟨h17_⟩
      have n18_ : Aside0 (w.heap.size ≤ gb115) := ⟨h18_⟩
      have n19_ : Aside0 (w.heap.size ≤ gb115) := ⟨h19_⟩
      have n20_ : Aside0 (gb101 ≠ gb115) := ⟨h20_⟩
      have n21_ : Aside0 (gb115 ≠ gb101) := ⟨h21_⟩
      have n22_ : Aside0 (gb102 ≠ gb115) := ⟨h22_⟩
      have n23_ : Aside0 (gb115 ≠ gb102) := ⟨h23_⟩
      have n24_ : Aside0 (gb103 ≠ gb115) := ⟨h24_⟩
      have n25_ : Aside0 (gb115 ≠ gb103) := ⟨h25_⟩
      have n26_ : Aside0 (gb104 ≠ gb115) := ⟨h26_⟩
      have n27_ : Aside0 (gb115 ≠ gb104) := ⟨h27_⟩
      have n28_ : Aside0 (Below w.heap.size w w50) := ⟨h28_⟩
      clear BK101
      clear BK102
      clear BK103
      clear BK104
      clear HB
      clear h0_ h1_ h2_ h3_ h4_ h5_ h6_ h7_ h8_ h9_ h10_ h11_ h12_ h13_ h14_ h15_ h16_ h17_ h18_ h19_ h20_ h21_ h22_ h23_ h24_ h25_ h26_ h27_ h28_
      have BK101 := n0_
      have BK102 := n1_
      have BK103 := n2_
      have BK104 := n3_
      have BK113 := n4_
      have BK115 := n5_
      have GW113 := n6_
      have GE113 := n7_
      have NB101_113 := n8_
      have NB113_101 := n9_
      have NB102_113 := n10_
      have NB113_102 := n11_
      have NB103_113 := n12_
      have NB113_103 := n13_
      have NB104_113 := n14_
      have NB113_104 := n15_
      have NB115_113 := n16_
      have NB113_115 := n17_
      have GW115 := n18_
      have GE115 := n19_
      have NB101_115 := n20_
      have NB115_101 := n21_
      have NB102_115 := n22_
      have NB115_102 := n23_
      have NB103_115 := n24_
      have NB115_103 := n25_
      have NB104_115 := n26_
      have NB115_104 := n27_
      have HB := n28_
      clear n0_ n1_ n2_ n3_ n4_ n5_ n6_ n7_ n8_ n9_ n10_ n11_ n12_ n13_ n14_ n15_ n16_ n17_ n18_ n19_ n20_ n21_ n22_ n23_ n24_ n25_ n26_ n27_ n28_
      have hHeld : w50.cell? ⟨gb101, 0, none⟩ = some (.int .i64 a0_0) ∧ w50.cell? ⟨gb101, 1, none⟩ = some (.slice A0_1 l0_1.length c0_1) ∧ w50.cell? ⟨gb102, 0, none⟩ = some (.int .i64 a1_0) ∧ w50.cell? ⟨gb102, 1, none⟩ = some (.slice A1_1 l1_1.length c1_1) := hS_
      refine norm_ (a' := ?_) ?_ ?_
      rotate_left
      ·simp only [putAll, Act.put, List.setIfInBounds_toArray, List.set_cons_zero, List.set_cons_succ]
       rfl
      refine two_ (i := 1) (j := 7) (Ni := some 29) (Nj := some 9) #[true, true, true, false, true, true, true, false, true, false, false, false] #[true, false, true, false, true, true, true, true, true, false, false, false] rfl rfl rfl rfl (two_of HT_.out (by kernel_rfl)) (by decide) (by decide) (fun K hK => ?_) (fun K hK => ?_)
      ·skip
       refine goes_ Try.func65 (by kernel_rfl) rfl #[.agg #[.int .i64 a0_0, .slice A0_1 l0_1.length c0_1]] (by rfl) rfl rfl (by (try simp only [List.map_toArray, List.map_cons, List.map_nil]) <;> rfl) ?_
       with_reducible refine (impl_netOf.calls kj8 a0_0 _ _ l0_1 t107 _ ?side1 ?side2 A44.out).mono ?_
       (case side1 => exact (Kd.C_below HR0_1.out HB.out))
       (case side2 => exact HC0_1.out)
       rintro e w51 ⟨v108, rfl, ho0, hb⟩
       refine ⟨_, rfl, ?_⟩
       have HO109 := Aside0.mk (Kd.R_lower (Kd.R_newB ho0 BK115.out) (below_size HB.out))
       replace BK101 := Aside0.mk (blk_below BK101.out hb)
       replace BK102 := Aside0.mk (blk_below BK102.out hb)
       replace BK103 := Aside0.mk (blk_below BK103.out hb)
       replace BK104 := Aside0.mk (blk_below BK104.out hb)
       replace BK113 := Aside0.mk (blk_below BK113.out hb)
       replace BK115 := Aside0.mk (blk_below BK115.out hb)
       replace HB := Aside0.mk (below_step HB.out hb)
       (try clear hb)
       (try clear ho0)
       refine hK.out _ _ ⟨(blk_cell BK101.out 0).trans rfl, (blk_cell BK101.out 1).trans rfl, (blk_cell BK102.out 0).trans rfl, (blk_cell BK102.out 1).trans rfl⟩ (fun hHeld => ?_)
       clear hK K
       refine norm_ (a' := ?_) ?_ ?_
       rotate_left
       ·show Act.put _ (some 29) _ = _
        simp only [Act.put, List.setIfInBounds_toArray, List.set_cons_zero, List.set_cons_succ, i64_w, i32_w]
        rfl
       exact norm_ (by simp only [putAll, Act.put, List.setIfInBounds_toArray, List.set_cons_zero, List.set_cons_succ] <;> rfl) (hJ1_6_8 (v108, gb113, gb115) _ ⟨hHeld, (by (with_reducible repeat (first | apply Kd.R_alloc | apply Kd.R_drewN | apply Kd.R_drew)); exact Kd.R_mono HO109.out (fun _ hk => hk.2)), BK101.out, BK102.out, BK103.out, BK104.out, BK113.out, BK115.out, GW113.out, GE113.out, NB101_113.out, NB113_101.out, NB102_113.out, NB113_102.out, NB103_113.out, NB113_103.out, NB104_113.out, NB113_104.out, NB115_113.out, NB113_115.out, GW115.out, GE115.out, NB101_115.out, NB115_101.out, NB102_115.out, NB115_102.out, NB103_115.out, NB115_103.out, NB104_115.out, NB115_104.out, HB.out⟩)
      ·skip
       refine box_step ?hg (N := 9) ?hd (cs := #[.slice none 0 0]) (t := 61) ?hr ?_; (case hd => rfl); (case hg => rfl); (case hr => first | (go_simp; done) | (go_simp; rfl))
       intro gb114 hg w51 hbox hb
       have BK114 := Aside0.mk (hbox)
       have GW114 := geN HB.out hg
       have GE114 := geN HB.out hg
       have NB101_114 := neL BK101.out hg
       have NB114_101 := neR BK101.out hg
       have NB102_114 := neL BK102.out hg
       have NB114_102 := neR BK102.out hg
       have NB103_114 := neL BK103.out hg
       have NB114_103 := neR BK103.out hg
       have NB104_114 := neL BK104.out hg
       have NB114_104 := neR BK104.out hg
       have NB113_114 := neL BK113.out hg
       have NB114_113 := neR BK113.out hg
       have NB115_114 := neL BK115.out hg
       have NB114_115 := neR BK115.out hg
       replace BK101 := Aside0.mk (blk_below BK101.out hb)
       replace BK102 := Aside0.mk (blk_below BK102.out hb)
       replace BK103 := Aside0.mk (blk_below BK103.out hb)
       replace BK104 := Aside0.mk (blk_below BK104.out hb)
       replace BK113 := Aside0.mk (blk_below BK113.out hb)
       replace BK115 := Aside0.mk (blk_below BK115.out hb)
       replace HB := Aside0.mk (below_step HB.out hb)
       clear hb hbox hg
       refine hK.out _ _ ⟨(blk_cell BK101.out 0).trans rfl, (blk_cell BK101.out 1).trans rfl, (blk_cell BK102.out 0).trans rfl, (blk_cell BK102.out 1).trans rfl⟩ (fun hHeld => ?_)
       clear hK K
       refine norm_ (a' := ?_) ?_ ?_
       rotate_left
       ·show Act.put _ (some 9) _ = _
        simp only [Act.put, List.setIfInBounds_toArray, List.set_cons_zero, List.set_cons_succ, i64_w, i32_w]
        rfl
       exact norm_ (by simp only [putAll, Act.put, List.setIfInBounds_toArray, List.set_cons_zero, List.set_cons_succ] <;> rfl) (hJ6_7_8 (gb113, gb114, gb115) _ ⟨hHeld, BK101.out, BK102.out, BK103.out, BK104.out, BK113.out, BK114.out, BK115.out, GW113.out, GE113.out, NB101_113.out, NB113_101.out, NB102_113.out, NB113_102.out, NB103_113.out, NB113_103.out, NB104_113.out, NB113_104.out, NB114_113.out, NB113_114.out, NB115_113.out, NB113_115.out, GW114.out, GE114.out, NB101_114.out, NB114_101.out, NB102_114.out, NB114_102.out, NB103_114.out, NB114_103.out, NB104_114.out, NB114_104.out, NB115_114.out, NB114_115.out, GW115.out, GE115.out, NB101_115.out, NB115_101.out, NB102_115.out, NB115_102.out, NB103_115.out, NB115_103.out, NB104_115.out, NB115_104.out, HB.out⟩)
    ·skip
     ·skip
      rintro ⟨gb114, gb115⟩ w50 ⟨hS_, h0_, h1_, h2_, h3_, h4_, h5_, h6_, h7_, h8_, h9_, h10_, h11_, h12_, h13_, h14_, h15_, h16_, h17_, h18_, h19_, h20_, h21_, h22_, h23_, h24_, h25_, h26_, h27_, h28_⟩
      have n0_ : Aside0 (w50.heap[gb101]? = some (.cells #[.int .i64 a0_0, .slice A0_1 l0_1.length c0_1] 29 (0, 0))) := ⟨h0_⟩
      have n1_ : Aside0 (w50.heap[gb102]? = some (.cells #[.int .i64 a1_0, .slice A1_1 l1_1.length c1_1] 29 (0, 0))) := ⟨h1_⟩
      have n2_ : Aside0 (w50.heap[gb103]? = some (.cells #[.func (.func 71) #[] #[]] 65 (0, 0))) := ⟨h2_⟩
      have n3_ : Aside0 (w50.heap[gb104]? = some (.cells #[.int .i64 0, .slice none 0 0] 29 (0, 0))) := ⟨h3_⟩
      have n4_ : Aside0 (w50.heap[gb114]? = some (.cells #[.slice none 0 0] 61 (0, 0))) := ⟨h4_⟩
      have n5_ : Aside0 (w50.heap[gb115]? = some (.cells #[.int .i64 0] 3 (0, 0))) := ⟨h5_⟩
      have n6_ : Aside0 (w.heap.size ≤ gb114) := ⟨h6_⟩
      have n7_ : Aside0 (w.heap.size ≤ gb114) := ⟨h7_⟩
      have n8_ : Aside0 (gb101 ≠ gb114) := ⟨h8_⟩
      have n9_ : Aside0 (gb114 ≠ gb101) := ⟨h9_⟩
      have n10_ : Aside0 (gb102 ≠ gb114) := ⟨h10_⟩
      have n11_ : Aside0 (gb114 ≠ gb102) := ⟨h11_⟩
      have n12_ : Aside0 (gb103 ≠ gb114) := ⟨h12_⟩
      have n13_ : Aside0 (gb114 ≠ gb103) := ⟨h13_⟩
      have n14_ : Aside0 (gb104 ≠ gb114) := ⟨h14_⟩
      have n15_ : Aside0 (gb114 ≠ gb104) := ⟨h15_⟩
      have n16_ : Aside0 (gb115 ≠ gb114) := ⟨h16_⟩
      have n17_ : Aside0 (gb114 ≠ gb115) := ⟨h17_⟩
      have n18_ : Aside0 (w.heap.size ≤ gb115) := ⟨h18_⟩
      have n19_ : Aside0 (w.heap.size ≤ gb115) := ⟨h19_⟩
      have n20_ : Aside0 (gb101 ≠ gb115) := ⟨h20_⟩
      have n21_ : Aside0 (gb115 ≠ gb101) := ⟨h21_⟩
      have n22_ : Aside0 (gb102 ≠ gb115) := ⟨h22_⟩
      have n23_ : Aside0 (gb115 ≠ gb102) := ⟨h23_⟩
      have n24_ : Aside0 (gb103 ≠ gb115) := ⟨h24_⟩
      have n25_ : Aside0 (gb115 ≠ gb103) := ⟨h25_⟩
      have n26_ : Aside0 (gb104 ≠ gb115) := ⟨h26_⟩
      have n27_ : Aside0 (gb115 ≠ gb104) := ⟨h27_⟩
      have n28_ : Aside0 (Below w.heap.size w w50) := ⟨h28_⟩
      clear BK101
      clear BK102
      clear BK103
      clear BK104
      clear HB
      clear h0_ h1_ h2_ h3_ h4_ h5_ h6_ h7_ h8_ h9_ h10_ h11_ h12_ h13_ h14_ h15_ h16_ h17_ h18_ h19_ h20_ h21_ h22_ h23_ h24_ h25_ h26_ h27_ h28_
      have BK101 := n0_
      have BK102 := n1_
      have BK103 := n2_
      have BK104 := n3_
      have BK114 := n4_
      have BK115 := n5_
      have GW114 := n6_
      have GE114 := n7_
      have NB101_114 := n8_
      have NB114_101 := n9_
      have NB102_114 := n10_
      have NB114_102 := n11_
      have NB103_114 := n12_
      have NB114_103 := n13_
      have NB104_114 := n14_
      have NB114_104 := n15_
      have NB115_114 := n16_
      have NB114_115 := n17_
      have GW115 := n18_
      have GE115 := n19_
      have NB101_115 := n20_
      have NB115_101 := n21_
      have NB102_115 := n22_
      have NB115_102 := n23_
      have NB103_115 := n24_
      have NB115_103 := n25_
      have NB104_115 := n26_
      have NB115_104 := n27_
      have HB := n28_
      clear n0_ n1_ n2_ n3_ n4_ n5_ n6_ n7_ n8_ n9_ n10_ n11_ n12_ n13_ n14_ n15_ n16_ n17_ n18_ n19_ n20_ n21_ n22_ n23_ n24_ n25_ n26_ n27_ n28_
      have hHeld : w50.cell? ⟨gb101, 0, none⟩ = some (.int .i64 a0_0) ∧ w50.cell? ⟨gb101, 1, none⟩ = some (.slice A0_1 l0_1.length c0_1) ∧ w50.cell? ⟨gb102, 0, none⟩ = some (.int .i64 a1_0) ∧ w50.cell? ⟨gb102, 1, none⟩ = some (.slice A1_1 l1_1.length c1_1) := hS_
      refine norm_ (a' := ?_) ?_ ?_
      rotate_left
      ·simp only [putAll, Act.put, List.setIfInBounds_toArray, List.set_cons_zero, List.set_cons_succ]
       rfl
      refine two_ (i := 1) (j := 6) (Ni := some 29) (Nj := some 8) #[true, true, true, false, true, true, false, true, true, false, false, false] #[true, false, true, false, true, true, true, true, true, false, false, false] rfl rfl rfl rfl (two_of HT_.out (by kernel_rfl)) (by decide) (by decide) (fun K hK => ?_) (fun K hK => ?_)
      ·skip
       refine goes_ Try.func65 (by kernel_rfl) rfl #[.agg #[.int .i64 a0_0, .slice A0_1 l0_1.length c0_1]] (by rfl) rfl rfl (by (try simp only [List.map_toArray, List.map_cons, List.map_nil]) <;> rfl) ?_
       with_reducible refine (impl_netOf.calls kj8 a0_0 _ _ l0_1 t107 _ ?side1 ?side2 A44.out).mono ?_
       (case side1 => exact (Kd.C_below HR0_1.out HB.out))
       (case side2 => exact HC0_1.out)
       rintro e w51 ⟨v108, rfl, ho0, hb⟩
       refine ⟨_, rfl, ?_⟩
       have HO109 := Aside0.mk (Kd.R_lower (Kd.R_newB ho0 BK115.out) (below_size HB.out))
       replace BK101 := Aside0.mk (blk_below BK101.out hb)
       replace BK102 := Aside0.mk (blk_below BK102.out hb)
       replace BK103 := Aside0.mk (blk_below BK103.out hb)
       replace BK104 := Aside0.mk (blk_below BK104.out hb)
       replace BK114 := Aside0.mk (blk_below BK114.out hb)
       replace BK115 := Aside0.mk (blk_below BK115.out hb)
       replace HB := Aside0.mk (below_step HB.out hb)
       (try clear hb)
       (try clear ho0)
       refine hK.out _ _ ⟨(blk_cell BK101.out 0).trans rfl, (blk_cell BK101.out 1).trans rfl, (blk_cell BK102.out 0).trans rfl, (blk_cell BK102.out 1).trans rfl⟩ (fun hHeld => ?_)
       clear hK K
       refine norm_ (a' := ?_) ?_ ?_
       rotate_left
       ·show Act.put _ (some 29) _ = _
        simp only [Act.put, List.setIfInBounds_toArray, List.set_cons_zero, List.set_cons_succ, i64_w, i32_w]
        rfl
       exact norm_ (by simp only [putAll, Act.put, List.setIfInBounds_toArray, List.set_cons_zero, List.set_cons_succ] <;> rfl) (hJ1_7_8 (v108, gb114, gb115) _ ⟨hHeld, (by (with_reducible repeat (first | apply Kd.R_alloc | apply Kd.R_drewN | apply Kd.R_drew)); exact Kd.R_mono HO109.out (fun _ hk => hk.2)), BK101.out, BK102.out, BK103.out, BK104.out, BK114.out, BK115.out, GW114.out, GE114.out, NB101_114.out, NB114_101.out, NB102_114.out, NB114_102.out, NB103_114.out, NB114_103.out, NB104_114.out, NB114_104.out, NB115_114.out, NB114_115.out, GW115.out, GE115.out, NB101_115.out, NB115_101.out, NB102_115.out, NB115_102.out, NB103_115.out, NB115_103.out, NB104_115.out, NB115_104.out, HB.out⟩)
      ·skip
       refine box_step ?hg (N := 8) ?hd (cs := #[.slice none 0 0]) (t := 61) ?hr ?_; (case hd => rfl); (case hg => rfl); (case hr => first | (go_simp; done) | (go_simp; rfl))
       intro gb113 hg w51 hbox hb
       have BK113 := Aside0.mk (hbox)
       have GW113 := geN HB.out hg
       have GE113 := geN HB.out hg
       have NB101_113 := neL BK101.out hg
       have NB113_101 := neR BK101.out hg
       have NB102_113 := neL BK102.out hg
       have NB113_102 := neR BK102.out hg
       have NB103_113 := neL BK103.out hg
       have NB113_103 := neR BK103.out hg
       have NB104_113 := neL BK104.out hg
       have NB113_104 := neR BK104.out hg
       have NB114_113 := neL BK114.out hg
       have NB113_114 := neR BK114.out hg
       have NB115_113 := neL BK115.out hg
       have NB113_115 := neR BK115.out hg
       replace BK101 := Aside0.mk (blk_below BK101.out hb)
       replace BK102 := Aside0.mk (blk_below BK102.out hb)
       replace BK103 := Aside0.mk (blk_below BK103.out hb)
       replace BK104 := Aside0.mk (blk_below BK104.out hb)
       replace BK114 := Aside0.mk (blk_below BK114.out hb)
       replace BK115 := Aside0.mk (blk_below BK115.out hb)
       replace HB := Aside0.mk (below_step HB.out hb)
       clear hb hbox hg
       refine hK.out _ _ ⟨(blk_cell BK101.out 0).trans rfl, (blk_cell BK101.out 1).trans rfl, (blk_cell BK102.out 0).trans rfl, (blk_cell BK102.out 1).trans rfl⟩ (fun hHeld => ?_)
       clear hK K
       refine norm_ (a' := ?_) ?_ ?_
       rotate_left
       ·show Act.put _ (some 8) _ = _
        simp only [Act.put, List.setIfInBounds_toArray, List.set_cons_zero, List.set_cons_succ, i64_w, i32_w]
        rfl
       exact norm_ (by simp only [putAll, Act.put, List.setIfInBounds_toArray, List.set_cons_zero, List.set_cons_succ] <;> rfl) (hJ6_7_8 (gb113, gb114, gb115) _ ⟨hHeld, BK101.out, BK102.out, BK103.out, BK104.out, BK113.out, BK114.out, BK115.out, GW113.out, GE113.out, NB101_113.out, NB113_101.out, NB102_113.out, NB113_102.out, NB103_113.out, NB113_103.out, NB104_113.out, NB113_104.out, NB114_113.out, NB113_114.out, NB115_113.out, NB113_115.out, GW114.out, GE114.out, NB101_114.out, NB114_101.out, NB102_114.out, NB114_102.out, NB103_114.out, NB114_103.out, NB104_114.out, NB114_104.out, NB115_114.out, NB114_115.out, GW115.out, GE115.out, NB101_115.out, NB115_101.out, NB102_115.out, NB115_102.out, NB103_115.out, NB115_103.out, NB104_115.out, NB115_104.out, HB.out⟩)
    ·skip
     ·skip
      rintro v108 w49 ⟨hS_, h0_, h1_, h2_, h3_, h4_, h5_⟩
      have n0_ : Aside0 (Kd.R (Kd.int .i64) 3 w49 w.heap.size (fun _ => True) v108 t107) := ⟨h0_⟩
      have n1_ : Aside0 (w49.heap[gb101]? = some (.cells #[.int .i64 a0_0, .slice A0_1 l0_1.length c0_1] 29 (0, 0))) := ⟨h1_⟩
      have n2_ : Aside0 (w49.heap[gb102]? = some (.cells #[.int .i64 a1_0, .slice A1_1 l1_1.length c1_1] 29 (0, 0))) := ⟨h2_⟩
      have n3_ : Aside0 (w49.heap[gb103]? = some (.cells #[.func (.func 71) #[] #[]] 65 (0, 0))) := ⟨h3_⟩
      have n4_ : Aside0 (w49.heap[gb104]? = some (.cells #[.int .i64 0, .slice none 0 0] 29 (0, 0))) := ⟨h4_⟩
      have n5_ : Aside0 (Below w.heap.size w w49) := ⟨h5_⟩
      clear BK101
      clear BK102
      clear BK103
      clear BK104
      clear HB
      clear h0_ h1_ h2_ h3_ h4_ h5_
      have HO109 := n0_
      have BK101 := n1_
      have BK102 := n2_
      have BK103 := n3_
      have BK104 := n4_
      have HB := n5_
      clear n0_ n1_ n2_ n3_ n4_ n5_
      have hHeld : w49.cell? ⟨gb101, 0, none⟩ = some (.int .i64 a0_0) ∧ w49.cell? ⟨gb101, 1, none⟩ = some (.slice A0_1 l0_1.length c0_1) ∧ w49.cell? ⟨gb102, 0, none⟩ = some (.int .i64 a1_0) ∧ w49.cell? ⟨gb102, 1, none⟩ = some (.slice A1_1 l1_1.length c1_1) := hS_
      refine norm_ (a' := ?_) ?_ ?_
      rotate_left
      ·simp only [putAll, Act.put, List.setIfInBounds_toArray, List.set_cons_zero, List.set_cons_succ]
       rfl
      refine four_ (i := 3) (j := 6) (k := 7) (m := 8) (Ni := some 31) (Nj := some 8) (Nk := some 9) (Nm := some 10) #[true, true, true, true, true, true, false, false, false, false, false, false] #[true, true, true, false, true, true, true, false, false, false, false, false] #[true, true, true, false, true, true, false, true, false, false, false, false] #[true, true, true, false, true, true, false, false, true, false, false, false] rfl rfl rfl rfl rfl rfl rfl rfl (four_of HT_.out (by kernel_rfl)) (by decide) (by decide) (by decide) (by decide) (fun K hK => ?_) (fun K hK => ?_) (fun K hK => ?_) (fun K hK => ?_)
      ·skip
       refine goes_ Try.func65 (by kernel_rfl) rfl #[.agg #[.int .i64 a1_0, .slice A1_1 l1_1.length c1_1]] (by rfl) rfl rfl (by (try simp only [List.map_toArray, List.map_cons, List.map_nil]) <;> rfl) ?_
       with_reducible refine (impl_netOf.calls kj8 a1_0 _ _ l1_1 t110 _ ?side1 ?side2 A45.out).mono ?_
       (case side1 => exact (Kd.C_below HR1_1.out HB.out))
       (case side2 => exact HC1_1.out)
       rintro e w50 ⟨v111, rfl, ho0, hb⟩
       refine ⟨_, rfl, ?_⟩
       have HO112 := Aside0.mk (Kd.R_lower (Kd.R_new' ho0 (Kd.R_lt HO109.out)) (below_size HB.out))
       replace HO109 := Aside0.mk (Kd.R_elder' HO109.out (Kd.R_base ho0) hb)
       replace BK101 := Aside0.mk (blk_below BK101.out hb)
       replace BK102 := Aside0.mk (blk_below BK102.out hb)
       replace BK103 := Aside0.mk (blk_below BK103.out hb)
       replace BK104 := Aside0.mk (blk_below BK104.out hb)
       replace HB := Aside0.mk (below_step HB.out hb)
       (try clear hb)
       (try clear ho0)
       refine hK.out _ _ ⟨(blk_cell BK101.out 0).trans rfl, (blk_cell BK101.out 1).trans rfl, (blk_cell BK102.out 0).trans rfl, (blk_cell BK102.out 1).trans rfl⟩ (fun hHeld => ?_)
       clear hK K
       refine norm_ (a' := ?_) ?_ ?_
       rotate_left
       ·show Act.put _ (some 31) _ = _
        simp only [Act.put, List.setIfInBounds_toArray, List.set_cons_zero, List.set_cons_succ, i64_w, i32_w]
        rfl
       exact norm_ (by simp only [putAll, Act.put, List.setIfInBounds_toArray, List.set_cons_zero, List.set_cons_succ] <;> rfl) (hJ1_3 (v108, v111) _ ⟨hHeld, (by (with_reducible repeat (first | apply Kd.R_alloc | apply Kd.R_drewN | apply Kd.R_drew)); exact Kd.R_mono HO109.out (fun _ hk => hk.2)), (by (with_reducible repeat (first | apply Kd.R_alloc | apply Kd.R_drewN | apply Kd.R_drew)); exact Kd.R_mono HO112.out (fun _ hk => hk.2)), BK101.out, BK102.out, BK103.out, BK104.out, HB.out⟩)
      ·skip
       refine box_step ?hg (N := 8) ?hd (cs := #[.slice none 0 0]) (t := 61) ?hr ?_; (case hd => rfl); (case hg => rfl); (case hr => first | (go_simp; done) | (go_simp; rfl))
       intro gb113 hg w50 hbox hb
       have BK113 := Aside0.mk (hbox)
       have GW113 := geN HB.out hg
       have GE113 := geN HB.out hg
       have NB101_113 := neL BK101.out hg
       have NB113_101 := neR BK101.out hg
       have NB102_113 := neL BK102.out hg
       have NB113_102 := neR BK102.out hg
       have NB103_113 := neL BK103.out hg
       have NB113_103 := neR BK103.out hg
       have NB104_113 := neL BK104.out hg
       have NB113_104 := neR BK104.out hg
       replace HO109 := Aside0.mk (Kd.R_below HO109.out hb)
       replace BK101 := Aside0.mk (blk_below BK101.out hb)
       replace BK102 := Aside0.mk (blk_below BK102.out hb)
       replace BK103 := Aside0.mk (blk_below BK103.out hb)
       replace BK104 := Aside0.mk (blk_below BK104.out hb)
       replace HB := Aside0.mk (below_step HB.out hb)
       clear hb hbox hg
       refine hK.out _ _ ⟨(blk_cell BK101.out 0).trans rfl, (blk_cell BK101.out 1).trans rfl, (blk_cell BK102.out 0).trans rfl, (blk_cell BK102.out 1).trans rfl⟩ (fun hHeld => ?_)
       clear hK K
       refine norm_ (a' := ?_) ?_ ?_
       rotate_left
       ·show Act.put _ (some 8) _ = _
        simp only [Act.put, List.setIfInBounds_toArray, List.set_cons_zero, List.set_cons_succ, i64_w, i32_w]
        rfl
       exact norm_ (by simp only [putAll, Act.put, List.setIfInBounds_toArray, List.set_cons_zero, List.set_cons_succ] <;> rfl) (hJ1_6 (v108, gb113) _ ⟨hHeld, HO109.out, BK101.out, BK102.out, BK103.out, BK104.out, BK113.out, GW113.out, GE113.out, NB101_113.out, NB113_101.out, NB102_113.out, NB113_102.out, NB103_113.out, NB113_103.out, NB104_113.out, NB113_104.out, HB.out⟩)
      ·skip
       refine box_step ?hg (N := 9) ?hd (cs := #[.slice none 0 0]) (t := 61) ?hr ?_; (case hd => rfl); (case hg => rfl); (case hr => first | (go_simp; done) | (go_simp; rfl))
       intro gb114 hg w50 hbox hb
       have BK114 := Aside0.mk (hbox)
       have GW114 := geN HB.out hg
       have GE114 := geN HB.out hg
       have NB101_114 := neL BK101.out hg
       have NB114_101 := neR BK101.out hg
       have NB102_114 := neL BK102.out hg
       have NB114_102 := neR BK102.out hg
       have NB103_114 := neL BK103.out hg
       have NB114_103 := neR BK103.out hg
       have NB104_114 := neL BK104.out hg
       have NB114_104 := neR BK104.out hg
       replace HO109 := Aside0.mk (Kd.R_below HO109.out hb)
       replace BK101 := Aside0.mk (blk_below BK101.out hb)
       replace BK102 := Aside0.mk (blk_below BK102.out hb)
       replace BK103 := Aside0.mk (blk_below BK103.out hb)
       replace BK104 := Aside0.mk (blk_below BK104.out hb)
       replace HB := Aside0.mk (below_step HB.out hb)
       clear hb hbox hg
       refine hK.out _ _ ⟨(blk_cell BK101.out 0).trans rfl, (blk_cell BK101.out 1).trans rfl, (blk_cell BK102.out 0).trans rfl, (blk_cell BK102.out 1).trans rfl⟩ (fun hHeld => ?_)
       clear hK K
       refine norm_ (a' := ?_) ?_ ?_
       rotate_left
       ·show Act.put _ (some 9) _ = _
        simp only [Act.put, List.setIfInBounds_toArray, List.set_cons_zero, List.set_cons_succ, i64_w, i32_w]
        rfl
       exact norm_ (by simp only [putAll, Act.put, List.setIfInBounds_toArray, List.set_cons_zero, List.set_cons_succ] <;> rfl) (hJ1_7 (v108, gb114) _ ⟨hHeld, HO109.out, BK101.out, BK102.out, BK103.out, BK104.out, BK114.out, GW114.out, GE114.out, NB101_114.out, NB114_101.out, NB102_114.out, NB114_102.out, NB103_114.out, NB114_103.out, NB104_114.out, NB114_104.out, HB.out⟩)
      ·skip
       refine box_step ?hg (N := 10) ?hd (cs := #[.int .i64 0]) (t := 3) ?hr ?_; (case hd => rfl); (case hg => rfl); (case hr => first | (go_simp; done) | (go_simp; rfl))
       intro gb115 hg w50 hbox hb
       have BK115 := Aside0.mk (hbox)
       have GW115 := geN HB.out hg
       have GE115 := geN HB.out hg
       have NB101_115 := neL BK101.out hg
       have NB115_101 := neR BK101.out hg
       have NB102_115 := neL BK102.out hg
       have NB115_102 := neR BK102.out hg
       have NB103_115 := neL BK103.out hg
       have NB115_103 := neR BK103.out hg
       have NB104_115 := neL BK104.out hg
       have NB115_104 := neR BK104.out hg
       replace HO109 := Aside0.mk (Kd.R_below (Kd.R_elderB HO109.out gb115 (Nat.le_of_eq hg.symm)) hb)
       replace BK101 := Aside0.mk (blk_below BK101.out hb)
       replace BK102 := Aside0.mk (blk_below BK102.out hb)
       replace BK103 := Aside0.mk (blk_below BK103.out hb)
       replace BK104 := Aside0.mk (blk_below BK104.out hb)
       replace HB := Aside0.mk (below_step HB.out hb)
       clear hb hbox hg
       refine hK.out _ _ ⟨(blk_cell BK101.out 0).trans rfl, (blk_cell BK101.out 1).trans rfl, (blk_cell BK102.out 0).trans rfl, (blk_cell BK102.out 1).trans rfl⟩ (fun hHeld => ?_)
       clear hK K
       refine norm_ (a' := ?_) ?_ ?_
       rotate_left
       ·show Act.put _ (some 10) _ = _
        simp only [Act.put, List.setIfInBounds_toArray, List.set_cons_zero, List.set_cons_succ, i64_w, i32_w]
        rfl
       exact norm_ (by simp only [putAll, Act.put, List.setIfInBounds_toArray, List.set_cons_zero, List.set_cons_succ] <;> rfl) (hJ1_8 (v108, gb115) _ ⟨hHeld, (by (with_reducible repeat (first | apply Kd.R_alloc | apply Kd.R_drewN | apply Kd.R_drew)); exact Kd.R_mono HO109.out (fun _ hk => hk.2)), BK101.out, BK102.out, BK103.out, BK104.out, BK115.out, GW115.out, GE115.out, NB101_115.out, NB115_101.out, NB102_115.out, NB115_102.out, NB103_115.out, NB115_103.out, NB104_115.out, NB115_104.out, HB.out⟩)
    ·skip
     ·skip
      rintro gb113 w49 ⟨hS_, h0_, h1_, h2_, h3_, h4_, h5_, h6_, h7_, h8_, h9_, h10_, h11_, h12_, h13_, h14_, h15_⟩
      have n0_ : Aside0 (w49.heap[gb101]? = some (.cells #[.int .i64 a0_0, .slice A0_1 l0_1.length c0_1] 29 (0, 0))) := ⟨h0_⟩
      have n1_ : Aside0 (w49.heap[gb102]? = some (.cells #[.int .i64 a1_0, .slice A1_1 l1_1.length c1_1] 29 (0, 0))) := ⟨h1_⟩
      have n2_ : Aside0 (w49.heap[gb103]? = some (.cells #[.func (.func 71) #[] #[]] 65 (0, 0))) := ⟨h2_⟩
      have n3_ : Aside0 (w49.heap[gb104]? = some (.cells #[.int .i64 0, .slice none 0 0] 29 (0, 0))) := ⟨h3_⟩
      have n4_ : Aside0 (w49.heap[gb113]? = some (.cells #[.slice none 0 0] 61 (0, 0))) := ⟨h4_⟩
      have n5_ : Aside0 (w.heap.size ≤ gb113) := ⟨h5_⟩
      have n6_ : Aside0 (w.heap.size ≤ gb113) := ⟨h6_⟩
      have n7_ : Aside0 (gb101 ≠ gb113) := ⟨h7_⟩
      have n8_ : Aside0 (gb113 ≠ gb101) := ⟨h8_⟩
      have n9_ : Aside0 (gb102 ≠ gb113) := ⟨h9_⟩
      have n10_ : Aside0 (gb113 ≠ gb102) := ⟨h10_⟩
      have n11_ : Aside0 (gb103 ≠ gb113) := ⟨h11_⟩
      have n12_ : Aside0 (gb113 ≠ gb103) := ⟨h12_⟩
      have n13_ : Aside0 (gb104 ≠ gb113) := ⟨h13_⟩
      have n14_ : Aside0 (gb113 ≠ gb104) := ⟨h14_⟩
      have n15_ : Aside0 (Below w.heap.size w w49) := ⟨h15_⟩
      clear BK101
      clear BK102
      clear BK103
      clear BK104
      clear HB
      clear h0_ h1_ h2_ h3_ h4_ h5_ h6_ h7_ h8_ h9_ h10_ h11_ h12_ h13_ h14_ h15_
      have BK101 := n0_
      have BK102 := n1_
      have BK103 := n2_
      have BK104 := n3_
      have BK113 := n4_
      have GW113 := n5_
      have GE113 := n6_
      have NB101_113 := n7_
      have NB113_101 := n8_
      have NB102_113 := n9_
      have NB113_102 := n10_
      have NB103_113 := n11_
      have NB113_103 := n12_
      have NB104_113 := n13_
      have NB113_104 := n14_
      have HB := n15_
      clear n0_ n1_ n2_ n3_ n4_ n5_ n6_ n7_ n8_ n9_ n10_ n11_ n12_ n13_ n14_ n15_
      have hHeld : w49.cell? ⟨gb101, 0, none⟩ = some (.int .i64 a0_0) ∧ w49.cell? ⟨gb101, 1, none⟩ = some (.slice A0_1 l0_1.length c0_1) ∧ w49.cell? ⟨gb102, 0, none⟩ = some (.int .i64 a1_0) ∧ w49.cell? ⟨gb102, 1, none⟩ = some (.slice A1_1 l1_1.length c1_1) := hS_
      refine norm_ (a' := ?_) ?_ ?_
      rotate_left
      ·simp only [putAll, Act.put, List.setIfInBounds_toArray, List.set_cons_zero, List.set_cons_succ]
       rfl
      refine three_ (i := 1) (j := 7) (k := 8) (Ni := some 29) (Nj := some 9) (Nk := some 10) #[true, true, true, false, true, true, true, false, false, false, false, false] #[true, false, true, false, true, true, true, true, false, false, false, false] #[true, false, true, false, true, true, true, false, true, false, false, false] rfl rfl rfl rfl rfl rfl (three_of HT_.out (by kernel_rfl)) (by decide) (by decide) (by decide) (fun K hK => ?_) (fun K hK => ?_) (fun K hK => ?_)
      ·skip
       refine goes_ Try.func65 (by kernel_rfl) rfl #[.agg #[.int .i64 a0_0, .slice A0_1 l0_1.length c0_1]] (by rfl) rfl rfl (by (try simp only [List.map_toArray, List.map_cons, List.map_nil]) <;> rfl) ?_
       with_reducible refine (impl_netOf.calls kj8 a0_0 _ _ l0_1 t107 _ ?side1 ?side2 A44.out).mono ?_
       (case side1 => exact (Kd.C_below HR0_1.out HB.out))
       (case side2 => exact HC0_1.out)
       rintro e w50 ⟨v108, rfl, ho0, hb⟩
       refine ⟨_, rfl, ?_⟩
       have HO109 := Aside0.mk (Kd.R_lower ho0 (below_size HB.out))
       replace BK101 := Aside0.mk (blk_below BK101.out hb)
       replace BK102 := Aside0.mk (blk_below BK102.out hb)
       replace BK103 := Aside0.mk (blk_below BK103.out hb)
       replace BK104 := Aside0.mk (blk_below BK104.out hb)
       replace BK113 := Aside0.mk (blk_below BK113.out hb)
       replace HB := Aside0.mk (below_step HB.out hb)
       (try clear hb)
       (try clear ho0)
       refine hK.out _ _ ⟨(blk_cell BK101.out 0).trans rfl, (blk_cell BK101.out 1).trans rfl, (blk_cell BK102.out 0).trans rfl, (blk_cell BK102.out 1).trans rfl⟩ (fun hHeld => ?_)
       clear hK K
       refine norm_ (a' := ?_) ?_ ?_
       rotate_left
       ·show Act.put _ (some 29) _ = _
        simp only [Act.put, List.setIfInBounds_toArray, List.set_cons_zero, List.set_cons_succ, i64_w, i32_w]
        rfl
       exact norm_ (by simp only [putAll, Act.put, List.setIfInBounds_toArray, List.set_cons_zero, List.set_cons_succ] <;> rfl) (hJ1_6 (v108, gb113) _ ⟨hHeld, HO109.out, BK101.out, BK102.out, BK103.out, BK104.out, BK113.out, GW113.out, GE113.out, NB101_113.out, NB113_101.out, NB102_113.out, NB113_102.out, NB103_113.out, NB113_103.out, NB104_113.out, NB113_104.out, HB.out⟩)
      ·skip
       refine box_step ?hg (N := 9) ?hd (cs := #[.slice none 0 0]) (t := 61) ?hr ?_; (case hd => rfl); (case hg => rfl); (case hr => first | (go_simp; done) | (go_simp; rfl))
       intro gb114 hg w50 hbox hb
       have BK114 := Aside0.mk (hbox)
       have GW114 := geN HB.out hg
       have GE114 := geN HB.out hg
       have NB101_114 := neL BK101.out hg
       have NB114_101 := neR BK101.out hg
       have NB102_114 := neL BK102.out hg
       have NB114_102 := neR BK102.out hg
       have NB103_114 := neL BK103.out hg
       have NB114_103 := neR BK103.out hg
       have NB104_114 := neL BK104.out hg
       have NB114_104 := neR BK104.out hg
       have NB113_114 := neL BK113.out hg
       have NB114_113 := neR BK113.out hg
       replace BK101 := Aside0.mk (blk_below BK101.out hb)
       replace BK102 := Aside0.mk (blk_below BK102.out hb)
       replace BK103 := Aside0.mk (blk_below BK103.out hb)
       replace BK104 := Aside0.mk (blk_below BK104.out hb)
       replace BK113 := Aside0.mk (blk_below BK113.out hb)
       replace HB := Aside0.mk (below_step HB.out hb)
       clear hb hbox hg
       refine hK.out _ _ ⟨(blk_cell BK101.out 0).trans rfl, (blk_cell BK101.out 1).trans rfl, (blk_cell BK102.out 0).trans rfl, (blk_cell BK102.out 1).trans rfl⟩ (fun hHeld => ?_)
       clear hK K
       refine norm_ (a' := ?_) ?_ ?_
       rotate_left
       ·show Act.put _ (some 9) _ = _
        simp only [Act.put, List.setIfInBounds_toArray, List.set_cons_zero, List.set_cons_succ, i64_w, i32_w]
        rfl
       exact norm_ (by simp only [putAll, Act.put, List.setIfInBounds_toArray, List.set_cons_zero, List.set_cons_succ] <;> rfl) (hJ6_7 (gb113, gb114) _ ⟨hHeld, BK101.out, BK102.out, BK103.out, BK104.out, BK113.out, BK114.out, GW113.out, GE113.out, NB101_113.out, NB113_101.out, NB102_113.out, NB113_102.out, NB103_113.out, NB113_103.out, NB104_113.out, NB113_104.out, NB114_113.out, NB113_114.out, GW114.out, GE114.out, NB101_114.out, NB114_101.out, NB102_114.out, NB114_102.out, NB103_114.out, NB114_103.out, NB104_114.out, NB114_104.out, HB.out⟩)
      ·skip
       refine box_step ?hg (N := 10) ?hd (cs := #[.int .i64 0]) (t := 3) ?hr ?_; (case hd => rfl); (case hg => rfl); (case hr => first | (go_simp; done) | (go_simp; rfl))
       intro gb115 hg w50 hbox hb
       have BK115 := Aside0.mk (hbox)
       have GW115 := geN HB.out hg
       have GE115 := geN HB.out hg
       have NB101_115 := neL BK101.out hg
       have NB115_101 := neR BK101.out hg
       have NB102_115 := neL BK102.out hg
       have NB115_102 := neR BK102.out hg
       have NB103_115 := neL BK103.out hg
       have NB115_103 := neR BK103.out hg
       have NB104_115 := neL BK104.out hg
       have NB115_104 := neR BK104.out hg
       have NB113_115 := neL BK113.out hg
       have NB115_113 := neR BK113.out hg
       replace BK101 := Aside0.mk (blk_below BK101.out hb)
       replace BK102 := Aside0.mk (blk_below BK102.out hb)
       replace BK103 := Aside0.mk (blk_below BK103.out hb)
       replace BK104 := Aside0.mk (blk_below BK104.out hb)
       replace BK113 := Aside0.mk (blk_below BK113.out hb)
       replace HB := Aside0.mk (below_step HB.out hb)
       clear hb hbox hg
       refine hK.out _ _ ⟨(blk_cell BK101.out 0).trans rfl, (blk_cell BK101.out 1).trans rfl, (blk_cell BK102.out 0).trans rfl, (blk_cell BK102.out 1).trans rfl⟩ (fun hHeld => ?_)
       clear hK K
       refine norm_ (a' := ?_) ?_ ?_
       rotate_left
       ·show Act.put _ (some 10) _ = _
        simp only [Act.put, List.setIfInBounds_toArray, List.set_cons_zero, List.set_cons_succ, i64_w, i32_w]
        rfl
       exact norm_ (by simp only [putAll, Act.put, List.setIfInBounds_toArray, List.set_cons_zero, List.set_cons_succ] <;> rfl) (hJ6_8 (gb113, gb115) _ ⟨hHeld, BK101.out, BK102.out, BK103.out, BK104.out, BK113.out, BK115.out, GW113.out, GE113.out, NB101_113.out, NB113_101.out, NB102_113.out, NB113_102.out, NB103_113.out, NB113_103.out, NB104_113.out, NB113_104.out, NB115_113.out, NB113_115.out, GW115.out, GE115.out, NB101_115.out, NB115_101.out, NB102_115.out, NB115_102.out, NB103_115.out, NB115_103.out, NB104_115.out, NB115_104.out, HB.out⟩)
    ·skip
     ·skip
      rintro gb114 w49 ⟨hS_, h0_, h1_, h2_, h3_, h4_, h5_, h6_, h7_, h8_, h9_, h10_, h11_, h12_, h13_, h14_, h15_⟩
      have n0_ : Aside0 (w49.heap[gb101]? = some (.cells #[.int .i64 a0_0, .slice A0_1 l0_1.length c0_1] 29 (0, 0))) := ⟨h0_⟩
      have n1_ : Aside0 (w49.heap[gb102]? = some (.cells #[.int .i64 a1_0, .slice A1_1 l1_1.length c1_1] 29 (0, 0))) := ⟨h1_⟩
      have n2_ : Aside0 (w49.heap[gb103]? = some (.cells #[.func (.func 71) #[] #[]] 65 (0, 0))) := ⟨h2_⟩
      have n3_ : Aside0 (w49.heap[gb104]? = some (.cells #[.int .i64 0, .slice none 0 0] 29 (0, 0))) := ⟨h3_⟩
      have n4_ : Aside0 (w49.heap[gb114]? = some (.cells #[.slice none 0 0] 61 (0, 0))) := ⟨h4_⟩
      have n5_ : Aside0 (w.heap.size ≤ gb114) := ⟨h5_⟩
      have n6_ : Aside0 (w.heap.size ≤ gb114) := ⟨h6_⟩
      have n7_ : Aside0 (gb101 ≠ gb114) := ⟨h7_⟩
      have n8_ : Aside0 (gb114 ≠ gb101) := ⟨h8_⟩
      have n9_ : Aside0 (gb102 ≠ gb114) := ⟨h9_⟩
      have n10_ : Aside0 (gb114 ≠ gb102) := ⟨h10_⟩
      have n11_ : Aside0 (gb103 ≠ gb114) := ⟨h11_⟩
      have n12_ : Aside0 (gb114 ≠ gb103) := ⟨h12_⟩
      have n13_ : Aside0 (gb104 ≠ gb114) := ⟨h13_⟩
      have n14_ : Aside0 (gb114 ≠ gb104) := ⟨h14_⟩
      have n15_ : Aside0 (Below w.heap.size w w49) := ⟨h15_⟩
      clear BK101
      clear BK102
      clear BK103
      clear BK104
      clear HB
      clear h0_ h1_ h2_ h3_ h4_ h5_ h6_ h7_ h8_ h9_ h10_ h11_ h12_ h13_ h14_ h15_
      have BK101 := n0_
      have BK102 := n1_
      have BK103 := n2_
      have BK104 := n3_
      have BK114 := n4_
      have GW114 := n5_
      have GE114 := n6_
      have NB101_114 := n7_
      have NB114_101 := n8_
      have NB102_114 := n9_
      have NB114_102 := n10_
      have NB103_114 := n11_
      have NB114_103 := n12_
      have NB104_114 := n13_
      have NB114_104 := n14_
      have HB := n15_
      clear n0_ n1_ n2_ n3_ n4_ n5_ n6_ n7_ n8_ n9_ n10_ n11_ n12_ n13_ n14_ n15_
      have hHeld : w49.cell? ⟨gb101, 0, none⟩ = some (.int .i64 a0_0) ∧ w49.cell? ⟨gb101, 1, none⟩ = some (.slice A0_1 l0_1.length c0_1) ∧ w49.cell? ⟨gb102, 0, none⟩ = some (.int .i64 a1_0) ∧ w49.cell? ⟨gb102, 1, none⟩ = some (.slice A1_1 l1_1.length c1_1) := hS_
      refine norm_ (a' := ?_) ?_ ?_
      rotate_left
      ·simp only [putAll, Act.put, List.setIfInBounds_toArray, List.set_cons_zero, List.set_cons_succ]
       rfl
      refine three_ (i := 1) (j := 6) (k := 8) (Ni := some 29) (Nj := some 8) (Nk := some 10) #[true, true, true, false, true, true, false, true, false, false, false, false] #[true, false, true, false, true, true, true, true, false, false, false, false] #[true, false, true, false, true, true, false, true, true, false, false, false] rfl rfl rfl rfl rfl rfl (three_of HT_.out (by kernel_rfl)) (by decide) (by decide) (by decide) (fun K hK => ?_) (fun K hK => ?_) (fun K hK => ?_)
      ·skip
       refine goes_ Try.func65 (by kernel_rfl) rfl #[.agg #[.int .i64 a0_0, .slice A0_1 l0_1.length c0_1]] (by rfl) rfl rfl (by (try simp only [List.map_toArray, List.map_cons, List.map_nil]) <;> rfl) ?_
       with_reducible refine (impl_netOf.calls kj8 a0_0 _ _ l0_1 t107 _ ?side1 ?side2 A44.out).mono ?_
       (case side1 => exact (Kd.C_below HR0_1.out HB.out))
       (case side2 => exact HC0_1.out)
       rintro e w50 ⟨v108, rfl, ho0, hb⟩
       refine ⟨_, rfl, ?_⟩
       have HO109 := Aside0.mk (Kd.R_lower ho0 (below_size HB.out))
       replace BK101 := Aside0.mk (blk_below BK101.out hb)
       replace BK102 := Aside0.mk (blk_below BK102.out hb)
       replace BK103 := Aside0.mk (blk_below BK103.out hb)
       replace BK104 := Aside0.mk (blk_below BK104.out hb)
       replace BK114 := Aside0.mk (blk_below BK114.out hb)
       replace HB := Aside0.mk (below_step HB.out hb)
       (try clear hb)
       (try clear ho0)
       refine hK.out _ _ ⟨(blk_cell BK101.out 0).trans rfl, (blk_cell BK101.out 1).trans rfl, (blk_cell BK102.out 0).trans rfl, (blk_cell BK102.out 1).trans rfl⟩ (fun hHeld => ?_)
       clear hK K
       refine norm_ (a' := ?_) ?_ ?_
       rotate_left
       ·show Act.put _ (some 29) _ = _
        simp only [Act.put, List.setIfInBounds_toArray, List.set_cons_zero, List.set_cons_succ, i64_w, i32_w]
        rfl
       exact norm_ (by simp only [putAll, Act.put, List.setIfInBounds_toArray, List.set_cons_zero, List.set_cons_succ] <;> rfl) (hJ1_7 (v108, gb114) _ ⟨hHeld, HO109.out, BK101.out, BK102.out, BK103.out, BK104.out, BK114.out, GW114.out, GE114.out, NB101_114.out, NB114_101.out, NB102_114.out, NB114_102.out, NB103_114.out, NB114_103.out, NB104_114.out, NB114_104.out, HB.out⟩)
      ·skip
       refine box_step ?hg (N := 8) ?hd (cs := #[.slice none 0 0]) (t := 61) ?hr ?_; (case hd => rfl); (case hg => rfl); (case hr => first | (go_simp; done) | (go_simp; rfl))
       intro gb113 hg w50 hbox hb
       have BK113 := Aside0.mk (hbox)
       have GW113 := geN HB.out hg
       have GE113 := geN HB.out hg
       have NB101_113 := neL BK101.out hg
       have NB113_101 := neR BK101.out hg
       have NB102_113 := neL BK102.out hg
       have NB113_102 := neR BK102.out hg
       have NB103_113 := neL BK103.out hg
       have NB113_103 := neR BK103.out hg
       have NB104_113 := neL BK104.out hg
       have NB113_104 := neR BK104.out hg
       have NB114_113 := neL BK114.out hg
       have NB113_114 := neR BK114.out hg
       replace BK101 := Aside0.mk (blk_below BK101.out hb)
       replace BK102 := Aside0.mk (blk_below BK102.out hb)
       replace BK103 := Aside0.mk (blk_below BK103.out hb)
       replace BK104 := Aside0.mk (blk_below BK104.out hb)
       replace BK114 := Aside0.mk (blk_below BK114.out hb)
       replace HB := Aside0.mk (below_step HB.out hb)
       clear hb hbox hg
       refine hK.out _ _ ⟨(blk_cell BK101.out 0).trans rfl, (blk_cell BK101.out 1).trans rfl, (blk_cell BK102.out 0).trans rfl, (blk_cell BK102.out 1).trans rfl⟩ (fun hHeld => ?_)
       clear hK K
       refine norm_ (a' := ?_) ?_ ?_
       rotate_left
       ·show Act.put _ (some 8) _ = _
        simp only [Act.put, List.setIfInBounds_toArray, List.set_cons_zero, List.set_cons_succ, i64_w, i32_w]
        rfl
       exact norm_ (by simp only [putAll, Act.put, List.setIfInBounds_toArray, List.set_cons_zero, List.set_cons_succ] <;> rfl) (hJ6_7 (gb113, gb114) _ ⟨hHeld, BK101.out, BK102.out, BK103.out, BK104.out, BK113.out, BK114.out, GW113.out, GE113.out, NB101_113.out, NB113_101.out, NB102_113.out, NB113_102.out, NB103_113.out, NB113_103.out, NB104_113.out, NB113_104.out, NB114_113.out, NB113_114.out, GW114.out, GE114.out, NB101_114.out, NB114_101.out, NB102_114.out, NB114_102.out, NB103_114.out, NB114_103.out, NB104_114.out, NB114_104.out, HB.out⟩)
      ·skip
       refine box_step ?hg (N := 10) ?hd (cs := #[.int .i64 0]) (t := 3) ?hr ?_; (case hd => rfl); (case hg => rfl); (case hr => first | (go_simp; done) | (go_simp; rfl))
       intro gb115 hg w50 hbox hb
       have BK115 := Aside0.mk (hbox)
       have GW115 := geN HB.out hg
       have GE115 := geN HB.out hg
       have NB101_115 := neL BK101.out hg
       have NB115_101 := neR BK101.out hg
       have NB102_115 := neL BK102.out hg
       have NB115_102 := neR BK102.out hg
       have NB103_115 := neL BK103.out hg
       have NB115_103 := neR BK103.out hg
       have NB104_115 := neL BK104.out hg
       have NB115_104 := neR BK104.out hg
       have NB114_115 := neL BK114.out hg
       have NB115_114 := neR BK114.out hg
       replace BK101 := Aside0.mk (blk_below BK101.out hb)
       replace BK102 := Aside0.mk (blk_below BK102.out hb)
       replace BK103 := Aside0.mk (blk_below BK103.out hb)
       replace BK104 := Aside0.mk (blk_below BK104.out hb)
       replace BK114 := Aside0.mk (blk_below BK114.out hb)
       replace HB := Aside0.mk (below_step HB.out hb)
       clear hb hbox hg
       refine hK.out _ _ ⟨(blk_cell BK101.out 0).trans rfl, (blk_cell BK101.out 1).trans rfl, (blk_cell BK102.out 0).trans rfl, (blk_cell BK102.out 1).trans rfl⟩ (fun hHeld => ?_)
       clear hK K
       refine norm_ (a' := ?_) ?_ ?_
       rotate_left
       ·show Act.put _ (some 10) _ = _
        simp only [Act.put, List.setIfInBounds_toArray, List.set_cons_zero, List.set_cons_succ, i64_w, i32_w]
        rfl
       exact norm_ (by simp only [putAll, Act.put, List.setIfInBounds_toArray, List.set_cons_zero, List.set_cons_succ] <;> rfl) (hJ7_8 (gb114, gb115) _ ⟨hHeld, BK101.out, BK102.out, BK103.out, BK104.out, BK114.out, BK115.out, GW114.out, GE114.out, NB101_114.out, NB114_101.out, NB102_114.out, NB114_102.out, NB103_114.out, NB114_103.out, NB104_114.out, NB114_104.out, NB115_114.out, NB114_115.out, GW115.out, GE115.out, NB101_115.out, NB115_101.out, NB102_115.out, NB115_102.out, NB103_115.out, NB115_103.out, NB104_115.out, NB115_104.out, HB.out⟩)
    ·skip
     ·skip
      rintro gb115 w49 ⟨hS_, h0_, h1_, h2_, h3_, h4_, h5_, h6_, h7_, h8_, h9_, h10_, h11_, h12_, h13_, h14_, h15_⟩
      have n0_ : Aside0 (w49.heap[gb101]? = some (.cells #[.int .i64 a0_0, .slice A0_1 l0_1.length c0_1] 29 (0, 0))) := ⟨h0_⟩
      have n1_ : Aside0 (w49.heap[gb102]? = some (.cells #[.int .i64 a1_0, .slice A1_1 l1_1.length c1_1] 29 (0, 0))) := ⟨h1_⟩
      have n2_ : Aside0 (w49.heap[gb103]? = some (.cells #[.func (.func 71) #[] #[]] 65 (0, 0))) := ⟨h2_⟩
      have n3_ : Aside0 (w49.heap[gb104]? = some (.cells #[.int .i64 0, .slice none 0 0] 29 (0, 0))) := ⟨h3_⟩
      have n4_ : Aside0 (w49.heap[gb115]? = some (.cells #[.int .i64 0] 3 (0, 0))) := ⟨h4_⟩
      have n5_ : Aside0 (w.heap.size ≤ gb115) := ⟨h5_⟩
      have n6_ : Aside0 (w.heap.size ≤ gb115) := ⟨h6_⟩
      have n7_ : Aside0 (gb101 ≠ gb115) := ⟨h7_⟩
      have n8_ : Aside0 (gb115 ≠ gb101) := ⟨h8_⟩
      have n9_ : Aside0 (gb102 ≠ gb115) := ⟨h9_⟩
      have n10_ : Aside0 (gb115 ≠ gb102) := ⟨h10_⟩
      have n11_ : Aside0 (gb103 ≠ gb115) := ⟨h11_⟩
      have n12_ : Aside0 (gb115 ≠ gb103) := ⟨h12_⟩
      have n13_ : Aside0 (gb104 ≠ gb115) := ⟨h13_⟩
      have n14_ : Aside0 (gb115 ≠ gb104) := ⟨h14_⟩
      have n15_ : Aside0 (Below w.heap.size w w49) := ⟨h15_⟩
      clear BK101
      clear BK102
      clear BK103
      clear BK104
      clear HB
      clear h0_ h1_ h2_ h3_ h4_ h5_ h6_ h7_ h8_ h9_ h10_ h11_ h12_ h13_ h14_ h15_
      have BK101 := n0_
      have BK102 := n1_
      have BK103 := n2_
      have BK104 := n3_
      have BK115 := n4_
      have GW115 := n5_
      have GE115 := n6_
      have NB101_115 := n7_
      have NB115_101 := n8_
      have NB102_115 := n9_
      have NB115_102 := n10_
      have NB103_115 := n11_
      have NB115_103 := n12_
      have NB104_115 := n13_
      have NB115_104 := n14_
      have HB := n15_
      clear n0_ n1_ n2_ n3_ n4_ n5_ n6_ n7_ n8_ n9_ n10_ n11_ n12_ n13_ n14_ n15_
      have hHeld : w49.cell? ⟨gb101, 0, none⟩ = some (.int .i64 a0_0) ∧ w49.cell? ⟨gb101, 1, none⟩ = some (.slice A0_1 l0_1.length c0_1) ∧ w49.cell? ⟨gb102, 0, none⟩ = some (.int .i64 a1_0) ∧ w49.cell? ⟨gb102, 1, none⟩ = some (.slice A1_1 l1_1.length c1_1) := hS_
      refine norm_ (a' := ?_) ?_ ?_
      rotate_left
      ·simp only [putAll, Act.put, List.setIfInBounds_toArray, List.set_cons_zero, List.set_cons_succ]
       rfl
      refine three_ (i := 1) (j := 6) (k := 7) (Ni := some 29) (Nj := some 8) (Nk := some 9) #[true, true, true, false, true, true, false, false, true, false, false, false] #[true, false, true, false, true, true, true, false, true, false, false, false] #[true, false, true, false, true, true, false, true, true, false, false, false] rfl rfl rfl rfl rfl rfl (three_of HT_.out (by kernel_rfl)) (by decide) (by decide) (by decide) (fun K hK => ?_) (fun K hK => ?_) (fun K hK => ?_)
      ·skip
       refine goes_ Try.func65 (by kernel_rfl) rfl #[.agg #[.int .i64 a0_0, .slice A0_1 l0_1.length c0_1]] (by rfl) rfl rfl (by (try simp only [List.map_toArray, List.map_cons, List.map_nil]) <;> rfl) ?_
       with_reducible refine (impl_netOf.calls kj8 a0_0 _ _ l0_1 t107 _ ?side1 ?side2 A44.out).mono ?_
       (case side1 => exact (Kd.C_below HR0_1.out HB.out))
       (case side2 => exact HC0_1.out)
       rintro e w50 ⟨v108, rfl, ho0, hb⟩
       refine ⟨_, rfl, ?_⟩
       have HO109 := Aside0.mk (Kd.R_lower (Kd.R_newB ho0 BK115.out) (below_size HB.out))
       replace BK101 := Aside0.mk (blk_below BK101.out hb)
       replace BK102 := Aside0.mk (blk_below BK102.out hb)
       replace BK103 := Aside0.mk (blk_below BK103.out hb)
       replace BK104 := Aside0.mk (blk_below BK104.out hb)
       replace BK115 := Aside0.mk (blk_below BK115.out hb)
       replace HB := Aside0.mk (below_step HB.out hb)
       (try clear hb)
       (try clear ho0)
       refine hK.out _ _ ⟨(blk_cell BK101.out 0).trans rfl, (blk_cell BK101.out 1).trans rfl, (blk_cell BK102.out 0).trans rfl, (blk_cell BK102.out 1).trans rfl⟩ (fun hHeld => ?_)
       clear hK K
       refine norm_ (a' := ?_) ?_ ?_
       rotate_left
       ·show Act.put _ (some 29) _ = _
        simp only [Act.put, List.setIfInBounds_toArray, List.set_cons_zero, List.set_cons_succ, i64_w, i32_w]
        rfl
       exact norm_ (by simp only [putAll, Act.put, List.setIfInBounds_toArray, List.set_cons_zero, List.set_cons_succ] <;> rfl) (hJ1_8 (v108, gb115) _ ⟨hHeld, (by (with_reducible repeat (first | apply Kd.R_alloc | apply Kd.R_drewN | apply Kd.R_drew)); exact Kd.R_mono HO109.out (fun _ hk => hk.2)), BK101.out, BK102.out, BK103.out, BK104.out, BK115.out, GW115.out, GE115.out, NB101_115.out, NB115_101.out, NB102_115.out, NB115_102.out, NB103_115.out, NB115_103.out, NB104_115.out, NB115_104.out, HB.out⟩)
      ·skip
       refine box_step ?hg (N := 8) ?hd (cs := #[.slice none 0 0]) (t := 61) ?hr ?_; (case hd => rfl); (case hg => rfl); (case hr => first | (go_simp; done) | (go_simp; rfl))
       intro gb113 hg w50 hbox hb
       have BK113 := Aside0.mk (hbox)
       have GW113 := geN HB.out hg
       have GE113 := geN HB.out hg
       have NB101_113 := neL BK101.out hg
       have NB113_101 := neR BK101.out hg
       have NB102_113 := neL BK102.out hg
       have NB113_102 := neR BK102.out hg
       have NB103_113 := neL BK103.out hg
       have NB113_103 := neR BK103.out hg
       have NB104_113 := neL BK104.out hg
       have NB113_104 := neR BK104.out hg
       have NB115_113 := neL BK115.out hg
       have NB113_115 := neR BK115.out hg
       replace BK101 := Aside0.mk (blk_below BK101.out hb)
       replace BK102 := Aside0.mk (blk_below BK102.out hb)
       replace BK103 := Aside0.mk (blk_below BK103.out hb)
       replace BK104 := Aside0.mk (blk_below BK104.out hb)
       replace BK115 := Aside0.mk (blk_below BK115.out hb)
       replace HB := Aside0.mk (below_step HB.out hb)
       clear hb hbox hg
       refine hK.out _ _ ⟨(blk_cell BK101.out 0).trans rfl, (blk_cell BK101.out 1).trans rfl, (blk_cell BK102.out 0).trans rfl, (blk_cell BK102.out 1).trans rfl⟩ (fun hHeld => ?_)
       clear hK K
       refine norm_ (a' := ?_) ?_ ?_
       rotate_left
       ·show Act.put _ (some 8) _ = _
        simp only [Act.put, List.setIfInBounds_toArray, List.set_cons_zero, List.set_cons_succ, i64_w, i32_w]
        rfl
       exact norm_ (by simp only [putAll, Act.put, List.setIfInBounds_toArray, List.set_cons_zero, List.set_cons_succ] <;> rfl) (hJ6_8 (gb113, gb115) _ ⟨hHeld, BK101.out, BK102.out, BK103.out, BK104.out, BK113.out, BK115.out, GW113.out, GE113.out, NB101_113.out, NB113_101.out, NB102_113.out, NB113_102.out, NB103_113.out, NB113_103.out, NB104_113.out, NB113_104.out, NB115_113.out, NB113_115.out, GW115.out, GE115.out, NB101_115.out, NB115_101.out, NB102_115.out, NB115_102.out, NB103_115.out, NB115_103.out, NB104_115.out, NB115_104.out, HB.out⟩)
      ·skip
       refine box_step ?hg (N := 9) ?hd (cs := #[.slice none 0 0]) (t := 61) ?hr ?_; (case hd => rfl); (case hg => rfl); (case hr => first | (go_simp; done) | (go_simp; rfl))
       intro gb114 hg w50 hbox hb
       have BK114 := Aside0.mk (hbox)
       have GW114 := geN HB.out hg
       have GE114 := geN HB.out hg
       have NB101_114 := neL BK101.out hg
       have NB114_101 := neR BK101.out hg
       have NB102_114 := neL BK102.out hg
       have NB114_102 := neR BK102.out hg
       have NB103_114 := neL BK103.out hg
       have NB114_103 := neR BK103.out hg
       have NB104_114 := neL BK104.out hg
       have NB114_104 := neR BK104.out hg
       have NB115_114 := neL BK115.out hg
       have NB114_115 := neR BK115.out hg
       replace BK101 := Aside0.mk (blk_below BK101.out hb)
       replace BK102 := Aside0.mk (blk_below BK102.out hb)
       replace BK103 := Aside0.mk (blk_below BK103.out hb)
       replace BK104 := Aside0.mk (blk_below BK104.out hb)
       replace BK115 := Aside0.mk (blk_below BK115.out hb)
       replace HB := Aside0.mk (below_step HB.out hb)
       clear hb hbox hg
       refine hK.out _ _ ⟨(blk_cell BK101.out 0).trans rfl, (blk_cell BK101.out 1).trans rfl, (blk_cell BK102.out 0).trans rfl, (blk_cell BK102.out 1).trans rfl⟩ (fun hHeld => ?_)
       clear hK K
       refine norm_ (a' := ?_) ?_ ?_
       rotate_left
       ·show Act.put _ (some 9) _ = _
        simp only [Act.put, List.setIfInBounds_toArray, List.set_cons_zero, List.set_cons_succ, i64_w, i32_w]
        rfl
       exact norm_ (by simp only [putAll, Act.put, List.setIfInBounds_toArray, List.set_cons_zero, List.set_cons_succ] <;> rfl) (hJ7_8 (gb114, gb115) _ ⟨hHeld, BK101.out, BK102.out, BK103.out, BK104.out, BK114.out, BK115.out, GW114.out, GE114.out, NB101_114.out, NB114_101.out, NB102_114.out, NB114_102.out, NB103_114.out, NB114_103.out, NB104_114.out, NB114_104.out, NB115_114.out, NB114_115.out, GW115.out, GE115.out, NB101_115.out, NB115_101.out, NB102_115.out, NB115_102.out, NB103_115.out, NB115_103.out, NB104_115.out, NB115_104.out, HB.out⟩)
def impl_productS.f (k : Nat) (a0_0 : Int) (l0_1 : List (S57)) (a1_0 : Int) (l1_1 : List (S57)) : Option (Int × (List (S57)) × Bool) := impl_productOfS.f k a0_0 l0_1 a1_0 l1_1 0
theorem impl_productS.mono : ∀ a0 a1 a2 a3 k, LeO (impl_productS.f k a0 a1 a2 a3) (impl_productS.f (k + 1) a0 a1 a2 a3) := fun _ _ _ _ _ => impl_productOfS.mono _ _ _ _ _ _
theorem impl_productS.calls (k : Nat) (a0_0 : Int) (A0_1 : Option Addr) (c0_1 : Nat) (l0_1 : List (S57)) (a1_0 : Int) (A1_1 : Option Addr) (c1_1 : Nat) (l1_1 : List (S57)) (r1 : Int) (r2 : List (S57)) (r3 : Bool) (w : World) (hr0_1 : Kd.C k57 w A0_1 l0_1.length l0_1) (hc0_1 : l0_1.length ≤ c0_1) (hr1_1 : Kd.C k57 w A1_1 l1_1.length l1_1) (hc1_1 : l1_1.length ≤ c1_1) (h : impl_productS.f k a0_0 l0_1 a1_0 l1_1 = some (r1, r2, r3)) :
  Calls Try.prog 69 #[.agg #[.int .i64 a0_0, .slice A0_1 l0_1.length c0_1], .agg #[.int .i64 a1_0, .slice A1_1 l1_1.length c1_1], .func (.func 71) #[] #[]] w fun e w' => ∃ v1_ : Value, e = .returned (.tuple #[.agg #[.int .i64 r1, v1_], .bool r3]) ∧ Kd.R k57 57 w' w.heap.size (fun _ => True) v1_ r2 ∧ Below w.heap.size w w' := impl_productOfS.calls k a0_0 A0_1 c0_1 l0_1 a1_0 A1_1 c1_1 l1_1 0 r1 r2 r3 w hr0_1 hc0_1 hr1_1 hc1_1 h

end Go.Proofs.Ytooeemiljeeoaaa.P
