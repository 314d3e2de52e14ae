/- Functions of the program as Lean functions, that each call comes to what they say, and what holds of them; part 4 of 6; no conditions beyond those that each theorem names. -/
import Derived.Test.YteepmbpmhaaonaaK1
import Derived.Test.YteepmbpmhaaonaaK2
import Derived.Test.YteepmbpmhaaonaaK3
namespace Go.Proofs.Yteepmbpmhaaonaa.P
open Go.RowKit Go.Proofs.YteepmbpmhaaonaaW.PrintWords Go.Proofs.YteepmbpmhaaonaaW.PrintLast Go.Proofs.YteepmbpmhaaonaaW.PrintMore
attribute [local go_sem] max2_int min2_int max_two min_two max_three min_three max_four min_four   -- for this text's walks alone
set_option linter.unusedVariables false
set_option linter.unusedSimpArgs false
attribute [local go_sem high] eqA65
/-! ### spec_ToggleEdge: function 22 -/
mutual
def spec_ToggleEdge.j0 : Nat → Int → Int → Bool → Int → List (S65) → Option (Int × (List (S65)) × Bool)
 | 0, _, _, _, _, _ => none
 | k + 1, x1, x2, x30, x102000, x102001 => if x30 = true then (some (0, ([] : List (S65)), false)) else ((spec_l1Least.f x1 x2).bind fun t106 => ((spec_l1Most.f x1 x2).bind fun t107 => (spec_ToggleEdge.l0 k 0 x102000 x102001 t106 t107 x102000 (([] : List (S65))))))
def spec_ToggleEdge.l0 : Nat → Int → Int → List (S65) → Int → Int → Int → List (S65) → Option (Int × (List (S65)) × Bool)
 | 0, _, _, _, _, _, _, _ => none
 | k + 1, x10, x102000, x102001, x112000, x112001, x113000, x113001 => if x10 < (x102001.length : Int) then (if 0 ≤ x10 then (if (!(((rd_T65 x102001 x10).f0) == x112000) || (!(((rd_T65 x102001 x10).f1) == x112001))) = true then (if x113001.length < 8796093022208 then (spec_ToggleEdge.l0 k (wrap64 (x10 + 1)) x102000 x102001 x112000 x112001 x113000 (x113001 ++ [(⟨(rd_T65 x102001 x10).f0, (rd_T65 x102001 x10).f1⟩ : S65)])) else (none)) else (spec_ToggleEdge.l0 k (wrap64 (x10 + 1)) x102000 x102001 x112000 x112001 x113000 x113001)) else (none)) else (if (x113001.length : Int) = (x102001.length : Int) then ((spec_l2Put.f k x113001 x112000 x112001).bind fun t118 => (some (x113000, t118, true))) else (some (x113000, x113001, true)))
end
def spec_ToggleEdge.f (k : Nat) (a0_0 : Int) (l0_1 : List (S65)) (a1 : Int) (a2 : Int) : Option (Int × (List (S65)) × Bool) := (spec_l2Good.f k a0_0 l0_1).bind fun t103 => (if t103 = true then ((spec_l2Node.f a0_0 l0_1 a1).bind fun t104 => (if t104 = true then ((spec_l2Node.f a0_0 l0_1 a2).bind fun t105 => (if t105 = true then (spec_ToggleEdge.j0 k a1 a2 (a1 == a2) a0_0 l0_1) else (spec_ToggleEdge.j0 k a1 a2 true a0_0 l0_1))) else (spec_ToggleEdge.j0 k a1 a2 true a0_0 l0_1))) else (spec_ToggleEdge.j0 k a1 a2 true a0_0 l0_1))
theorem spec_ToggleEdge.mono_l : ∀ k, (∀ y0 y1 y2 y3 y4, LeO (spec_ToggleEdge.j0 k y0 y1 y2 y3 y4) (spec_ToggleEdge.j0 (k + 1) y0 y1 y2 y3 y4)) ∧ (∀ y0 y1 y2 y3 y4 y5 y6, LeO (spec_ToggleEdge.l0 k y0 y1 y2 y3 y4 y5 y6) (spec_ToggleEdge.l0 (k + 1) y0 y1 y2 y3 y4 y5 y6))
 | 0 => ⟨fun _ _ _ _ _ r h => by simp [spec_ToggleEdge.j0] at h, fun _ _ _ _ _ _ _ r h => by simp [spec_ToggleEdge.l0] at h⟩
 | k + 1 => by
  obtain ⟨ih0, ih1⟩ := spec_ToggleEdge.mono_l k; refine ⟨?_, ?_⟩
  all_goals
   intros
   first | unfold spec_ToggleEdge.j0 | unfold spec_ToggleEdge.l0
   repeat' first | (with_reducible first | exact ih0 _ _ _ _ _ | exact ih1 _ _ _ _ _ _ _ | exact spec_l2Good.mono _ _ _ | exact spec_l2Put.mono _ _ _ _ | exact LeO.refl _ | exact LeO.none _ | refine LeO.ite ?_ ?_ | refine LeO.bind ?_ (fun _ => ?_))
theorem spec_ToggleEdge.mono : ∀ a0 a1 a2 a3 k, LeO (spec_ToggleEdge.f k a0 a1 a2 a3) (spec_ToggleEdge.f (k + 1) a0 a1 a2 a3) := by
 intro a0 a1 a2 a3 k
 obtain ⟨ih0, ih1⟩ := spec_ToggleEdge.mono_l k
 unfold spec_ToggleEdge.f
 repeat' first | (with_reducible first | exact ih0 _ _ _ _ _ | exact ih1 _ _ _ _ _ _ _ | exact spec_l2Good.mono _ _ _ | exact spec_l2Put.mono _ _ _ _ | exact LeO.refl _ | exact LeO.none _ | refine LeO.ite ?_ ?_ | refine LeO.bind ?_ (fun _ => ?_))
def spec_ToggleEdge.T3 : Bool × List (List Nat × List Nat) := (true, [([], []), ([], []), ([0, 1], [0, 1]), ([], []), ([], []), ([3, 4, 2], [3, 4]), ([2, 5], [2, 5]), ([], []), ([7], [7]), ([], []), ([8, 9], [8, 9]), ([], []), ([], []), ([11, 6, 5, 0, 1, 2, 3, 4, 5, 6, 11, 12], [6, 11]), ([12, 10, 13, 0, 1, 2, 3, 4, 5, 6, 7, 8, 9, 10, 11, 12, 13], [10, 12])])
def spec_ToggleEdge.B3 : List Nat := [0, 0, 3, 0, 0, 31, 63, 0, 128, 0, 896, 0, 0, 6271, 16383]
theorem spec_ToggleEdge.tab3 : rtab .any (opsOf Try.f22 3) = spec_ToggleEdge.T3 := by kernel_rfl
theorem spec_ToggleEdge.bits3 : waitsOk spec_ToggleEdge.T3.2 spec_ToggleEdge.B3 = true := by kernel_rfl
def spec_ToggleEdge.T8 : Bool × List (List Nat × List Nat) := (true, [([], []), ([0], [0]), ([], []), ([2], [2]), ([], []), ([3, 4], [3, 4]), ([5], [5]), ([6], [6]), ([1, 7], [1, 7]), ([0, 1, 2, 3, 4, 5, 6, 7, 8], []), ([9, 8, 8, 0, 1, 2, 3, 4, 5, 6, 7, 8], [8, 9])])
def spec_ToggleEdge.B8 : List Nat := [0, 1, 0, 4, 0, 28, 60, 124, 255, 511, 1023]
theorem spec_ToggleEdge.tab8 : rtab .any (opsOf Try.f22 8) = spec_ToggleEdge.T8 := by kernel_rfl
theorem spec_ToggleEdge.bits8 : waitsOk spec_ToggleEdge.T8.2 spec_ToggleEdge.B8 = true := by kernel_rfl
set_option maxHeartbeats 8000000 in
set_option maxRecDepth 100000 in
theorem spec_ToggleEdge.calls (k : Nat) (a0_0 : Int) (A0_1 : Option Addr) (c0_1 : Nat) (l0_1 : List (S65)) (a1 : Int) (a2 : Int) (r1 : Int) (r2 : List (S65)) (r3 : Bool) (w : World) (hr0_1 : Kd.C k65 w A0_1 l0_1.length l0_1) (hc0_1 : l0_1.length ≤ c0_1) (h : spec_ToggleEdge.f k a0_0 l0_1 a1 a2 = some (r1, r2, r3)) :
  Calls Try.prog 22 #[.agg #[.int .i64 a0_0, .slice A0_1 l0_1.length c0_1], .int .i64 a1, .int .i64 a2] w fun e w' => ∃ v1_ : Value, e = .returned (.tuple #[.agg #[.int .i64 r1, v1_], .bool r3]) ∧ Kd.R k65 65 w' w.heap.size (fun _ => True) v1_ r2 ∧ Below w.heap.size w w' := by
 have hu29 := Try.underlying29
 have hu65 := Try.underlying65
 have HR0_1 := Aside0.mk hr0_1
 have HC0_1 := Aside0.mk hc0_1
 clear hr0_1 hc0_1
 have HB := am (Below.refl w.heap.size w)
 have H : ((spec_l2Good.f k a0_0 l0_1).bind fun t103 => (if t103 = true then ((spec_l2Node.f a0_0 l0_1 a1).bind fun t104 => (if t104 = true then ((spec_l2Node.f a0_0 l0_1 a2).bind fun t105 => (if t105 = true then (spec_ToggleEdge.j0 k a1 a2 (a1 == a2) a0_0 l0_1) else (spec_ToggleEdge.j0 k a1 a2 true a0_0 l0_1))) else (spec_ToggleEdge.j0 k a1 a2 true a0_0 l0_1))) else (spec_ToggleEdge.j0 k a1 a2 true a0_0 l0_1))) = some (r1, r2, r3) := h
 clear h
 have HU4 := Aside0.mk H
 clear H
 go_enter Try.func22, Try.ntmps22
 go_upto_region 1 with (first | ((with_reducible refine gate_dst (N := 3) rfl ?_); refine box_event ?hg (N := 3) ?hd (cs := #[.int .i64 a0_0, .slice A0_1 l0_1.length c0_1]) (t := 29) ?hr ?_; (case hd => rfl); (case hg => rfl); (case hr => first | (go_simp; done) | (go_simp; rfl)); intro gb101 hg w5 hbox hb; have BK101 := am (hbox); have GW101 := am ((Q25 : w.heap.size ≤ gb101)); have GE101 := am ((Q25 : w.heap.size ≤ gb101)); replace HB := am (below_step (Q1 HB) hb); clear hb hbox hg) | ((with_reducible refine gate_dst (N := 6) rfl ?_); refine box_event ?hg (N := 6) ?hd (cs := #[.int .i64 0, .slice none 0 0]) (t := 29) ?hr ?_; (case hd => rfl); (case hg => rfl); (case hr => first | (go_simp; done) | (go_simp; rfl)); intro gb102 hg w6 hbox hb; have BK102 := am (hbox); have GW102 := am ((Q25 : w.heap.size ≤ gb102)); have GE102 := am ((Q25 : w.heap.size ≤ gb102)); replace HB := am (below_step (Q1 HB) hb); have NB101_102 := am ((Q26 : gb101 ≠ gb102)); have NB102_101 := am ((Q27 : gb102 ≠ gb101)); replace BK101 := am (blk_below (g := gb101) (o := .cells #[.int .i64 a0_0, .slice A0_1 l0_1.length c0_1] 29 (0, 0)) (Q0 BK101) hb); clear hb hbox hg))
 (try simp only [Act.put, List.setIfInBounds_toArray, List.set_cons_zero, List.set_cons_succ])
 have H := HU4.out
 clear HU4
 have HC7 := Aside0.mk H
 clear H
 go_upto_region 1 with (fail)
 go_cut [30] (fun v30 wc => ∃ (kq : Nat) (x30_6 : Bool), v30 = .bool x30_6 ∧ Aside0 (spec_ToggleEdge.j0 kq a1 a2 x30_6 a0_0 l0_1 = some (r1, r2, r3)) ∧ Aside0 (kq ≤ k) ∧ Aside0 (wc.heap[gb101]? = some (.cells #[.int .i64 a0_0, (.slice A0_1 l0_1.length c0_1)] 29 (0, 0))) ∧ Aside0 (wc.heap[gb102]? = some (.cells #[.int .i64 0, (.slice none 0 0)] 29 (0, 0))) ∧ Aside0 (Below w.heap.size w wc))
 case first =>
  have H := HC7.out; clear HC7; replace H := (ob H); obtain ⟨t103, A80, H⟩ := H; (try dsimp only at H); have A8 := Aside0.mk A80; clear A80
  by_cases c9 : t103 = true
  ·subst c9
   have H1 : ((spec_l2Node.f a0_0 l0_1 a1).bind fun t104 => (if t104 = true then ((spec_l2Node.f a0_0 l0_1 a2).bind fun t105 => (if t105 = true then (spec_ToggleEdge.j0 k a1 a2 (a1 == a2) a0_0 l0_1) else (spec_ToggleEdge.j0 k a1 a2 true a0_0 l0_1))) else (spec_ToggleEdge.j0 k a1 a2 true a0_0 l0_1))) = some (r1, r2, r3) := by rw [if_pos rfl] at H; exact H
   clear H; have H := H1; clear H1; replace H := (ob H); obtain ⟨t104, A100, H⟩ := H; (try dsimp only at H); have A10 := Aside0.mk A100; clear A100
   by_cases c11 : t104 = true
   ·subst c11
    have H1 : ((spec_l2Node.f a0_0 l0_1 a2).bind fun t105 => (if t105 = true then (spec_ToggleEdge.j0 k a1 a2 (a1 == a2) a0_0 l0_1) else (spec_ToggleEdge.j0 k a1 a2 true a0_0 l0_1))) = some (r1, r2, r3) := by rw [if_pos rfl] at H; exact H
    clear H; have H := H1; clear H1; replace H := (ob H); obtain ⟨t105, A120, H⟩ := H; (try dsimp only at H); have A12 := Aside0.mk A120; clear A120
    by_cases c13 : t105 = true
    ·subst c13
     have H1 : (spec_ToggleEdge.j0 k a1 a2 (a1 == a2) a0_0 l0_1) = some (r1, r2, r3) := by rw [if_pos rfl] at H; exact H
     clear H; have H := H1; clear H1; have H' := Aside0.mk H; clear H; have hnb14 := NB101_102.out; have hnc14 := NB102_101.out; have hcz15_0 : w6.cell? ⟨gb101, 0, none⟩ = some (.int .i64 a0_0) := (blk_cell BK101.out 0).trans rfl; have hcz15_1 : w6.cell? ⟨gb101, 1, none⟩ = some (.slice A0_1 l0_1.length c0_1) := (blk_cell BK101.out 1).trans rfl; have hfz15_0 := blk_frozen BK101.out 0; have hfz15_1 := blk_frozen BK101.out 1
     go_wp2_with (first | ((with_reducible refine gate_callee (f := 52) rfl ?_); refine goesL_ (some 12) rfl rfl Try.func52 (by kernel_rfl) rfl #[.agg #[.int .i64 a0_0, .slice A0_1 l0_1.length c0_1]] rfl Q4 ?_; (with_reducible refine (spec_l2Good.calls k a0_0 _ _ l0_1 true _ ?side1 ?side2 A8.out).mono ?_); (case side1 => exact (Q7 HR0_1 HB)); (case side2 => exact HC0_1.out); rintro e w16 ⟨rfl, hb⟩; refine ⟨_, rfl, ?_⟩; replace BK101 := am (blk_below (g := gb101) (o := .cells #[.int .i64 a0_0, .slice A0_1 l0_1.length c0_1] 29 (0, 0)) (Q0 BK101) hb); replace BK102 := am (blk_below (g := gb102) (o := .cells #[.int .i64 0, .slice none 0 0] 29 (0, 0)) (Q0 BK102) hb); replace HB := am (below_step (Q1 HB) hb); (try clear hb); (try clear hb2); (try clear hk); (try clear hi); have hcz17_0 : w16.cell? ⟨gb101, 0, none⟩ = some (.int .i64 a0_0) := (blk_cell BK101.out 0).trans rfl; have hcz17_1 : w16.cell? ⟨gb101, 1, none⟩ = some (.slice A0_1 l0_1.length c0_1) := (blk_cell BK101.out 1).trans rfl; have hfz17_0 := blk_frozen BK101.out 0; have hfz17_1 := blk_frozen BK101.out 1) | (go_at_call 58; (with_reducible refine (spec_l2Node.calls a0_0 _ _ l0_1 a1 true _ ?side1 ?side2 A10.out).mono ?_); (case side1 => exact (Q7 HR0_1 HB)); (case side2 => exact HC0_1.out); rintro e w18 ⟨rfl, hb⟩; replace BK101 := am (blk_below (g := gb101) (o := .cells #[.int .i64 a0_0, .slice A0_1 l0_1.length c0_1] 29 (0, 0)) (Q0 BK101) hb); replace BK102 := am (blk_below (g := gb102) (o := .cells #[.int .i64 0, .slice none 0 0] 29 (0, 0)) (Q0 BK102) hb); replace HB := am (below_step (Q1 HB) hb); (try clear hb); (try clear hb2); (try clear hk); (try clear hi); have hcz19_0 : w18.cell? ⟨gb101, 0, none⟩ = some (.int .i64 a0_0) := (blk_cell BK101.out 0).trans rfl; have hcz19_1 : w18.cell? ⟨gb101, 1, none⟩ = some (.slice A0_1 l0_1.length c0_1) := (blk_cell BK101.out 1).trans rfl; have hfz19_0 := blk_frozen BK101.out 0; have hfz19_1 := blk_frozen BK101.out 1) | (go_at_call 58; (with_reducible refine (spec_l2Node.calls a0_0 _ _ l0_1 a2 true _ ?side1 ?side2 A12.out).mono ?_); (case side1 => exact (Q7 HR0_1 HB)); (case side2 => exact HC0_1.out); rintro e w20 ⟨rfl, hb⟩; replace BK101 := am (blk_below (g := gb101) (o := .cells #[.int .i64 a0_0, .slice A0_1 l0_1.length c0_1] 29 (0, 0)) (Q0 BK101) hb); replace BK102 := am (blk_below (g := gb102) (o := .cells #[.int .i64 0, .slice none 0 0] 29 (0, 0)) (Q0 BK102) hb); replace HB := am (below_step (Q1 HB) hb); (try clear hb); (try clear hb2); (try clear hk); (try clear hi)))
     go_meet
     case rel => exact ⟨_, ((a1 == a2)), Q10, H', ⟨Q62⟩, ⟨Q0 BK101⟩, ⟨Q0 BK102⟩, ⟨Q1 HB⟩⟩
    ·replace c13 := Bool.eq_false_iff.mpr c13
     subst c13; have H1 : (spec_ToggleEdge.j0 k a1 a2 true a0_0 l0_1) = some (r1, r2, r3) := by rw [if_neg (show ¬ (false = true) by decide)] at H; exact H
     clear H; have H := H1; clear H1; have H' := Aside0.mk H; clear H; have hnb21 := NB101_102.out; have hnc21 := NB102_101.out; have hcz22_0 : w6.cell? ⟨gb101, 0, none⟩ = some (.int .i64 a0_0) := (blk_cell BK101.out 0).trans rfl; have hcz22_1 : w6.cell? ⟨gb101, 1, none⟩ = some (.slice A0_1 l0_1.length c0_1) := (blk_cell BK101.out 1).trans rfl; have hfz22_0 := blk_frozen BK101.out 0; have hfz22_1 := blk_frozen BK101.out 1
     go_wp2_with (first | ((with_reducible refine gate_callee (f := 52) rfl ?_); refine goesL_ (some 12) rfl rfl Try.func52 (by kernel_rfl) rfl #[.agg #[.int .i64 a0_0, .slice A0_1 l0_1.length c0_1]] rfl Q4 ?_; (with_reducible refine (spec_l2Good.calls k a0_0 _ _ l0_1 true _ ?side1 ?side2 A8.out).mono ?_); (case side1 => exact (Q7 HR0_1 HB)); (case side2 => exact HC0_1.out); rintro e w23 ⟨rfl, hb⟩; refine ⟨_, rfl, ?_⟩; replace BK101 := am (blk_below (g := gb101) (o := .cells #[.int .i64 a0_0, .slice A0_1 l0_1.length c0_1] 29 (0, 0)) (Q0 BK101) hb); replace BK102 := am (blk_below (g := gb102) (o := .cells #[.int .i64 0, .slice none 0 0] 29 (0, 0)) (Q0 BK102) hb); replace HB := am (below_step (Q1 HB) hb); (try clear hb); (try clear hb2); (try clear hk); (try clear hi); have hcz24_0 : w23.cell? ⟨gb101, 0, none⟩ = some (.int .i64 a0_0) := (blk_cell BK101.out 0).trans rfl; have hcz24_1 : w23.cell? ⟨gb101, 1, none⟩ = some (.slice A0_1 l0_1.length c0_1) := (blk_cell BK101.out 1).trans rfl; have hfz24_0 := blk_frozen BK101.out 0; have hfz24_1 := blk_frozen BK101.out 1) | (go_at_call 58; (with_reducible refine (spec_l2Node.calls a0_0 _ _ l0_1 a1 true _ ?side1 ?side2 A10.out).mono ?_); (case side1 => exact (Q7 HR0_1 HB)); (case side2 => exact HC0_1.out); rintro e w25 ⟨rfl, hb⟩; replace BK101 := am (blk_below (g := gb101) (o := .cells #[.int .i64 a0_0, .slice A0_1 l0_1.length c0_1] 29 (0, 0)) (Q0 BK101) hb); replace BK102 := am (blk_below (g := gb102) (o := .cells #[.int .i64 0, .slice none 0 0] 29 (0, 0)) (Q0 BK102) hb); replace HB := am (below_step (Q1 HB) hb); (try clear hb); (try clear hb2); (try clear hk); (try clear hi); have hcz26_0 : w25.cell? ⟨gb101, 0, none⟩ = some (.int .i64 a0_0) := (blk_cell BK101.out 0).trans rfl; have hcz26_1 : w25.cell? ⟨gb101, 1, none⟩ = some (.slice A0_1 l0_1.length c0_1) := (blk_cell BK101.out 1).trans rfl; have hfz26_0 := blk_frozen BK101.out 0; have hfz26_1 := blk_frozen BK101.out 1) | (go_at_call 58; (with_reducible refine (spec_l2Node.calls a0_0 _ _ l0_1 a2 false _ ?side1 ?side2 A12.out).mono ?_); (case side1 => exact (Q7 HR0_1 HB)); (case side2 => exact HC0_1.out); rintro e w27 ⟨rfl, hb⟩; replace BK101 := am (blk_below (g := gb101) (o := .cells #[.int .i64 a0_0, .slice A0_1 l0_1.length c0_1] 29 (0, 0)) (Q0 BK101) hb); replace BK102 := am (blk_below (g := gb102) (o := .cells #[.int .i64 0, .slice none 0 0] 29 (0, 0)) (Q0 BK102) hb); replace HB := am (below_step (Q1 HB) hb); (try clear hb); (try clear hb2); (try clear hk); (try clear hi)))
     go_meet
     case rel => exact ⟨_, (true), Q10, H', ⟨Q62⟩, ⟨Q0 BK101⟩, ⟨Q0 BK102⟩, ⟨Q1 HB⟩⟩
   ·replace c11 := Bool.eq_false_iff.mpr c11
    subst c11; have H1 : (spec_ToggleEdge.j0 k a1 a2 true a0_0 l0_1) = some (r1, r2, r3) := by rw [if_neg (show ¬ (false = true) by decide)] at H; exact H
    clear H; have H := H1; clear H1; have H' := Aside0.mk H; clear H; have hnb28 := NB101_102.out; have hnc28 := NB102_101.out; have hcz29_0 : w6.cell? ⟨gb101, 0, none⟩ = some (.int .i64 a0_0) := (blk_cell BK101.out 0).trans rfl; have hcz29_1 : w6.cell? ⟨gb101, 1, none⟩ = some (.slice A0_1 l0_1.length c0_1) := (blk_cell BK101.out 1).trans rfl; have hfz29_0 := blk_frozen BK101.out 0; have hfz29_1 := blk_frozen BK101.out 1
    go_wp2_with (first | ((with_reducible refine gate_callee (f := 52) rfl ?_); refine goesL_ (some 12) rfl rfl Try.func52 (by kernel_rfl) rfl #[.agg #[.int .i64 a0_0, .slice A0_1 l0_1.length c0_1]] rfl Q4 ?_; (with_reducible refine (spec_l2Good.calls k a0_0 _ _ l0_1 true _ ?side1 ?side2 A8.out).mono ?_); (case side1 => exact (Q7 HR0_1 HB)); (case side2 => exact HC0_1.out); rintro e w30 ⟨rfl, hb⟩; refine ⟨_, rfl, ?_⟩; replace BK101 := am (blk_below (g := gb101) (o := .cells #[.int .i64 a0_0, .slice A0_1 l0_1.length c0_1] 29 (0, 0)) (Q0 BK101) hb); replace BK102 := am (blk_below (g := gb102) (o := .cells #[.int .i64 0, .slice none 0 0] 29 (0, 0)) (Q0 BK102) hb); replace HB := am (below_step (Q1 HB) hb); (try clear hb); (try clear hb2); (try clear hk); (try clear hi); have hcz31_0 : w30.cell? ⟨gb101, 0, none⟩ = some (.int .i64 a0_0) := (blk_cell BK101.out 0).trans rfl; have hcz31_1 : w30.cell? ⟨gb101, 1, none⟩ = some (.slice A0_1 l0_1.length c0_1) := (blk_cell BK101.out 1).trans rfl; have hfz31_0 := blk_frozen BK101.out 0; have hfz31_1 := blk_frozen BK101.out 1) | (go_at_call 58; (with_reducible refine (spec_l2Node.calls a0_0 _ _ l0_1 a1 false _ ?side1 ?side2 A10.out).mono ?_); (case side1 => exact (Q7 HR0_1 HB)); (case side2 => exact HC0_1.out); rintro e w32 ⟨rfl, hb⟩; replace BK101 := am (blk_below (g := gb101) (o := .cells #[.int .i64 a0_0, .slice A0_1 l0_1.length c0_1] 29 (0, 0)) (Q0 BK101) hb); replace BK102 := am (blk_below (g := gb102) (o := .cells #[.int .i64 0, .slice none 0 0] 29 (0, 0)) (Q0 BK102) hb); replace HB := am (below_step (Q1 HB) hb); (try clear hb); (try clear hb2); (try clear hk); (try clear hi)))
    go_meet
    case rel => exact ⟨_, (true), Q10, H', ⟨Q62⟩, ⟨Q0 BK101⟩, ⟨Q0 BK102⟩, ⟨Q1 HB⟩⟩
  ·replace c9 := Bool.eq_false_iff.mpr c9
   subst c9; have H1 : (spec_ToggleEdge.j0 k a1 a2 true a0_0 l0_1) = some (r1, r2, r3) := by rw [if_neg (show ¬ (false = true) by decide)] at H; exact H
   clear H; have H := H1; clear H1; have H' := Aside0.mk H; clear H; have hnb33 := NB101_102.out; have hnc33 := NB102_101.out; have hcz34_0 : w6.cell? ⟨gb101, 0, none⟩ = some (.int .i64 a0_0) := (blk_cell BK101.out 0).trans rfl; have hcz34_1 : w6.cell? ⟨gb101, 1, none⟩ = some (.slice A0_1 l0_1.length c0_1) := (blk_cell BK101.out 1).trans rfl; have hfz34_0 := blk_frozen BK101.out 0; have hfz34_1 := blk_frozen BK101.out 1
   go_wp2_with (first | ((with_reducible refine gate_callee (f := 52) rfl ?_); refine goesL_ (some 12) rfl rfl Try.func52 (by kernel_rfl) rfl #[.agg #[.int .i64 a0_0, .slice A0_1 l0_1.length c0_1]] rfl Q4 ?_; (with_reducible refine (spec_l2Good.calls k a0_0 _ _ l0_1 false _ ?side1 ?side2 A8.out).mono ?_); (case side1 => exact (Q7 HR0_1 HB)); (case side2 => exact HC0_1.out); rintro e w35 ⟨rfl, hb⟩; refine ⟨_, rfl, ?_⟩; replace BK101 := am (blk_below (g := gb101) (o := .cells #[.int .i64 a0_0, .slice A0_1 l0_1.length c0_1] 29 (0, 0)) (Q0 BK101) hb); replace BK102 := am (blk_below (g := gb102) (o := .cells #[.int .i64 0, .slice none 0 0] 29 (0, 0)) (Q0 BK102) hb); replace HB := am (below_step (Q1 HB) hb); (try clear hb); (try clear hb2); (try clear hk); (try clear hi)))
   go_meet
   case rel => exact ⟨_, (true), Q10, H', ⟨Q62⟩, ⟨Q0 BK101⟩, ⟨Q0 BK102⟩, ⟨Q1 HB⟩⟩
 case rest =>
  clear HC7
  try clear c1
  try clear c2
  try clear p2
  try clear c3
  try clear c5
  try clear c9
  try clear c11
  try clear c13
  try clear c14
  try clear c21
  try clear c22
  try clear c28
  try clear c33
  try clear hcz15_0
  try clear hcz15_1
  try clear hcz17_0
  try clear hcz17_1
  try clear hcz19_0
  try clear hcz19_1
  try clear hcz22_0
  try clear hcz22_1
  try clear hcz24_0
  try clear hcz24_1
  try clear hcz26_0
  try clear hcz26_1
  try clear hcz29_0
  try clear hcz29_1
  try clear hcz31_0
  try clear hcz31_1
  try clear hcz34_0
  try clear hcz34_1
  try clear hfz15_0
  try clear hfz15_1
  try clear hfz17_0
  try clear hfz17_1
  try clear hfz19_0
  try clear hfz19_1
  try clear hfz22_0
  try clear hfz22_1
  try clear hfz24_0
  try clear hfz24_1
  try clear hfz26_0
  try clear hfz26_1
  try clear hfz29_0
  try clear hfz29_1
  try clear hfz31_0
  try clear hfz31_1
  try clear hfz34_0
  try clear hfz34_1
  obtain ⟨kq, x30_6, rfl, HA, HJ6, BK101, BK102, HB⟩ := hcut
  cases kq with
  | zero => exact absurd HA.out (by simp [spec_ToggleEdge.j0])
  | succ kj6 =>
   have H := HA.out; clear HA
   simp only [spec_ToggleEdge.j0] at H
   by_cases c36 : x30_6 = true
   ·subst c36
    have H1 : (some (0, ([] : List (S65)), false)) = some (r1, r2, r3) := by rw [if_pos rfl] at H; exact H
    clear H; have H := H1; clear H1
    simp only [Option.some.injEq, Prod.mk.injEq] at H
    obtain ⟨rfl, rfl, rfl⟩ := H; have hnb37 := NB102_101.out; have hnc37 := NB101_102.out; have hcz38_0 : wc.cell? ⟨gb102, 0, none⟩ = some (.int .i64 0) := (blk_cell BK102.out 0).trans rfl; have hcz38_1 : wc.cell? ⟨gb102, 1, none⟩ = some (.slice none 0 0) := (blk_cell BK102.out 1).trans rfl; have hfz38_0 := blk_frozen BK102.out 0; have hfz38_1 := blk_frozen BK102.out 1
    go_wp2
    refine bodyPost_ret (results_ct rfl _ _ gb102 29 #[.int .i64 0, .slice none 0 0] (0, 0) _ rfl (Q47 BK102) Try.underlying29 rfl (by kernel_rfl)) rfl ?_; exact ⟨_, Q9, by first | exact Kd.R_nil _ _ _ _ _ | exact Kd.N_nil _ _ _ _ _ | exact Kd.V_nil _ _ _ _ _ | exact Kd.Q_nil _ _ _ _ _ | exact Kd.S_nil _ _ _ _ _, Q6 HB GE102⟩
   ·replace c36 := Bool.eq_false_iff.mpr c36
    subst c36; have H1 : ((spec_l1Least.f a1 a2).bind fun t106 => ((spec_l1Most.f a1 a2).bind fun t107 => (spec_ToggleEdge.l0 kj6 0 a0_0 l0_1 t106 t107 a0_0 (([] : List (S65)))))) = some (r1, r2, r3) := by rw [if_neg (show ¬ (false = true) by decide)] at H; exact H
    clear H; have H := H1; clear H1; replace H := (ob H); obtain ⟨t106, A390, H⟩ := H; (try dsimp only at H); have A39 := Aside0.mk A390; clear A390; replace H := (ob H); obtain ⟨t107, A400, H⟩ := H; (try dsimp only at H); have A40 := Aside0.mk A400; clear A400; obtain ⟨y108, hy108⟩ : ∃ y_ : List (S65), y_ = (([] : List (S65))) := ⟨_, rfl⟩; replace H : (spec_ToggleEdge.l0 kj6 0 a0_0 l0_1 t106 t107 a0_0 y108) = some (r1, r2, r3) := RH hy108 H; have Ny108 := Aside0.mk hy108; clear hy108; have H' := Aside0.mk H; clear H
    try go_wp2
    replace BK101 := am (blk_drew BK101.out); replace BK102 := am (blk_drew BK102.out); replace HB := am (below_drew1 HB.out); refine start_ (n := 15) (S := fun w' => w'.cell? ⟨gb101, 0, none⟩ = some (.int .i64 a0_0) ∧ w'.cell? ⟨gb101, 1, none⟩ = some (.slice A0_1 l0_1.length c0_1)) (ds := []) #[false, false, false, false, false, false, false, false, false, false, false, false, false, false, false] (by kernel_rfl) rfl rfl ⟨(blk_cell BK101.out 0).trans rfl, (blk_cell BK101.out 1).trans rfl⟩ (fun hHeld => ?_); refine with_tabW spec_ToggleEdge.tab3 spec_ToggleEdge.bits3 (fun HT_ HW_ => ?_); generalize wc.drew = w41 at BK101 BK102 HB hHeld ⊢; refine pq 0 32 rfl rfl HT_ ?_; refine pq 1 33 rfl rfl HT_ ?_; refine pq 3 35 rfl rfl HT_ ?_; refine pq 4 36 rfl rfl HT_ ?_; refine pq 7 39 rfl rfl HT_ ?_; refine tq2 8 40 rfl rfl HT_ HW_ hHeld ?_; refine join_ (σ := Value × Nat × Nat) 1 #[true, true, true, true, true, true, true, true, true, true, true, true, true, true, false] (fun s_ => [(34, .int .i64 t106), (37, .int .i64 t107), (41, s_.1), (8, .pointer (some ⟨s_.2.1, 0, none⟩)), (9, .pointer (some ⟨s_.2.2, 0, none⟩)), (38, .agg #[.int .i64 t106, .int .i64 t107]), (42, .agg #[.int .i64 a0_0, s_.1])]) (fun s_ w' => (w'.cell? ⟨gb101, 0, none⟩ = some (.int .i64 a0_0) ∧ w'.cell? ⟨gb101, 1, none⟩ = some (.slice A0_1 l0_1.length c0_1)) ∧ (Kd.R k65 65 w' w.heap.size (fun k_ => k_ ≠ s_.2.1) s_.1 y108) ∧ (w'.heap[gb101]? = some (.cells #[.int .i64 a0_0, .slice A0_1 l0_1.length c0_1] 29 (0, 0))) ∧ (w'.heap[gb102]? = some (.cells #[.int .i64 0, .slice none 0 0] 29 (0, 0))) ∧ (w'.heap[s_.2.1]? = some (.cells #[.int .i64 t106, .int .i64 t107] 65 (0, 0))) ∧ (w'.heap[s_.2.2]? = some (.cells #[.int .i64 0, .slice none 0 0] 29 (0, 0))) ∧ (w.heap.size ≤ s_.2.1) ∧ (w.heap.size ≤ s_.2.1) ∧ (gb101 ≠ s_.2.1) ∧ (s_.2.1 ≠ gb101) ∧ (gb102 ≠ s_.2.1) ∧ (s_.2.1 ≠ gb102) ∧ (s_.2.2 ≠ s_.2.1) ∧ (s_.2.1 ≠ s_.2.2) ∧ (w.heap.size ≤ s_.2.2) ∧ (w.heap.size ≤ s_.2.2) ∧ (gb101 ≠ s_.2.2) ∧ (s_.2.2 ≠ gb101) ∧ (gb102 ≠ s_.2.2) ∧ (s_.2.2 ≠ gb102) ∧ (Below w.heap.size w w')) ?_ ?_
    rotate_left
    ·intro hJ2_5_9_11_12_13
     refine join_ (σ := Value × Nat × Nat) 2 #[true, true, true, true, true, true, true, true, true, true, true, true, true, false, false] (fun s_ => [(34, .int .i64 t106), (37, .int .i64 t107), (41, s_.1), (8, .pointer (some ⟨s_.2.1, 0, none⟩)), (9, .pointer (some ⟨s_.2.2, 0, none⟩)), (38, .agg #[.int .i64 t106, .int .i64 t107]), (42, .agg #[.int .i64 a0_0, s_.1])]) (fun s_ w' => (w'.cell? ⟨gb101, 0, none⟩ = some (.int .i64 a0_0) ∧ w'.cell? ⟨gb101, 1, none⟩ = some (.slice A0_1 l0_1.length c0_1)) ∧ (Kd.R k65 65 w' w.heap.size (fun k_ => k_ ≠ s_.2.1) s_.1 y108) ∧ (w'.heap[gb101]? = some (.cells #[.int .i64 a0_0, .slice A0_1 l0_1.length c0_1] 29 (0, 0))) ∧ (w'.heap[gb102]? = some (.cells #[.int .i64 0, .slice none 0 0] 29 (0, 0))) ∧ (w'.heap[s_.2.1]? = some (.cells #[.int .i64 0, .int .i64 0] 65 (0, 0))) ∧ (w'.heap[s_.2.2]? = some (.cells #[.int .i64 0, .slice none 0 0] 29 (0, 0))) ∧ (w.heap.size ≤ s_.2.1) ∧ (w.heap.size ≤ s_.2.1) ∧ (gb101 ≠ s_.2.1) ∧ (s_.2.1 ≠ gb101) ∧ (gb102 ≠ s_.2.1) ∧ (s_.2.1 ≠ gb102) ∧ (s_.2.2 ≠ s_.2.1) ∧ (s_.2.1 ≠ s_.2.2) ∧ (w.heap.size ≤ s_.2.2) ∧ (w.heap.size ≤ s_.2.2) ∧ (gb101 ≠ s_.2.2) ∧ (s_.2.2 ≠ gb101) ∧ (gb102 ≠ s_.2.2) ∧ (s_.2.2 ≠ gb102) ∧ (Below w.heap.size w w')) ?_ ?_
     rotate_left
     ·intro hJ2_5_9_11_12
      refine join_ (σ := Nat × Nat) 3 #[true, true, true, true, true, true, true, true, true, false, false, true, true, true, false] (fun s_ => [(34, .int .i64 t106), (37, .int .i64 t107), (8, .pointer (some ⟨s_.1, 0, none⟩)), (9, .pointer (some ⟨s_.2, 0, none⟩)), (38, .agg #[.int .i64 t106, .int .i64 t107])]) (fun s_ w' => (w'.cell? ⟨gb101, 0, none⟩ = some (.int .i64 a0_0) ∧ w'.cell? ⟨gb101, 1, none⟩ = some (.slice A0_1 l0_1.length c0_1)) ∧ (w'.heap[gb101]? = some (.cells #[.int .i64 a0_0, .slice A0_1 l0_1.length c0_1] 29 (0, 0))) ∧ (w'.heap[gb102]? = some (.cells #[.int .i64 0, .slice none 0 0] 29 (0, 0))) ∧ (w'.heap[s_.1]? = some (.cells #[.int .i64 t106, .int .i64 t107] 65 (0, 0))) ∧ (w'.heap[s_.2]? = some (.cells #[.int .i64 0, .slice none 0 0] 29 (0, 0))) ∧ (w.heap.size ≤ s_.1) ∧ (w.heap.size ≤ s_.1) ∧ (gb101 ≠ s_.1) ∧ (s_.1 ≠ gb101) ∧ (gb102 ≠ s_.1) ∧ (s_.1 ≠ gb102) ∧ (s_.2 ≠ s_.1) ∧ (s_.1 ≠ s_.2) ∧ (w.heap.size ≤ s_.2) ∧ (w.heap.size ≤ s_.2) ∧ (gb101 ≠ s_.2) ∧ (s_.2 ≠ gb101) ∧ (gb102 ≠ s_.2) ∧ (s_.2 ≠ gb102) ∧ (Below w.heap.size w w')) ?_ ?_
      rotate_left
      ·intro hJ2_5_11_12_13
       refine join_ (σ := Value × Nat) 3 #[true, true, true, true, true, true, true, true, true, true, true, true, false, false, false] (fun s_ => [(34, .int .i64 t106), (37, .int .i64 t107), (41, s_.1), (8, .pointer (some ⟨s_.2, 0, none⟩)), (38, .agg #[.int .i64 t106, .int .i64 t107]), (42, .agg #[.int .i64 a0_0, s_.1])]) (fun s_ w' => (w'.cell? ⟨gb101, 0, none⟩ = some (.int .i64 a0_0) ∧ w'.cell? ⟨gb101, 1, none⟩ = some (.slice A0_1 l0_1.length c0_1)) ∧ (Kd.R k65 65 w' w.heap.size (fun k_ => k_ ≠ s_.2) s_.1 y108) ∧ (w'.heap[gb101]? = some (.cells #[.int .i64 a0_0, .slice A0_1 l0_1.length c0_1] 29 (0, 0))) ∧ (w'.heap[gb102]? = some (.cells #[.int .i64 0, .slice none 0 0] 29 (0, 0))) ∧ (w'.heap[s_.2]? = some (.cells #[.int .i64 0, .int .i64 0] 65 (0, 0))) ∧ (w.heap.size ≤ s_.2) ∧ (w.heap.size ≤ s_.2) ∧ (gb101 ≠ s_.2) ∧ (s_.2 ≠ gb101) ∧ (gb102 ≠ s_.2) ∧ (s_.2 ≠ gb102) ∧ (Below w.heap.size w w')) ?_ ?_
       rotate_left
       ·intro hJ2_5_9_11
        refine join_ (σ := Value × Nat) 3 #[true, true, true, true, true, true, true, true, true, true, true, false, true, false, false] (fun s_ => [(34, .int .i64 t106), (37, .int .i64 t107), (41, s_.1), (9, .pointer (some ⟨s_.2, 0, none⟩)), (38, .agg #[.int .i64 t106, .int .i64 t107]), (42, .agg #[.int .i64 a0_0, s_.1])]) (fun s_ w' => (w'.cell? ⟨gb101, 0, none⟩ = some (.int .i64 a0_0) ∧ w'.cell? ⟨gb101, 1, none⟩ = some (.slice A0_1 l0_1.length c0_1)) ∧ (Kd.R k65 65 w' w.heap.size (fun _ => True) s_.1 y108) ∧ (w'.heap[gb101]? = some (.cells #[.int .i64 a0_0, .slice A0_1 l0_1.length c0_1] 29 (0, 0))) ∧ (w'.heap[gb102]? = some (.cells #[.int .i64 0, .slice none 0 0] 29 (0, 0))) ∧ (w'.heap[s_.2]? = some (.cells #[.int .i64 0, .slice none 0 0] 29 (0, 0))) ∧ (w.heap.size ≤ s_.2) ∧ (w.heap.size ≤ s_.2) ∧ (gb101 ≠ s_.2) ∧ (s_.2 ≠ gb101) ∧ (gb102 ≠ s_.2) ∧ (s_.2 ≠ gb102) ∧ (Below w.heap.size w w')) ?_ ?_
        rotate_left
        ·intro hJ2_5_9_12
         refine join_ (σ := Nat × Nat) 4 #[true, true, true, true, true, true, true, true, true, false, false, true, true, false, false] (fun s_ => [(34, .int .i64 t106), (37, .int .i64 t107), (8, .pointer (some ⟨s_.1, 0, none⟩)), (9, .pointer (some ⟨s_.2, 0, none⟩)), (38, .agg #[.int .i64 t106, .int .i64 t107])]) (fun s_ w' => (w'.cell? ⟨gb101, 0, none⟩ = some (.int .i64 a0_0) ∧ w'.cell? ⟨gb101, 1, none⟩ = some (.slice A0_1 l0_1.length c0_1)) ∧ (w'.heap[gb101]? = some (.cells #[.int .i64 a0_0, .slice A0_1 l0_1.length c0_1] 29 (0, 0))) ∧ (w'.heap[gb102]? = some (.cells #[.int .i64 0, .slice none 0 0] 29 (0, 0))) ∧ (w'.heap[s_.1]? = some (.cells #[.int .i64 0, .int .i64 0] 65 (0, 0))) ∧ (w'.heap[s_.2]? = some (.cells #[.int .i64 0, .slice none 0 0] 29 (0, 0))) ∧ (w.heap.size ≤ s_.1) ∧ (w.heap.size ≤ s_.1) ∧ (gb101 ≠ s_.1) ∧ (s_.1 ≠ gb101) ∧ (gb102 ≠ s_.1) ∧ (s_.1 ≠ gb102) ∧ (s_.2 ≠ s_.1) ∧ (s_.1 ≠ s_.2) ∧ (w.heap.size ≤ s_.2) ∧ (w.heap.size ≤ s_.2) ∧ (gb101 ≠ s_.2) ∧ (s_.2 ≠ gb101) ∧ (gb102 ≠ s_.2) ∧ (s_.2 ≠ gb102) ∧ (Below w.heap.size w w')) ?_ ?_
         rotate_left
         ·intro hJ2_5_11_12
          refine join_ (σ := Value × Nat × Nat) 4 #[true, true, true, true, true, false, false, true, true, true, true, true, true, false, false] (fun s_ => [(34, .int .i64 t106), (41, s_.1), (8, .pointer (some ⟨s_.2.1, 0, none⟩)), (9, .pointer (some ⟨s_.2.2, 0, none⟩)), (42, .agg #[.int .i64 a0_0, s_.1])]) (fun s_ w' => (w'.cell? ⟨gb101, 0, none⟩ = some (.int .i64 a0_0) ∧ w'.cell? ⟨gb101, 1, none⟩ = some (.slice A0_1 l0_1.length c0_1)) ∧ (Kd.R k65 65 w' w.heap.size (fun k_ => k_ ≠ s_.2.1) s_.1 y108) ∧ (w'.heap[gb101]? = some (.cells #[.int .i64 a0_0, .slice A0_1 l0_1.length c0_1] 29 (0, 0))) ∧ (w'.heap[gb102]? = some (.cells #[.int .i64 0, .slice none 0 0] 29 (0, 0))) ∧ (w'.heap[s_.2.1]? = some (.cells #[.int .i64 0, .int .i64 0] 65 (0, 0))) ∧ (w'.heap[s_.2.2]? = some (.cells #[.int .i64 0, .slice none 0 0] 29 (0, 0))) ∧ (w.heap.size ≤ s_.2.1) ∧ (w.heap.size ≤ s_.2.1) ∧ (gb101 ≠ s_.2.1) ∧ (s_.2.1 ≠ gb101) ∧ (gb102 ≠ s_.2.1) ∧ (s_.2.1 ≠ gb102) ∧ (s_.2.2 ≠ s_.2.1) ∧ (s_.2.1 ≠ s_.2.2) ∧ (w.heap.size ≤ s_.2.2) ∧ (w.heap.size ≤ s_.2.2) ∧ (gb101 ≠ s_.2.2) ∧ (s_.2.2 ≠ gb101) ∧ (gb102 ≠ s_.2.2) ∧ (s_.2.2 ≠ gb102) ∧ (Below w.heap.size w w')) ?_ ?_
          rotate_left
          ·intro hJ2_9_11_12
           refine join_ (σ := Value) 4 #[true, true, true, true, true, true, true, true, true, true, true, false, false, false, false] (fun s_ => [(34, .int .i64 t106), (37, .int .i64 t107), (41, s_), (38, .agg #[.int .i64 t106, .int .i64 t107]), (42, .agg #[.int .i64 a0_0, s_])]) (fun s_ w' => (w'.cell? ⟨gb101, 0, none⟩ = some (.int .i64 a0_0) ∧ w'.cell? ⟨gb101, 1, none⟩ = some (.slice A0_1 l0_1.length c0_1)) ∧ (Kd.R k65 65 w' w.heap.size (fun _ => True) s_ y108) ∧ (w'.heap[gb101]? = some (.cells #[.int .i64 a0_0, .slice A0_1 l0_1.length c0_1] 29 (0, 0))) ∧ (w'.heap[gb102]? = some (.cells #[.int .i64 0, .slice none 0 0] 29 (0, 0))) ∧ (Below w.heap.size w w')) ?_ ?_
           rotate_left
           ·intro hJ2_5_9
            refine join_ (σ := Nat) 5 #[true, true, true, true, true, true, true, true, true, false, false, true, false, false, false] (fun s_ => [(34, .int .i64 t106), (37, .int .i64 t107), (8, .pointer (some ⟨s_, 0, none⟩)), (38, .agg #[.int .i64 t106, .int .i64 t107])]) (fun s_ w' => (w'.cell? ⟨gb101, 0, none⟩ = some (.int .i64 a0_0) ∧ w'.cell? ⟨gb101, 1, none⟩ = some (.slice A0_1 l0_1.length c0_1)) ∧ (w'.heap[gb101]? = some (.cells #[.int .i64 a0_0, .slice A0_1 l0_1.length c0_1] 29 (0, 0))) ∧ (w'.heap[gb102]? = some (.cells #[.int .i64 0, .slice none 0 0] 29 (0, 0))) ∧ (w'.heap[s_]? = some (.cells #[.int .i64 0, .int .i64 0] 65 (0, 0))) ∧ (w.heap.size ≤ s_) ∧ (w.heap.size ≤ s_) ∧ (gb101 ≠ s_) ∧ (s_ ≠ gb101) ∧ (gb102 ≠ s_) ∧ (s_ ≠ gb102) ∧ (Below w.heap.size w w')) ?_ ?_
            rotate_left
            ·intro hJ2_5_11
             refine join_ (σ := Nat) 5 #[true, true, true, true, true, true, true, true, true, false, false, false, true, false, false] (fun s_ => [(34, .int .i64 t106), (37, .int .i64 t107), (9, .pointer (some ⟨s_, 0, none⟩)), (38, .agg #[.int .i64 t106, .int .i64 t107])]) (fun s_ w' => (w'.cell? ⟨gb101, 0, none⟩ = some (.int .i64 a0_0) ∧ w'.cell? ⟨gb101, 1, none⟩ = some (.slice A0_1 l0_1.length c0_1)) ∧ (w'.heap[gb101]? = some (.cells #[.int .i64 a0_0, .slice A0_1 l0_1.length c0_1] 29 (0, 0))) ∧ (w'.heap[gb102]? = some (.cells #[.int .i64 0, .slice none 0 0] 29 (0, 0))) ∧ (w'.heap[s_]? = some (.cells #[.int .i64 0, .slice none 0 0] 29 (0, 0))) ∧ (w.heap.size ≤ s_) ∧ (w.heap.size ≤ s_) ∧ (gb101 ≠ s_) ∧ (s_ ≠ gb101) ∧ (gb102 ≠ s_) ∧ (s_ ≠ gb102) ∧ (Below w.heap.size w w')) ?_ ?_
             rotate_left
             ·intro hJ2_5_12
              refine join_ (σ := Value × Nat) 5 #[true, true, true, true, true, false, false, true, true, true, true, true, false, false, false] (fun s_ => [(34, .int .i64 t106), (41, s_.1), (8, .pointer (some ⟨s_.2, 0, none⟩)), (42, .agg #[.int .i64 a0_0, s_.1])]) (fun s_ w' => (w'.cell? ⟨gb101, 0, none⟩ = some (.int .i64 a0_0) ∧ w'.cell? ⟨gb101, 1, none⟩ = some (.slice A0_1 l0_1.length c0_1)) ∧ (Kd.R k65 65 w' w.heap.size (fun k_ => k_ ≠ s_.2) s_.1 y108) ∧ (w'.heap[gb101]? = some (.cells #[.int .i64 a0_0, .slice A0_1 l0_1.length c0_1] 29 (0, 0))) ∧ (w'.heap[gb102]? = some (.cells #[.int .i64 0, .slice none 0 0] 29 (0, 0))) ∧ (w'.heap[s_.2]? = some (.cells #[.int .i64 0, .int .i64 0] 65 (0, 0))) ∧ (w.heap.size ≤ s_.2) ∧ (w.heap.size ≤ s_.2) ∧ (gb101 ≠ s_.2) ∧ (s_.2 ≠ gb101) ∧ (gb102 ≠ s_.2) ∧ (s_.2 ≠ gb102) ∧ (Below w.heap.size w w')) ?_ ?_
              rotate_left
              ·intro hJ2_9_11
               refine join_ (σ := Value × Nat) 5 #[true, true, true, true, true, false, false, true, true, true, true, false, true, false, false] (fun s_ => [(34, .int .i64 t106), (41, s_.1), (9, .pointer (some ⟨s_.2, 0, none⟩)), (42, .agg #[.int .i64 a0_0, s_.1])]) (fun s_ w' => (w'.cell? ⟨gb101, 0, none⟩ = some (.int .i64 a0_0) ∧ w'.cell? ⟨gb101, 1, none⟩ = some (.slice A0_1 l0_1.length c0_1)) ∧ (Kd.R k65 65 w' w.heap.size (fun _ => True) s_.1 y108) ∧ (w'.heap[gb101]? = some (.cells #[.int .i64 a0_0, .slice A0_1 l0_1.length c0_1] 29 (0, 0))) ∧ (w'.heap[gb102]? = some (.cells #[.int .i64 0, .slice none 0 0] 29 (0, 0))) ∧ (w'.heap[s_.2]? = some (.cells #[.int .i64 0, .slice none 0 0] 29 (0, 0))) ∧ (w.heap.size ≤ s_.2) ∧ (w.heap.size ≤ s_.2) ∧ (gb101 ≠ s_.2) ∧ (s_.2 ≠ gb101) ∧ (gb102 ≠ s_.2) ∧ (s_.2 ≠ gb102) ∧ (Below w.heap.size w w')) ?_ ?_
               rotate_left
               ·intro hJ2_9_12
                refine join_ (σ := Nat × Nat) 6 #[true, true, true, true, true, false, false, true, true, false, false, true, true, false, false] (fun s_ => [(34, .int .i64 t106), (8, .pointer (some ⟨s_.1, 0, none⟩)), (9, .pointer (some ⟨s_.2, 0, none⟩))]) (fun s_ w' => (w'.cell? ⟨gb101, 0, none⟩ = some (.int .i64 a0_0) ∧ w'.cell? ⟨gb101, 1, none⟩ = some (.slice A0_1 l0_1.length c0_1)) ∧ (w'.heap[gb101]? = some (.cells #[.int .i64 a0_0, .slice A0_1 l0_1.length c0_1] 29 (0, 0))) ∧ (w'.heap[gb102]? = some (.cells #[.int .i64 0, .slice none 0 0] 29 (0, 0))) ∧ (w'.heap[s_.1]? = some (.cells #[.int .i64 0, .int .i64 0] 65 (0, 0))) ∧ (w'.heap[s_.2]? = some (.cells #[.int .i64 0, .slice none 0 0] 29 (0, 0))) ∧ (w.heap.size ≤ s_.1) ∧ (w.heap.size ≤ s_.1) ∧ (gb101 ≠ s_.1) ∧ (s_.1 ≠ gb101) ∧ (gb102 ≠ s_.1) ∧ (s_.1 ≠ gb102) ∧ (s_.2 ≠ s_.1) ∧ (s_.1 ≠ s_.2) ∧ (w.heap.size ≤ s_.2) ∧ (w.heap.size ≤ s_.2) ∧ (gb101 ≠ s_.2) ∧ (s_.2 ≠ gb101) ∧ (gb102 ≠ s_.2) ∧ (s_.2 ≠ gb102) ∧ (Below w.heap.size w w')) ?_ ?_
                rotate_left
                ·intro hJ2_11_12
                 refine join_ (σ := Value × Nat × Nat) 5 #[true, true, false, true, true, false, false, true, true, true, true, true, true, false, false] (fun s_ => [(41, s_.1), (8, .pointer (some ⟨s_.2.1, 0, none⟩)), (9, .pointer (some ⟨s_.2.2, 0, none⟩)), (42, .agg #[.int .i64 a0_0, s_.1])]) (fun s_ w' => (w'.cell? ⟨gb101, 0, none⟩ = some (.int .i64 a0_0) ∧ w'.cell? ⟨gb101, 1, none⟩ = some (.slice A0_1 l0_1.length c0_1)) ∧ (Kd.R k65 65 w' w.heap.size (fun k_ => k_ ≠ s_.2.1) s_.1 y108) ∧ (w'.heap[gb101]? = some (.cells #[.int .i64 a0_0, .slice A0_1 l0_1.length c0_1] 29 (0, 0))) ∧ (w'.heap[gb102]? = some (.cells #[.int .i64 0, .slice none 0 0] 29 (0, 0))) ∧ (w'.heap[s_.2.1]? = some (.cells #[.int .i64 0, .int .i64 0] 65 (0, 0))) ∧ (w'.heap[s_.2.2]? = some (.cells #[.int .i64 0, .slice none 0 0] 29 (0, 0))) ∧ (w.heap.size ≤ s_.2.1) ∧ (w.heap.size ≤ s_.2.1) ∧ (gb101 ≠ s_.2.1) ∧ (s_.2.1 ≠ gb101) ∧ (gb102 ≠ s_.2.1) ∧ (s_.2.1 ≠ gb102) ∧ (s_.2.2 ≠ s_.2.1) ∧ (s_.2.1 ≠ s_.2.2) ∧ (w.heap.size ≤ s_.2.2) ∧ (w.heap.size ≤ s_.2.2) ∧ (gb101 ≠ s_.2.2) ∧ (s_.2.2 ≠ gb101) ∧ (gb102 ≠ s_.2.2) ∧ (s_.2.2 ≠ gb102) ∧ (Below w.heap.size w w')) ?_ ?_
                 rotate_left
                 ·intro hJ9_11_12
                  refine join_ (σ := Unit) 6 #[true, true, true, true, true, true, true, true, true, false, false, false, false, false, false] (fun s_ => [(34, .int .i64 t106), (37, .int .i64 t107), (38, .agg #[.int .i64 t106, .int .i64 t107])]) (fun s_ w' => (w'.cell? ⟨gb101, 0, none⟩ = some (.int .i64 a0_0) ∧ w'.cell? ⟨gb101, 1, none⟩ = some (.slice A0_1 l0_1.length c0_1)) ∧ (w'.heap[gb101]? = some (.cells #[.int .i64 a0_0, .slice A0_1 l0_1.length c0_1] 29 (0, 0))) ∧ (w'.heap[gb102]? = some (.cells #[.int .i64 0, .slice none 0 0] 29 (0, 0))) ∧ (Below w.heap.size w w')) ?_ ?_
                  rotate_left
                  ·intro hJ2_5
                   refine join_ (σ := Value) 6 #[true, true, true, true, true, false, false, true, true, true, true, false, false, false, false] (fun s_ => [(34, .int .i64 t106), (41, s_), (42, .agg #[.int .i64 a0_0, s_])]) (fun s_ w' => (w'.cell? ⟨gb101, 0, none⟩ = some (.int .i64 a0_0) ∧ w'.cell? ⟨gb101, 1, none⟩ = some (.slice A0_1 l0_1.length c0_1)) ∧ (Kd.R k65 65 w' w.heap.size (fun _ => True) s_ y108) ∧ (w'.heap[gb101]? = some (.cells #[.int .i64 a0_0, .slice A0_1 l0_1.length c0_1] 29 (0, 0))) ∧ (w'.heap[gb102]? = some (.cells #[.int .i64 0, .slice none 0 0] 29 (0, 0))) ∧ (Below w.heap.size w w')) ?_ ?_
                   rotate_left
                   ·intro hJ2_9
                    refine join_ (σ := Nat) 7 #[true, true, true, true, true, false, false, true, true, false, false, true, false, false, false] (fun s_ => [(34, .int .i64 t106), (8, .pointer (some ⟨s_, 0, none⟩))]) (fun s_ w' => (w'.cell? ⟨gb101, 0, none⟩ = some (.int .i64 a0_0) ∧ w'.cell? ⟨gb101, 1, none⟩ = some (.slice A0_1 l0_1.length c0_1)) ∧ (w'.heap[gb101]? = some (.cells #[.int .i64 a0_0, .slice A0_1 l0_1.length c0_1] 29 (0, 0))) ∧ (w'.heap[gb102]? = some (.cells #[.int .i64 0, .slice none 0 0] 29 (0, 0))) ∧ (w'.heap[s_]? = some (.cells #[.int .i64 0, .int .i64 0] 65 (0, 0))) ∧ (w.heap.size ≤ s_) ∧ (w.heap.size ≤ s_) ∧ (gb101 ≠ s_) ∧ (s_ ≠ gb101) ∧ (gb102 ≠ s_) ∧ (s_ ≠ gb102) ∧ (Below w.heap.size w w')) ?_ ?_
                    rotate_left
                    ·intro hJ2_11
                     refine join_ (σ := Nat) 7 #[true, true, true, true, true, false, false, true, true, false, false, false, true, false, false] (fun s_ => [(34, .int .i64 t106), (9, .pointer (some ⟨s_, 0, none⟩))]) (fun s_ w' => (w'.cell? ⟨gb101, 0, none⟩ = some (.int .i64 a0_0) ∧ w'.cell? ⟨gb101, 1, none⟩ = some (.slice A0_1 l0_1.length c0_1)) ∧ (w'.heap[gb101]? = some (.cells #[.int .i64 a0_0, .slice A0_1 l0_1.length c0_1] 29 (0, 0))) ∧ (w'.heap[gb102]? = some (.cells #[.int .i64 0, .slice none 0 0] 29 (0, 0))) ∧ (w'.heap[s_]? = some (.cells #[.int .i64 0, .slice none 0 0] 29 (0, 0))) ∧ (w.heap.size ≤ s_) ∧ (w.heap.size ≤ s_) ∧ (gb101 ≠ s_) ∧ (s_ ≠ gb101) ∧ (gb102 ≠ s_) ∧ (s_ ≠ gb102) ∧ (Below w.heap.size w w')) ?_ ?_
                     rotate_left
                     ·intro hJ2_12
                      refine join_ (σ := Value × Nat) 6 #[true, true, false, true, true, false, false, true, true, true, true, true, false, false, false] (fun s_ => [(41, s_.1), (8, .pointer (some ⟨s_.2, 0, none⟩)), (42, .agg #[.int .i64 a0_0, s_.1])]) (fun s_ w' => (w'.cell? ⟨gb101, 0, none⟩ = some (.int .i64 a0_0) ∧ w'.cell? ⟨gb101, 1, none⟩ = some (.slice A0_1 l0_1.length c0_1)) ∧ (Kd.R k65 65 w' w.heap.size (fun k_ => k_ ≠ s_.2) s_.1 y108) ∧ (w'.heap[gb101]? = some (.cells #[.int .i64 a0_0, .slice A0_1 l0_1.length c0_1] 29 (0, 0))) ∧ (w'.heap[gb102]? = some (.cells #[.int .i64 0, .slice none 0 0] 29 (0, 0))) ∧ (w'.heap[s_.2]? = some (.cells #[.int .i64 0, .int .i64 0] 65 (0, 0))) ∧ (w.heap.size ≤ s_.2) ∧ (w.heap.size ≤ s_.2) ∧ (gb101 ≠ s_.2) ∧ (s_.2 ≠ gb101) ∧ (gb102 ≠ s_.2) ∧ (s_.2 ≠ gb102) ∧ (Below w.heap.size w w')) ?_ ?_
                      rotate_left
                      ·intro hJ9_11
                       refine join_ (σ := Value × Nat) 6 #[true, true, false, true, true, false, false, true, true, true, true, false, true, false, false] (fun s_ => [(41, s_.1), (9, .pointer (some ⟨s_.2, 0, none⟩)), (42, .agg #[.int .i64 a0_0, s_.1])]) (fun s_ w' => (w'.cell? ⟨gb101, 0, none⟩ = some (.int .i64 a0_0) ∧ w'.cell? ⟨gb101, 1, none⟩ = some (.slice A0_1 l0_1.length c0_1)) ∧ (Kd.R k65 65 w' w.heap.size (fun _ => True) s_.1 y108) ∧ (w'.heap[gb101]? = some (.cells #[.int .i64 a0_0, .slice A0_1 l0_1.length c0_1] 29 (0, 0))) ∧ (w'.heap[gb102]? = some (.cells #[.int .i64 0, .slice none 0 0] 29 (0, 0))) ∧ (w'.heap[s_.2]? = some (.cells #[.int .i64 0, .slice none 0 0] 29 (0, 0))) ∧ (w.heap.size ≤ s_.2) ∧ (w.heap.size ≤ s_.2) ∧ (gb101 ≠ s_.2) ∧ (s_.2 ≠ gb101) ∧ (gb102 ≠ s_.2) ∧ (s_.2 ≠ gb102) ∧ (Below w.heap.size w w')) ?_ ?_
                       rotate_left
                       ·intro hJ9_12
                        refine join_ (σ := Nat × Nat) 7 #[true, true, false, true, true, false, false, true, true, false, false, true, true, false, false] (fun s_ => [(8, .pointer (some ⟨s_.1, 0, none⟩)), (9, .pointer (some ⟨s_.2, 0, none⟩))]) (fun s_ w' => (w'.cell? ⟨gb101, 0, none⟩ = some (.int .i64 a0_0) ∧ w'.cell? ⟨gb101, 1, none⟩ = some (.slice A0_1 l0_1.length c0_1)) ∧ (w'.heap[gb101]? = some (.cells #[.int .i64 a0_0, .slice A0_1 l0_1.length c0_1] 29 (0, 0))) ∧ (w'.heap[gb102]? = some (.cells #[.int .i64 0, .slice none 0 0] 29 (0, 0))) ∧ (w'.heap[s_.1]? = some (.cells #[.int .i64 0, .int .i64 0] 65 (0, 0))) ∧ (w'.heap[s_.2]? = some (.cells #[.int .i64 0, .slice none 0 0] 29 (0, 0))) ∧ (w.heap.size ≤ s_.1) ∧ (w.heap.size ≤ s_.1) ∧ (gb101 ≠ s_.1) ∧ (s_.1 ≠ gb101) ∧ (gb102 ≠ s_.1) ∧ (s_.1 ≠ gb102) ∧ (s_.2 ≠ s_.1) ∧ (s_.1 ≠ s_.2) ∧ (w.heap.size ≤ s_.2) ∧ (w.heap.size ≤ s_.2) ∧ (gb101 ≠ s_.2) ∧ (s_.2 ≠ gb101) ∧ (gb102 ≠ s_.2) ∧ (s_.2 ≠ gb102) ∧ (Below w.heap.size w w')) ?_ ?_
                        rotate_left
                        ·intro hJ11_12
                         refine join_ (σ := Unit) 8 #[true, true, true, true, true, false, false, true, true, false, false, false, false, false, false] (fun s_ => [(34, .int .i64 t106)]) (fun s_ w' => (w'.cell? ⟨gb101, 0, none⟩ = some (.int .i64 a0_0) ∧ w'.cell? ⟨gb101, 1, none⟩ = some (.slice A0_1 l0_1.length c0_1)) ∧ (w'.heap[gb101]? = some (.cells #[.int .i64 a0_0, .slice A0_1 l0_1.length c0_1] 29 (0, 0))) ∧ (w'.heap[gb102]? = some (.cells #[.int .i64 0, .slice none 0 0] 29 (0, 0))) ∧ (Below w.heap.size w w')) ?_ ?_
                         rotate_left
                         ·intro hJ2
                          refine join_ (σ := Value) 7 #[true, true, false, true, true, false, false, true, true, true, true, false, false, false, false] (fun s_ => [(41, s_), (42, .agg #[.int .i64 a0_0, s_])]) (fun s_ w' => (w'.cell? ⟨gb101, 0, none⟩ = some (.int .i64 a0_0) ∧ w'.cell? ⟨gb101, 1, none⟩ = some (.slice A0_1 l0_1.length c0_1)) ∧ (Kd.R k65 65 w' w.heap.size (fun _ => True) s_ y108) ∧ (w'.heap[gb101]? = some (.cells #[.int .i64 a0_0, .slice A0_1 l0_1.length c0_1] 29 (0, 0))) ∧ (w'.heap[gb102]? = some (.cells #[.int .i64 0, .slice none 0 0] 29 (0, 0))) ∧ (Below w.heap.size w w')) ?_ ?_
                          rotate_left
                          ·intro hJ9
                           refine join_ (σ := Nat) 8 #[true, true, false, true, true, false, false, true, true, false, false, true, false, false, false] (fun s_ => [(8, .pointer (some ⟨s_, 0, none⟩))]) (fun s_ w' => (w'.cell? ⟨gb101, 0, none⟩ = some (.int .i64 a0_0) ∧ w'.cell? ⟨gb101, 1, none⟩ = some (.slice A0_1 l0_1.length c0_1)) ∧ (w'.heap[gb101]? = some (.cells #[.int .i64 a0_0, .slice A0_1 l0_1.length c0_1] 29 (0, 0))) ∧ (w'.heap[gb102]? = some (.cells #[.int .i64 0, .slice none 0 0] 29 (0, 0))) ∧ (w'.heap[s_]? = some (.cells #[.int .i64 0, .int .i64 0] 65 (0, 0))) ∧ (w.heap.size ≤ s_) ∧ (w.heap.size ≤ s_) ∧ (gb101 ≠ s_) ∧ (s_ ≠ gb101) ∧ (gb102 ≠ s_) ∧ (s_ ≠ gb102) ∧ (Below w.heap.size w w')) ?_ ?_
                           rotate_left
                           ·intro hJ11
                            refine join_ (σ := Nat) 8 #[true, true, false, true, true, false, false, true, true, false, false, false, true, false, false] (fun s_ => [(9, .pointer (some ⟨s_, 0, none⟩))]) (fun s_ w' => (w'.cell? ⟨gb101, 0, none⟩ = some (.int .i64 a0_0) ∧ w'.cell? ⟨gb101, 1, none⟩ = some (.slice A0_1 l0_1.length c0_1)) ∧ (w'.heap[gb101]? = some (.cells #[.int .i64 a0_0, .slice A0_1 l0_1.length c0_1] 29 (0, 0))) ∧ (w'.heap[gb102]? = some (.cells #[.int .i64 0, .slice none 0 0] 29 (0, 0))) ∧ (w'.heap[s_]? = some (.cells #[.int .i64 0, .slice none 0 0] 29 (0, 0))) ∧ (w.heap.size ≤ s_) ∧ (w.heap.size ≤ s_) ∧ (gb101 ≠ s_) ∧ (s_ ≠ gb101) ∧ (gb102 ≠ s_) ∧ (s_ ≠ gb102) ∧ (Below w.heap.size w w')) ?_ ?_
                            rotate_left
                            ·intro hJ12
                             refine four_ (i := 2) (j := 9) (k := 11) (m := 12) (Ni := some 34) (Nj := some 41) (Nk := some 8) (Nm := some 9) #[true, true, true, true, true, false, false, true, true, false, false, false, false, false, false] #[true, true, false, true, true, false, false, true, true, true, false, false, false, false, false] #[true, true, false, true, true, false, false, true, true, false, false, true, false, false, false] #[true, true, false, true, true, false, false, true, true, false, false, false, true, false, false] rfl rfl rfl rfl rfl rfl rfl rfl (four_of HT_.out (by kernel_rfl)) (by decide) (by decide) (by decide) (by decide) (fun K hK => ?_) (fun K hK => ?_) (fun K hK => ?_) (fun K hK => ?_)
                             ·skip
                              refine goes_ Try.func59 (by kernel_rfl) rfl #[.int .i64 a1, .int .i64 a2] (by rfl) rfl rfl Q4 ?_
                              with_reducible refine (spec_l1Least.calls a1 a2 t106 _ A39.out).mono ?_
                              rintro e w' ⟨rfl, ⟨nd, rfl⟩⟩; refine ⟨_, rfl, ?_⟩; refine hK.out _ _ ⟨(blk_cell BK101.out 0).trans rfl, (blk_cell BK101.out 1).trans rfl⟩ (fun hHeld => ?_); clear hK K; refine norm_ (a' := ?_) ?_ ?_
                              rotate_left
                              ·show Act.put _ (some 34) _ = _
                               simp only [Act.put, List.setIfInBounds_toArray, List.set_cons_zero, List.set_cons_succ, i64_w, i32_w]
                               rfl
                              exact norm_ Q2 (hJ2 () _ ⟨hHeld, (Q0 BK101), (Q0 BK102), (Q1 HB)⟩)
                             ·skip
                              refine Kd.R_lit_step k65 _ 65 ?hg (N := 41) ?hd (xs := ([] : List (S65))) (inner := []) (ok := fun _ => True) (okp := fun _ => True) ?hr ?hp (fun _ hk => hk) trivial (Below.refl _ _) (Nat.le_refl _) (by simp) ?_; (case hd => rfl); (case hg => rfl); (case hr => first | (go_simp; done) | (go_simp; rfl)); (case hp => exact (Reps.none _ _)); intro v109 w42 ho43 hb hg_ hnew_; clear hg_ hnew_
                              (first | rw [← Ny108.out] at ho43 | (simp only [Int.reduceToNat] at ho43; rw [← Ny108.out] at ho43))
                              have HO110 := am (Kd.R_lower ho43 (below_size (Q1 HB))); replace BK101 := am (blk_below (g := gb101) (o := .cells #[.int .i64 a0_0, .slice A0_1 l0_1.length c0_1] 29 (0, 0)) (Q0 BK101) hb); replace BK102 := am (blk_below (g := gb102) (o := .cells #[.int .i64 0, .slice none 0 0] 29 (0, 0)) (Q0 BK102) hb); replace HB := am (below_step (Q1 HB) hb); clear hb ho43; obtain ⟨Ao44, co44, eo44⟩ := Kd.R_slice HO110.out
                              (first | subst eo44 | (injection eo44 with f1_ f2_ f3_; have f4_ := f1_.symm; have f5_ := f3_.symm; clear f1_ f2_ f3_; subst f4_; subst f5_))
                              refine hK.out _ _ ⟨(blk_cell BK101.out 0).trans rfl, (blk_cell BK101.out 1).trans rfl⟩ (fun hHeld => ?_); clear hK K; refine norm_ (a' := ?_) ?_ ?_
                              rotate_left
                              ·show Act.put _ (some 41) _ = _
                               simp only [Act.put, List.setIfInBounds_toArray, List.set_cons_zero, List.set_cons_succ, i64_w, i32_w]
                               rfl
                              refine pq 10 42 rfl rfl HT_ ?_; exact norm_ Q2 (hJ9 (.slice Ao44 y108.length co44) _ ⟨hHeld, (Q3 HO110), (Q0 BK101), (Q0 BK102), (Q1 HB)⟩)
                             ·skip
                              refine box_step ?hg (N := 8) ?hd (cs := #[.int .i64 0, .int .i64 0]) (t := 65) ?hr ?_; (case hd => rfl); (case hg => rfl); (case hr => first | (go_simp; done) | (go_simp; rfl)); intro gb111 hg w42 hbox hb; have BK111 := am (hbox); have GW111 := am ((Q25 : w.heap.size ≤ gb111)); have GE111 := am ((Q25 : w.heap.size ≤ gb111)); replace HB := am (below_step (Q1 HB) hb); have NB101_111 := am ((Q26 : gb101 ≠ gb111)); have NB111_101 := am ((Q27 : gb111 ≠ gb101)); replace BK101 := am (blk_below (g := gb101) (o := .cells #[.int .i64 a0_0, .slice A0_1 l0_1.length c0_1] 29 (0, 0)) (Q0 BK101) hb); have NB102_111 := am ((Q28 : gb102 ≠ gb111)); have NB111_102 := am ((Q29 : gb111 ≠ gb102)); replace BK102 := am (blk_below (g := gb102) (o := .cells #[.int .i64 0, .slice none 0 0] 29 (0, 0)) (Q0 BK102) hb); clear hb hbox hg; refine hK.out _ _ ⟨(blk_cell BK101.out 0).trans rfl, (blk_cell BK101.out 1).trans rfl⟩ (fun hHeld => ?_); clear hK K; refine norm_ (a' := ?_) ?_ ?_
                              rotate_left
                              ·show Act.put _ (some 8) _ = _
                               simp only [Act.put, List.setIfInBounds_toArray, List.set_cons_zero, List.set_cons_succ, i64_w, i32_w]
                               rfl
                              exact norm_ Q2 (hJ11 (gb111) _ ⟨hHeld, (Q0 BK101), (Q0 BK102), (Q0 BK111), GW111.out, GE111.out, NB101_111.out, NB111_101.out, NB102_111.out, NB111_102.out, (Q1 HB)⟩)
                             ·skip
                              refine box_step ?hg (N := 9) ?hd (cs := #[.int .i64 0, .slice none 0 0]) (t := 29) ?hr ?_; (case hd => rfl); (case hg => rfl); (case hr => first | (go_simp; done) | (go_simp; rfl)); intro gb112 hg w42 hbox hb; have BK112 := am (hbox); have GW112 := am ((Q25 : w.heap.size ≤ gb112)); have GE112 := am ((Q25 : w.heap.size ≤ gb112)); replace HB := am (below_step (Q1 HB) hb); have NB101_112 := am ((Q26 : gb101 ≠ gb112)); have NB112_101 := am ((Q27 : gb112 ≠ gb101)); replace BK101 := am (blk_below (g := gb101) (o := .cells #[.int .i64 a0_0, .slice A0_1 l0_1.length c0_1] 29 (0, 0)) (Q0 BK101) hb); have NB102_112 := am ((Q28 : gb102 ≠ gb112)); have NB112_102 := am ((Q29 : gb112 ≠ gb102)); replace BK102 := am (blk_below (g := gb102) (o := .cells #[.int .i64 0, .slice none 0 0] 29 (0, 0)) (Q0 BK102) hb); clear hb hbox hg; refine hK.out _ _ ⟨(blk_cell BK101.out 0).trans rfl, (blk_cell BK101.out 1).trans rfl⟩ (fun hHeld => ?_); clear hK K; refine norm_ (a' := ?_) ?_ ?_
                              rotate_left
                              ·show Act.put _ (some 9) _ = _
                               simp only [Act.put, List.setIfInBounds_toArray, List.set_cons_zero, List.set_cons_succ, i64_w, i32_w]
                               rfl
                              exact norm_ Q2 (hJ12 (gb112) _ ⟨hHeld, (Q0 BK101), (Q0 BK102), (Q0 BK112), GW112.out, GE112.out, NB101_112.out, NB112_101.out, NB102_112.out, NB112_102.out, (Q1 HB)⟩)
                            ·skip
                             rintro gb112 w43 ⟨hS_, h0_, h1_, h2_, h3_, h4_, h5_, h6_, h7_, h8_, h9_⟩; replace BK101 : Aside0 (w43.heap[gb101]? = some (.cells #[.int .i64 a0_0, .slice A0_1 l0_1.length c0_1] 29 (0, 0))) := ⟨h0_⟩; replace BK102 : Aside0 (w43.heap[gb102]? = some (.cells #[.int .i64 0, .slice none 0 0] 29 (0, 0))) := ⟨h1_⟩; have BK112 : Aside0 (w43.heap[gb112]? = some (.cells #[.int .i64 0, .slice none 0 0] 29 (0, 0))) := ⟨h2_⟩; have GW112 : Aside0 (w.heap.size ≤ gb112) := ⟨h3_⟩; have GE112 : Aside0 (w.heap.size ≤ gb112) := ⟨h4_⟩; have NB101_112 : Aside0 (gb101 ≠ gb112) := ⟨h5_⟩; have NB112_101 : Aside0 (gb112 ≠ gb101) := ⟨h6_⟩; have NB102_112 : Aside0 (gb102 ≠ gb112) := ⟨h7_⟩; have NB112_102 : Aside0 (gb112 ≠ gb102) := ⟨h8_⟩; replace HB : Aside0 (Below w.heap.size w w43) := ⟨h9_⟩; clear h0_ h1_ h2_ h3_ h4_ h5_ h6_ h7_ h8_ h9_; have hHeld : w43.cell? ⟨gb101, 0, none⟩ = some (.int .i64 a0_0) ∧ w43.cell? ⟨gb101, 1, none⟩ = some (.slice A0_1 l0_1.length c0_1) := hS_; refine norm_ (a' := ?_) ?_ ?_
                             rotate_left
                             ·simp only [putAll, Act.put, List.setIfInBounds_toArray, List.set_cons_zero, List.set_cons_succ]
                              rfl
                             refine three_ (i := 2) (j := 9) (k := 11) (Ni := some 34) (Nj := some 41) (Nk := some 8) #[true, true, true, true, true, false, false, true, true, false, false, false, true, false, false] #[true, true, false, true, true, false, false, true, true, true, false, false, true, false, false] #[true, true, false, true, true, false, false, true, true, false, false, true, true, false, false] rfl rfl rfl rfl rfl rfl (three_of HT_.out (by kernel_rfl)) (by decide) (by decide) (by decide) (fun K hK => ?_) (fun K hK => ?_) (fun K hK => ?_)
                             ·skip
                              refine goes_ Try.func59 (by kernel_rfl) rfl #[.int .i64 a1, .int .i64 a2] (by rfl) rfl rfl Q4 ?_
                              with_reducible refine (spec_l1Least.calls a1 a2 t106 _ A39.out).mono ?_
                              rintro e w' ⟨rfl, ⟨nd, rfl⟩⟩; refine ⟨_, rfl, ?_⟩; refine hK.out _ _ ⟨(blk_cell BK101.out 0).trans rfl, (blk_cell BK101.out 1).trans rfl⟩ (fun hHeld => ?_); clear hK K; refine norm_ (a' := ?_) ?_ ?_
                              rotate_left
                              ·show Act.put _ (some 34) _ = _
                               simp only [Act.put, List.setIfInBounds_toArray, List.set_cons_zero, List.set_cons_succ, i64_w, i32_w]
                               rfl
                              exact norm_ Q2 (hJ2_12 (gb112) _ ⟨hHeld, (Q0 BK101), (Q0 BK102), (Q0 BK112), GW112.out, GE112.out, NB101_112.out, NB112_101.out, NB102_112.out, NB112_102.out, (Q1 HB)⟩)
                             ·skip
                              refine Kd.R_lit_step k65 _ 65 ?hg (N := 41) ?hd (xs := ([] : List (S65))) (inner := []) (ok := fun _ => True) (okp := fun _ => True) ?hr ?hp (fun _ hk => hk) trivial (Below.refl _ _) (Nat.le_refl _) (by simp) ?_; (case hd => rfl); (case hg => rfl); (case hr => first | (go_simp; done) | (go_simp; rfl)); (case hp => exact (Reps.none _ _)); intro v109 w44 ho45 hb hg_ hnew_; clear hg_ hnew_
                              (first | rw [← Ny108.out] at ho45 | (simp only [Int.reduceToNat] at ho45; rw [← Ny108.out] at ho45))
                              have HO110 := am (Kd.R_lower ho45 (below_size (Q1 HB))); replace BK101 := am (blk_below (g := gb101) (o := .cells #[.int .i64 a0_0, .slice A0_1 l0_1.length c0_1] 29 (0, 0)) (Q0 BK101) hb); replace BK102 := am (blk_below (g := gb102) (o := .cells #[.int .i64 0, .slice none 0 0] 29 (0, 0)) (Q0 BK102) hb); replace BK112 := am (blk_below (g := gb112) (o := .cells #[.int .i64 0, .slice none 0 0] 29 (0, 0)) (Q0 BK112) hb); replace HB := am (below_step (Q1 HB) hb); clear hb ho45; obtain ⟨Ao46, co46, eo46⟩ := Kd.R_slice HO110.out
                              (first | subst eo46 | (injection eo46 with f1_ f2_ f3_; have f4_ := f1_.symm; have f5_ := f3_.symm; clear f1_ f2_ f3_; subst f4_; subst f5_))
                              refine hK.out _ _ ⟨(blk_cell BK101.out 0).trans rfl, (blk_cell BK101.out 1).trans rfl⟩ (fun hHeld => ?_); clear hK K; refine norm_ (a' := ?_) ?_ ?_
                              rotate_left
                              ·show Act.put _ (some 41) _ = _
                               simp only [Act.put, List.setIfInBounds_toArray, List.set_cons_zero, List.set_cons_succ, i64_w, i32_w]
                               rfl
                              refine pq 10 42 rfl rfl HT_ ?_; exact norm_ Q2 (hJ9_12 (.slice Ao46 y108.length co46, gb112) _ ⟨hHeld, (Q3 HO110), (Q0 BK101), (Q0 BK102), (Q0 BK112), GW112.out, GE112.out, NB101_112.out, NB112_101.out, NB102_112.out, NB112_102.out, (Q1 HB)⟩)
                             ·skip
                              refine box_step ?hg (N := 8) ?hd (cs := #[.int .i64 0, .int .i64 0]) (t := 65) ?hr ?_; (case hd => rfl); (case hg => rfl); (case hr => first | (go_simp; done) | (go_simp; rfl)); intro gb111 hg w44 hbox hb; have BK111 := am (hbox); have GW111 := am ((Q25 : w.heap.size ≤ gb111)); have GE111 := am ((Q25 : w.heap.size ≤ gb111)); replace HB := am (below_step (Q1 HB) hb); have NB101_111 := am ((Q26 : gb101 ≠ gb111)); have NB111_101 := am ((Q27 : gb111 ≠ gb101)); replace BK101 := am (blk_below (g := gb101) (o := .cells #[.int .i64 a0_0, .slice A0_1 l0_1.length c0_1] 29 (0, 0)) (Q0 BK101) hb); have NB102_111 := am ((Q28 : gb102 ≠ gb111)); have NB111_102 := am ((Q29 : gb111 ≠ gb102)); replace BK102 := am (blk_below (g := gb102) (o := .cells #[.int .i64 0, .slice none 0 0] 29 (0, 0)) (Q0 BK102) hb); have NB112_111 := am ((Q35 : gb112 ≠ gb111)); have NB111_112 := am ((Q36 : gb111 ≠ gb112)); replace BK112 := am (blk_below (g := gb112) (o := .cells #[.int .i64 0, .slice none 0 0] 29 (0, 0)) (Q0 BK112) hb); clear hb hbox hg; refine hK.out _ _ ⟨(blk_cell BK101.out 0).trans rfl, (blk_cell BK101.out 1).trans rfl⟩ (fun hHeld => ?_); clear hK K; refine norm_ (a' := ?_) ?_ ?_
                              rotate_left
                              ·show Act.put _ (some 8) _ = _
                               simp only [Act.put, List.setIfInBounds_toArray, List.set_cons_zero, List.set_cons_succ, i64_w, i32_w]
                               rfl
                              exact norm_ Q2 (hJ11_12 (gb111, gb112) _ ⟨hHeld, (Q0 BK101), (Q0 BK102), (Q0 BK111), (Q0 BK112), GW111.out, GE111.out, NB101_111.out, NB111_101.out, NB102_111.out, NB111_102.out, NB112_111.out, NB111_112.out, GW112.out, GE112.out, NB101_112.out, NB112_101.out, NB102_112.out, NB112_102.out, (Q1 HB)⟩)
                           ·skip
                            rintro gb111 w43 ⟨hS_, h0_, h1_, h2_, h3_, h4_, h5_, h6_, h7_, h8_, h9_⟩; replace BK101 : Aside0 (w43.heap[gb101]? = some (.cells #[.int .i64 a0_0, .slice A0_1 l0_1.length c0_1] 29 (0, 0))) := ⟨h0_⟩; replace BK102 : Aside0 (w43.heap[gb102]? = some (.cells #[.int .i64 0, .slice none 0 0] 29 (0, 0))) := ⟨h1_⟩; have BK111 : Aside0 (w43.heap[gb111]? = some (.cells #[.int .i64 0, .int .i64 0] 65 (0, 0))) := ⟨h2_⟩; have GW111 : Aside0 (w.heap.size ≤ gb111) := ⟨h3_⟩; have GE111 : Aside0 (w.heap.size ≤ gb111) := ⟨h4_⟩; have NB101_111 : Aside0 (gb101 ≠ gb111) := ⟨h5_⟩; have NB111_101 : Aside0 (gb111 ≠ gb101) := ⟨h6_⟩; have NB102_111 : Aside0 (gb102 ≠ gb111) := ⟨h7_⟩; have NB111_102 : Aside0 (gb111 ≠ gb102) := ⟨h8_⟩; replace HB : Aside0 (Below w.heap.size w w43) := ⟨h9_⟩; clear h0_ h1_ h2_ h3_ h4_ h5_ h6_ h7_ h8_ h9_; have hHeld : w43.cell? ⟨gb101, 0, none⟩ = some (.int .i64 a0_0) ∧ w43.cell? ⟨gb101, 1, none⟩ = some (.slice A0_1 l0_1.length c0_1) := hS_; refine norm_ (a' := ?_) ?_ ?_
                            rotate_left
                            ·simp only [putAll, Act.put, List.setIfInBounds_toArray, List.set_cons_zero, List.set_cons_succ]
                             rfl
                            refine three_ (i := 2) (j := 9) (k := 12) (Ni := some 34) (Nj := some 41) (Nk := some 9) #[true, true, true, true, true, false, false, true, true, false, false, true, false, false, false] #[true, true, false, true, true, false, false, true, true, true, false, true, false, false, false] #[true, true, false, true, true, false, false, true, true, false, false, true, true, false, false] rfl rfl rfl rfl rfl rfl (three_of HT_.out (by kernel_rfl)) (by decide) (by decide) (by decide) (fun K hK => ?_) (fun K hK => ?_) (fun K hK => ?_)
                            ·skip
                             refine goes_ Try.func59 (by kernel_rfl) rfl #[.int .i64 a1, .int .i64 a2] (by rfl) rfl rfl Q4 ?_
                             with_reducible refine (spec_l1Least.calls a1 a2 t106 _ A39.out).mono ?_
                             rintro e w' ⟨rfl, ⟨nd, rfl⟩⟩; refine ⟨_, rfl, ?_⟩; refine hK.out _ _ ⟨(blk_cell BK101.out 0).trans rfl, (blk_cell BK101.out 1).trans rfl⟩ (fun hHeld => ?_); clear hK K; refine norm_ (a' := ?_) ?_ ?_
                             rotate_left
                             ·show Act.put _ (some 34) _ = _
                              simp only [Act.put, List.setIfInBounds_toArray, List.set_cons_zero, List.set_cons_succ, i64_w, i32_w]
                              rfl
                             exact norm_ Q2 (hJ2_11 (gb111) _ ⟨hHeld, (Q0 BK101), (Q0 BK102), (Q0 BK111), GW111.out, GE111.out, NB101_111.out, NB111_101.out, NB102_111.out, NB111_102.out, (Q1 HB)⟩)
                            ·skip
                             refine Kd.R_lit_step k65 _ 65 ?hg (N := 41) ?hd (xs := ([] : List (S65))) (inner := []) (ok := fun _ => True) (okp := fun _ => True) ?hr ?hp (fun _ hk => hk) trivial (Below.refl _ _) (Nat.le_refl _) (by simp) ?_; (case hd => rfl); (case hg => rfl); (case hr => first | (go_simp; done) | (go_simp; rfl)); (case hp => exact (Reps.none _ _)); intro v109 w44 ho45 hb hg_ hnew_; clear hg_ hnew_
                             (first | rw [← Ny108.out] at ho45 | (simp only [Int.reduceToNat] at ho45; rw [← Ny108.out] at ho45))
                             have HO110 := am (Kd.R_lower (Kd.R_newB ho45 (g := gb111) (o := .cells #[.int .i64 0, .int .i64 0] 65 (0, 0)) (Q0 BK111)) (below_size (Q1 HB))); replace BK101 := am (blk_below (g := gb101) (o := .cells #[.int .i64 a0_0, .slice A0_1 l0_1.length c0_1] 29 (0, 0)) (Q0 BK101) hb); replace BK102 := am (blk_below (g := gb102) (o := .cells #[.int .i64 0, .slice none 0 0] 29 (0, 0)) (Q0 BK102) hb); replace BK111 := am (blk_below (g := gb111) (o := .cells #[.int .i64 0, .int .i64 0] 65 (0, 0)) (Q0 BK111) hb); replace HB := am (below_step (Q1 HB) hb); clear hb ho45; obtain ⟨Ao46, co46, eo46⟩ := Kd.R_slice HO110.out
                             (first | subst eo46 | (injection eo46 with f1_ f2_ f3_; have f4_ := f1_.symm; have f5_ := f3_.symm; clear f1_ f2_ f3_; subst f4_; subst f5_))
                             refine hK.out _ _ ⟨(blk_cell BK101.out 0).trans rfl, (blk_cell BK101.out 1).trans rfl⟩ (fun hHeld => ?_); clear hK K; refine norm_ (a' := ?_) ?_ ?_
                             rotate_left
                             ·show Act.put _ (some 41) _ = _
                              simp only [Act.put, List.setIfInBounds_toArray, List.set_cons_zero, List.set_cons_succ, i64_w, i32_w]
                              rfl
                             refine pq 10 42 rfl rfl HT_ ?_; exact norm_ Q2 (hJ9_11 (.slice Ao46 y108.length co46, gb111) _ ⟨hHeld, (Q12 HO110), (Q0 BK101), (Q0 BK102), (Q0 BK111), GW111.out, GE111.out, NB101_111.out, NB111_101.out, NB102_111.out, NB111_102.out, (Q1 HB)⟩)
                            ·skip
                             refine box_step ?hg (N := 9) ?hd (cs := #[.int .i64 0, .slice none 0 0]) (t := 29) ?hr ?_; (case hd => rfl); (case hg => rfl); (case hr => first | (go_simp; done) | (go_simp; rfl)); intro gb112 hg w44 hbox hb; have BK112 := am (hbox); have GW112 := am ((Q25 : w.heap.size ≤ gb112)); have GE112 := am ((Q25 : w.heap.size ≤ gb112)); replace HB := am (below_step (Q1 HB) hb); have NB101_112 := am ((Q26 : gb101 ≠ gb112)); have NB112_101 := am ((Q27 : gb112 ≠ gb101)); replace BK101 := am (blk_below (g := gb101) (o := .cells #[.int .i64 a0_0, .slice A0_1 l0_1.length c0_1] 29 (0, 0)) (Q0 BK101) hb); have NB102_112 := am ((Q28 : gb102 ≠ gb112)); have NB112_102 := am ((Q29 : gb112 ≠ gb102)); replace BK102 := am (blk_below (g := gb102) (o := .cells #[.int .i64 0, .slice none 0 0] 29 (0, 0)) (Q0 BK102) hb); have NB111_112 := am ((Q39 : gb111 ≠ gb112)); have NB112_111 := am ((Q40 : gb112 ≠ gb111)); replace BK111 := am (blk_below (g := gb111) (o := .cells #[.int .i64 0, .int .i64 0] 65 (0, 0)) (Q0 BK111) hb); clear hb hbox hg; refine hK.out _ _ ⟨(blk_cell BK101.out 0).trans rfl, (blk_cell BK101.out 1).trans rfl⟩ (fun hHeld => ?_); clear hK K; refine norm_ (a' := ?_) ?_ ?_
                             rotate_left
                             ·show Act.put _ (some 9) _ = _
                              simp only [Act.put, List.setIfInBounds_toArray, List.set_cons_zero, List.set_cons_succ, i64_w, i32_w]
                              rfl
                             exact norm_ Q2 (hJ11_12 (gb111, gb112) _ ⟨hHeld, (Q0 BK101), (Q0 BK102), (Q0 BK111), (Q0 BK112), GW111.out, GE111.out, NB101_111.out, NB111_101.out, NB102_111.out, NB111_102.out, NB112_111.out, NB111_112.out, GW112.out, GE112.out, NB101_112.out, NB112_101.out, NB102_112.out, NB112_102.out, (Q1 HB)⟩)
                          ·skip
                           rintro v109 w45 ⟨hS_, h0_, h1_, h2_, h3_⟩; have HO110 : Aside0 (Kd.R k65 65 w45 w.heap.size (fun _ => True) v109 y108) := ⟨h0_⟩; replace BK101 : Aside0 (w45.heap[gb101]? = some (.cells #[.int .i64 a0_0, .slice A0_1 l0_1.length c0_1] 29 (0, 0))) := ⟨h1_⟩; replace BK102 : Aside0 (w45.heap[gb102]? = some (.cells #[.int .i64 0, .slice none 0 0] 29 (0, 0))) := ⟨h2_⟩; replace HB : Aside0 (Below w.heap.size w w45) := ⟨h3_⟩; clear h0_ h1_ h2_ h3_; have hHeld : w45.cell? ⟨gb101, 0, none⟩ = some (.int .i64 a0_0) ∧ w45.cell? ⟨gb101, 1, none⟩ = some (.slice A0_1 l0_1.length c0_1) := hS_; obtain ⟨Ao46, co46, eo46⟩ := Kd.R_slice HO110.out
                           (first | subst eo46 | (injection eo46 with f1_ f2_ f3_; have f4_ := f1_.symm; have f5_ := f3_.symm; clear f1_ f2_ f3_; subst f4_; subst f5_))
                           refine norm_ (a' := ?_) ?_ ?_
                           rotate_left
                           ·simp only [putAll, Act.put, List.setIfInBounds_toArray, List.set_cons_zero, List.set_cons_succ]
                            rfl
                           refine three_ (i := 2) (j := 11) (k := 12) (Ni := some 34) (Nj := some 8) (Nk := some 9) #[true, true, true, true, true, false, false, true, true, true, true, false, false, false, false] #[true, true, false, true, true, false, false, true, true, true, true, true, false, false, false] #[true, true, false, true, true, false, false, true, true, true, true, false, true, false, false] rfl rfl rfl rfl rfl rfl (three_of HT_.out (by kernel_rfl)) (by decide) (by decide) (by decide) (fun K hK => ?_) (fun K hK => ?_) (fun K hK => ?_)
                           ·skip
                            refine goes_ Try.func59 (by kernel_rfl) rfl #[.int .i64 a1, .int .i64 a2] (by rfl) rfl rfl Q4 ?_
                            with_reducible refine (spec_l1Least.calls a1 a2 t106 _ A39.out).mono ?_
                            rintro e w' ⟨rfl, ⟨nd, rfl⟩⟩; refine ⟨_, rfl, ?_⟩; refine hK.out _ _ ⟨(blk_cell BK101.out 0).trans rfl, (blk_cell BK101.out 1).trans rfl⟩ (fun hHeld => ?_); clear hK K; refine norm_ (a' := ?_) ?_ ?_
                            rotate_left
                            ·show Act.put _ (some 34) _ = _
                             simp only [Act.put, List.setIfInBounds_toArray, List.set_cons_zero, List.set_cons_succ, i64_w, i32_w]
                             rfl
                            exact norm_ Q2 (hJ2_9 (.slice Ao46 y108.length co46) _ ⟨hHeld, (Q3 HO110), (Q0 BK101), (Q0 BK102), (Q1 HB)⟩)
                           ·skip
                            refine box_step ?hg (N := 8) ?hd (cs := #[.int .i64 0, .int .i64 0]) (t := 65) ?hr ?_; (case hd => rfl); (case hg => rfl); (case hr => first | (go_simp; done) | (go_simp; rfl)); intro gb111 hg w47 hbox hb; replace HO110 := am (Kd.R_below (Kd.R_elderB (Q3 HO110) gb111 (Nat.le_of_eq hg.symm)) hb); have BK111 := am (hbox); have GW111 := am ((Q25 : w.heap.size ≤ gb111)); have GE111 := am ((Q25 : w.heap.size ≤ gb111)); replace HB := am (below_step (Q1 HB) hb); have NB101_111 := am ((Q26 : gb101 ≠ gb111)); have NB111_101 := am ((Q27 : gb111 ≠ gb101)); replace BK101 := am (blk_below (g := gb101) (o := .cells #[.int .i64 a0_0, .slice A0_1 l0_1.length c0_1] 29 (0, 0)) (Q0 BK101) hb); have NB102_111 := am ((Q28 : gb102 ≠ gb111)); have NB111_102 := am ((Q29 : gb111 ≠ gb102)); replace BK102 := am (blk_below (g := gb102) (o := .cells #[.int .i64 0, .slice none 0 0] 29 (0, 0)) (Q0 BK102) hb); clear hb hbox hg; refine hK.out _ _ ⟨(blk_cell BK101.out 0).trans rfl, (blk_cell BK101.out 1).trans rfl⟩ (fun hHeld => ?_); clear hK K; refine norm_ (a' := ?_) ?_ ?_
                            rotate_left
                            ·show Act.put _ (some 8) _ = _
                             simp only [Act.put, List.setIfInBounds_toArray, List.set_cons_zero, List.set_cons_succ, i64_w, i32_w]
                             rfl
                            exact norm_ Q2 (hJ9_11 (.slice Ao46 y108.length co46, gb111) _ ⟨hHeld, (Q12 HO110), (Q0 BK101), (Q0 BK102), (Q0 BK111), GW111.out, GE111.out, NB101_111.out, NB111_101.out, NB102_111.out, NB111_102.out, (Q1 HB)⟩)
                           ·skip
                            refine box_step ?hg (N := 9) ?hd (cs := #[.int .i64 0, .slice none 0 0]) (t := 29) ?hr ?_; (case hd => rfl); (case hg => rfl); (case hr => first | (go_simp; done) | (go_simp; rfl)); intro gb112 hg w47 hbox hb; replace HO110 := am (Kd.R_below (Q3 HO110) hb); have BK112 := am (hbox); have GW112 := am ((Q25 : w.heap.size ≤ gb112)); have GE112 := am ((Q25 : w.heap.size ≤ gb112)); replace HB := am (below_step (Q1 HB) hb); have NB101_112 := am ((Q26 : gb101 ≠ gb112)); have NB112_101 := am ((Q27 : gb112 ≠ gb101)); replace BK101 := am (blk_below (g := gb101) (o := .cells #[.int .i64 a0_0, .slice A0_1 l0_1.length c0_1] 29 (0, 0)) (Q0 BK101) hb); have NB102_112 := am ((Q28 : gb102 ≠ gb112)); have NB112_102 := am ((Q29 : gb112 ≠ gb102)); replace BK102 := am (blk_below (g := gb102) (o := .cells #[.int .i64 0, .slice none 0 0] 29 (0, 0)) (Q0 BK102) hb); clear hb hbox hg; refine hK.out _ _ ⟨(blk_cell BK101.out 0).trans rfl, (blk_cell BK101.out 1).trans rfl⟩ (fun hHeld => ?_); clear hK K; refine norm_ (a' := ?_) ?_ ?_
                            rotate_left
                            ·show Act.put _ (some 9) _ = _
                             simp only [Act.put, List.setIfInBounds_toArray, List.set_cons_zero, List.set_cons_succ, i64_w, i32_w]
                             rfl
                            exact norm_ Q2 (hJ9_12 (.slice Ao46 y108.length co46, gb112) _ ⟨hHeld, (Q3 HO110), (Q0 BK101), (Q0 BK102), (Q0 BK112), GW112.out, GE112.out, NB101_112.out, NB112_101.out, NB102_112.out, NB112_102.out, (Q1 HB)⟩)
                         ·skip
                          rintro _ w42 ⟨hS_, h0_, h1_, h2_⟩; replace BK101 : Aside0 (w42.heap[gb101]? = some (.cells #[.int .i64 a0_0, .slice A0_1 l0_1.length c0_1] 29 (0, 0))) := ⟨h0_⟩; replace BK102 : Aside0 (w42.heap[gb102]? = some (.cells #[.int .i64 0, .slice none 0 0] 29 (0, 0))) := ⟨h1_⟩; replace HB : Aside0 (Below w.heap.size w w42) := ⟨h2_⟩; clear h0_ h1_ h2_; have hHeld : w42.cell? ⟨gb101, 0, none⟩ = some (.int .i64 a0_0) ∧ w42.cell? ⟨gb101, 1, none⟩ = some (.slice A0_1 l0_1.length c0_1) := hS_; refine norm_ (a' := ?_) ?_ ?_
                          rotate_left
                          ·simp only [putAll, Act.put, List.setIfInBounds_toArray, List.set_cons_zero, List.set_cons_succ]
                           rfl
                          refine four_ (i := 5) (j := 9) (k := 11) (m := 12) (Ni := some 37) (Nj := some 41) (Nk := some 8) (Nm := some 9) #[true, true, true, true, true, true, false, true, true, false, false, false, false, false, false] #[true, true, true, true, true, false, false, true, true, true, false, false, false, false, false] #[true, true, true, true, true, false, false, true, true, false, false, true, false, false, false] #[true, true, true, true, true, false, false, true, true, false, false, false, true, false, false] rfl rfl rfl rfl rfl rfl rfl rfl (four_of HT_.out (by kernel_rfl)) (by decide) (by decide) (by decide) (by decide) (fun K hK => ?_) (fun K hK => ?_) (fun K hK => ?_) (fun K hK => ?_)
                          ·skip
                           refine goes_ Try.func60 (by kernel_rfl) rfl #[.int .i64 a1, .int .i64 a2] (by rfl) rfl rfl Q4 ?_
                           with_reducible refine (spec_l1Most.calls a1 a2 t107 _ A40.out).mono ?_
                           rintro e w' ⟨rfl, ⟨nd, rfl⟩⟩; refine ⟨_, rfl, ?_⟩; refine hK.out _ _ ⟨(blk_cell BK101.out 0).trans rfl, (blk_cell BK101.out 1).trans rfl⟩ (fun hHeld => ?_); clear hK K; refine norm_ (a' := ?_) ?_ ?_
                           rotate_left
                           ·show Act.put _ (some 37) _ = _
                            simp only [Act.put, List.setIfInBounds_toArray, List.set_cons_zero, List.set_cons_succ, i64_w, i32_w]
                            rfl
                           refine pq 6 38 rfl rfl HT_ ?_; exact norm_ Q2 (hJ2_5 () _ ⟨hHeld, (Q0 BK101), (Q0 BK102), (Q1 HB)⟩)
                          ·skip
                           refine Kd.R_lit_step k65 _ 65 ?hg (N := 41) ?hd (xs := ([] : List (S65))) (inner := []) (ok := fun _ => True) (okp := fun _ => True) ?hr ?hp (fun _ hk => hk) trivial (Below.refl _ _) (Nat.le_refl _) (by simp) ?_; (case hd => rfl); (case hg => rfl); (case hr => first | (go_simp; done) | (go_simp; rfl)); (case hp => exact (Reps.none _ _)); intro v109 w43 ho44 hb hg_ hnew_; clear hg_ hnew_
                           (first | rw [← Ny108.out] at ho44 | (simp only [Int.reduceToNat] at ho44; rw [← Ny108.out] at ho44))
                           have HO110 := am (Kd.R_lower ho44 (below_size (Q1 HB))); replace BK101 := am (blk_below (g := gb101) (o := .cells #[.int .i64 a0_0, .slice A0_1 l0_1.length c0_1] 29 (0, 0)) (Q0 BK101) hb); replace BK102 := am (blk_below (g := gb102) (o := .cells #[.int .i64 0, .slice none 0 0] 29 (0, 0)) (Q0 BK102) hb); replace HB := am (below_step (Q1 HB) hb); clear hb ho44; obtain ⟨Ao45, co45, eo45⟩ := Kd.R_slice HO110.out
                           (first | subst eo45 | (injection eo45 with f1_ f2_ f3_; have f4_ := f1_.symm; have f5_ := f3_.symm; clear f1_ f2_ f3_; subst f4_; subst f5_))
                           refine hK.out _ _ ⟨(blk_cell BK101.out 0).trans rfl, (blk_cell BK101.out 1).trans rfl⟩ (fun hHeld => ?_); clear hK K; refine norm_ (a' := ?_) ?_ ?_
                           rotate_left
                           ·show Act.put _ (some 41) _ = _
                            simp only [Act.put, List.setIfInBounds_toArray, List.set_cons_zero, List.set_cons_succ, i64_w, i32_w]
                            rfl
                           refine pq 10 42 rfl rfl HT_ ?_; exact norm_ Q2 (hJ2_9 (.slice Ao45 y108.length co45) _ ⟨hHeld, (Q3 HO110), (Q0 BK101), (Q0 BK102), (Q1 HB)⟩)
                          ·skip
                           refine box_step ?hg (N := 8) ?hd (cs := #[.int .i64 0, .int .i64 0]) (t := 65) ?hr ?_; (case hd => rfl); (case hg => rfl); (case hr => first | (go_simp; done) | (go_simp; rfl)); intro gb111 hg w43 hbox hb; have BK111 := am (hbox); have GW111 := am ((Q25 : w.heap.size ≤ gb111)); have GE111 := am ((Q25 : w.heap.size ≤ gb111)); replace HB := am (below_step (Q1 HB) hb); have NB101_111 := am ((Q26 : gb101 ≠ gb111)); have NB111_101 := am ((Q27 : gb111 ≠ gb101)); replace BK101 := am (blk_below (g := gb101) (o := .cells #[.int .i64 a0_0, .slice A0_1 l0_1.length c0_1] 29 (0, 0)) (Q0 BK101) hb); have NB102_111 := am ((Q28 : gb102 ≠ gb111)); have NB111_102 := am ((Q29 : gb111 ≠ gb102)); replace BK102 := am (blk_below (g := gb102) (o := .cells #[.int .i64 0, .slice none 0 0] 29 (0, 0)) (Q0 BK102) hb); clear hb hbox hg; refine hK.out _ _ ⟨(blk_cell BK101.out 0).trans rfl, (blk_cell BK101.out 1).trans rfl⟩ (fun hHeld => ?_); clear hK K; refine norm_ (a' := ?_) ?_ ?_
                           rotate_left
                           ·show Act.put _ (some 8) _ = _
                            simp only [Act.put, List.setIfInBounds_toArray, List.set_cons_zero, List.set_cons_succ, i64_w, i32_w]
                            rfl
                           exact norm_ Q2 (hJ2_11 (gb111) _ ⟨hHeld, (Q0 BK101), (Q0 BK102), (Q0 BK111), GW111.out, GE111.out, NB101_111.out, NB111_101.out, NB102_111.out, NB111_102.out, (Q1 HB)⟩)
                          ·skip
                           refine box_step ?hg (N := 9) ?hd (cs := #[.int .i64 0, .slice none 0 0]) (t := 29) ?hr ?_; (case hd => rfl); (case hg => rfl); (case hr => first | (go_simp; done) | (go_simp; rfl)); intro gb112 hg w43 hbox hb; have BK112 := am (hbox); have GW112 := am ((Q25 : w.heap.size ≤ gb112)); have GE112 := am ((Q25 : w.heap.size ≤ gb112)); replace HB := am (below_step (Q1 HB) hb); have NB101_112 := am ((Q26 : gb101 ≠ gb112)); have NB112_101 := am ((Q27 : gb112 ≠ gb101)); replace BK101 := am (blk_below (g := gb101) (o := .cells #[.int .i64 a0_0, .slice A0_1 l0_1.length c0_1] 29 (0, 0)) (Q0 BK101) hb); have NB102_112 := am ((Q28 : gb102 ≠ gb112)); have NB112_102 := am ((Q29 : gb112 ≠ gb102)); replace BK102 := am (blk_below (g := gb102) (o := .cells #[.int .i64 0, .slice none 0 0] 29 (0, 0)) (Q0 BK102) hb); clear hb hbox hg; refine hK.out _ _ ⟨(blk_cell BK101.out 0).trans rfl, (blk_cell BK101.out 1).trans rfl⟩ (fun hHeld => ?_); clear hK K; refine norm_ (a' := ?_) ?_ ?_
                           rotate_left
                           ·show Act.put _ (some 9) _ = _
                            simp only [Act.put, List.setIfInBounds_toArray, List.set_cons_zero, List.set_cons_succ, i64_w, i32_w]
                            rfl
                           exact norm_ Q2 (hJ2_12 (gb112) _ ⟨hHeld, (Q0 BK101), (Q0 BK102), (Q0 BK112), GW112.out, GE112.out, NB101_112.out, NB112_101.out, NB102_112.out, NB112_102.out, (Q1 HB)⟩)
                        ·skip
                         rintro ⟨gb111, gb112⟩ w44 ⟨hS_, h0_, h1_, h2_, h3_, h4_, h5_, h6_, h7_, h8_, h9_, h10_, h11_, h12_, h13_, h14_, h15_, h16_, h17_, h18_⟩; replace BK101 : Aside0 (w44.heap[gb101]? = some (.cells #[.int .i64 a0_0, .slice A0_1 l0_1.length c0_1] 29 (0, 0))) := ⟨h0_⟩; replace BK102 : Aside0 (w44.heap[gb102]? = some (.cells #[.int .i64 0, .slice none 0 0] 29 (0, 0))) := ⟨h1_⟩; have BK111 : Aside0 (w44.heap[gb111]? = some (.cells #[.int .i64 0, .int .i64 0] 65 (0, 0))) := ⟨h2_⟩; have BK112 : Aside0 (w44.heap[gb112]? = some (.cells #[.int .i64 0, .slice none 0 0] 29 (0, 0))) := ⟨h3_⟩; have GW111 : Aside0 (w.heap.size ≤ gb111) := ⟨h4_⟩; have GE111 : Aside0 (w.heap.size ≤ gb111) := ⟨h5_⟩; have NB101_111 : Aside0 (gb101 ≠ gb111) := ⟨h6_⟩; have NB111_101 : Aside0 (gb111 ≠ gb101) := ⟨h7_⟩; have NB102_111 : Aside0 (gb102 ≠ gb111) := ⟨h8_⟩; have NB111_102 : Aside0 (gb111 ≠ gb102) := ⟨h9_⟩; have NB112_111 : Aside0 (gb112 ≠ gb111) := ⟨h10_⟩; have NB111_112 : Aside0 (gb111 ≠ gb112) := ⟨h11_⟩; have GW112 : Aside0 (w.heap.size ≤ gb112) := ⟨h12_⟩; have GE112 : Aside0 (w.heap.size ≤ gb112) := ⟨h13_⟩; have NB101_112 : Aside0 (gb101 ≠ gb112) := ⟨h14_⟩; have NB112_101 : Aside0 (gb112 ≠ gb101) := ⟨h15_⟩; have NB102_112 : Aside0 (gb102 ≠ gb112) := ⟨h16_⟩; have NB112_102 : Aside0 (gb112 ≠ gb102) := ⟨h17_⟩; replace HB : Aside0 (Below w.heap.size w w44) := ⟨h18_⟩; clear h0_ h1_ h2_ h3_ h4_ h5_ h6_ h7_ h8_ h9_ h10_ h11_ h12_ h13_ h14_ h15_ h16_ h17_ h18_; have hHeld : w44.cell? ⟨gb101, 0, none⟩ = some (.int .i64 a0_0) ∧ w44.cell? ⟨gb101, 1, none⟩ = some (.slice A0_1 l0_1.length c0_1) := hS_; refine norm_ (a' := ?_) ?_ ?_
                         rotate_left
                         ·simp only [putAll, Act.put, List.setIfInBounds_toArray, List.set_cons_zero, List.set_cons_succ]
                          rfl
                         refine two_ (i := 2) (j := 9) (Ni := some 34) (Nj := some 41) #[true, true, true, true, true, false, false, true, true, false, false, true, true, false, false] #[true, true, false, true, true, false, false, true, true, true, false, true, true, false, false] rfl rfl rfl rfl (two_of HT_.out (by kernel_rfl)) (by decide) (by decide) (fun K hK => ?_) (fun K hK => ?_)
                         ·skip
                          refine goes_ Try.func59 (by kernel_rfl) rfl #[.int .i64 a1, .int .i64 a2] (by rfl) rfl rfl Q4 ?_
                          with_reducible refine (spec_l1Least.calls a1 a2 t106 _ A39.out).mono ?_
                          rintro e w' ⟨rfl, ⟨nd, rfl⟩⟩; refine ⟨_, rfl, ?_⟩; refine hK.out _ _ ⟨(blk_cell BK101.out 0).trans rfl, (blk_cell BK101.out 1).trans rfl⟩ (fun hHeld => ?_); clear hK K; refine norm_ (a' := ?_) ?_ ?_
                          rotate_left
                          ·show Act.put _ (some 34) _ = _
                           simp only [Act.put, List.setIfInBounds_toArray, List.set_cons_zero, List.set_cons_succ, i64_w, i32_w]
                           rfl
                          exact norm_ Q2 (hJ2_11_12 (gb111, gb112) _ ⟨hHeld, (Q0 BK101), (Q0 BK102), (Q0 BK111), (Q0 BK112), GW111.out, GE111.out, NB101_111.out, NB111_101.out, NB102_111.out, NB111_102.out, NB112_111.out, NB111_112.out, GW112.out, GE112.out, NB101_112.out, NB112_101.out, NB102_112.out, NB112_102.out, (Q1 HB)⟩)
                         ·skip
                          refine Kd.R_lit_step k65 _ 65 ?hg (N := 41) ?hd (xs := ([] : List (S65))) (inner := []) (ok := fun _ => True) (okp := fun _ => True) ?hr ?hp (fun _ hk => hk) trivial (Below.refl _ _) (Nat.le_refl _) (by simp) ?_; (case hd => rfl); (case hg => rfl); (case hr => first | (go_simp; done) | (go_simp; rfl)); (case hp => exact (Reps.none _ _)); intro v109 w45 ho46 hb hg_ hnew_; clear hg_ hnew_
                          (first | rw [← Ny108.out] at ho46 | (simp only [Int.reduceToNat] at ho46; rw [← Ny108.out] at ho46))
                          have HO110 := am (Kd.R_lower (Kd.R_newB ho46 (g := gb111) (o := .cells #[.int .i64 0, .int .i64 0] 65 (0, 0)) (Q0 BK111)) (below_size (Q1 HB))); replace BK101 := am (blk_below (g := gb101) (o := .cells #[.int .i64 a0_0, .slice A0_1 l0_1.length c0_1] 29 (0, 0)) (Q0 BK101) hb); replace BK102 := am (blk_below (g := gb102) (o := .cells #[.int .i64 0, .slice none 0 0] 29 (0, 0)) (Q0 BK102) hb); replace BK111 := am (blk_below (g := gb111) (o := .cells #[.int .i64 0, .int .i64 0] 65 (0, 0)) (Q0 BK111) hb); replace BK112 := am (blk_below (g := gb112) (o := .cells #[.int .i64 0, .slice none 0 0] 29 (0, 0)) (Q0 BK112) hb); replace HB := am (below_step (Q1 HB) hb); clear hb ho46; obtain ⟨Ao47, co47, eo47⟩ := Kd.R_slice HO110.out
                          (first | subst eo47 | (injection eo47 with f1_ f2_ f3_; have f4_ := f1_.symm; have f5_ := f3_.symm; clear f1_ f2_ f3_; subst f4_; subst f5_))
                          refine hK.out _ _ ⟨(blk_cell BK101.out 0).trans rfl, (blk_cell BK101.out 1).trans rfl⟩ (fun hHeld => ?_); clear hK K; refine norm_ (a' := ?_) ?_ ?_
                          rotate_left
                          ·show Act.put _ (some 41) _ = _
                           simp only [Act.put, List.setIfInBounds_toArray, List.set_cons_zero, List.set_cons_succ, i64_w, i32_w]
                           rfl
                          refine pq 10 42 rfl rfl HT_ ?_; exact norm_ Q2 (hJ9_11_12 (.slice Ao47 y108.length co47, gb111, gb112) _ ⟨hHeld, (Q12 HO110), (Q0 BK101), (Q0 BK102), (Q0 BK111), (Q0 BK112), GW111.out, GE111.out, NB101_111.out, NB111_101.out, NB102_111.out, NB111_102.out, NB112_111.out, NB111_112.out, GW112.out, GE112.out, NB101_112.out, NB112_101.out, NB102_112.out, NB112_102.out, (Q1 HB)⟩)
                       ·skip
                        rintro ⟨v109, gb112⟩ w46 ⟨hS_, h0_, h1_, h2_, h3_, h4_, h5_, h6_, h7_, h8_, h9_, h10_⟩; have HO110 : Aside0 (Kd.R k65 65 w46 w.heap.size (fun _ => True) v109 y108) := ⟨h0_⟩; replace BK101 : Aside0 (w46.heap[gb101]? = some (.cells #[.int .i64 a0_0, .slice A0_1 l0_1.length c0_1] 29 (0, 0))) := ⟨h1_⟩; replace BK102 : Aside0 (w46.heap[gb102]? = some (.cells #[.int .i64 0, .slice none 0 0] 29 (0, 0))) := ⟨h2_⟩; have BK112 : Aside0 (w46.heap[gb112]? = some (.cells #[.int .i64 0, .slice none 0 0] 29 (0, 0))) := ⟨h3_⟩; have GW112 : Aside0 (w.heap.size ≤ gb112) := ⟨h4_⟩; have GE112 : Aside0 (w.heap.size ≤ gb112) := ⟨h5_⟩; have NB101_112 : Aside0 (gb101 ≠ gb112) := ⟨h6_⟩; have NB112_101 : Aside0 (gb112 ≠ gb101) := ⟨h7_⟩; have NB102_112 : Aside0 (gb102 ≠ gb112) := ⟨h8_⟩; have NB112_102 : Aside0 (gb112 ≠ gb102) := ⟨h9_⟩; replace HB : Aside0 (Below w.heap.size w w46) := ⟨h10_⟩; clear h0_ h1_ h2_ h3_ h4_ h5_ h6_ h7_ h8_ h9_ h10_; have hHeld : w46.cell? ⟨gb101, 0, none⟩ = some (.int .i64 a0_0) ∧ w46.cell? ⟨gb101, 1, none⟩ = some (.slice A0_1 l0_1.length c0_1) := hS_; obtain ⟨Ao47, co47, eo47⟩ := Kd.R_slice HO110.out
                        (first | subst eo47 | (injection eo47 with f1_ f2_ f3_; have f4_ := f1_.symm; have f5_ := f3_.symm; clear f1_ f2_ f3_; subst f4_; subst f5_))
                        refine norm_ (a' := ?_) ?_ ?_
                        rotate_left
                        ·simp only [putAll, Act.put, List.setIfInBounds_toArray, List.set_cons_zero, List.set_cons_succ]
                         rfl
                        refine two_ (i := 2) (j := 11) (Ni := some 34) (Nj := some 8) #[true, true, true, true, true, false, false, true, true, true, true, false, true, false, false] #[true, true, false, true, true, false, false, true, true, true, true, true, true, false, false] rfl rfl rfl rfl (two_of HT_.out (by kernel_rfl)) (by decide) (by decide) (fun K hK => ?_) (fun K hK => ?_)
                        ·skip
                         refine goes_ Try.func59 (by kernel_rfl) rfl #[.int .i64 a1, .int .i64 a2] (by rfl) rfl rfl Q4 ?_
                         with_reducible refine (spec_l1Least.calls a1 a2 t106 _ A39.out).mono ?_
                         rintro e w' ⟨rfl, ⟨nd, rfl⟩⟩; refine ⟨_, rfl, ?_⟩; refine hK.out _ _ ⟨(blk_cell BK101.out 0).trans rfl, (blk_cell BK101.out 1).trans rfl⟩ (fun hHeld => ?_); clear hK K; refine norm_ (a' := ?_) ?_ ?_
                         rotate_left
                         ·show Act.put _ (some 34) _ = _
                          simp only [Act.put, List.setIfInBounds_toArray, List.set_cons_zero, List.set_cons_succ, i64_w, i32_w]
                          rfl
                         exact norm_ Q2 (hJ2_9_12 (.slice Ao47 y108.length co47, gb112) _ ⟨hHeld, (Q3 HO110), (Q0 BK101), (Q0 BK102), (Q0 BK112), GW112.out, GE112.out, NB101_112.out, NB112_101.out, NB102_112.out, NB112_102.out, (Q1 HB)⟩)
                        ·skip
                         refine box_step ?hg (N := 8) ?hd (cs := #[.int .i64 0, .int .i64 0]) (t := 65) ?hr ?_; (case hd => rfl); (case hg => rfl); (case hr => first | (go_simp; done) | (go_simp; rfl)); intro gb111 hg w48 hbox hb; replace HO110 := am (Kd.R_below (Kd.R_elderB (Q3 HO110) gb111 (Nat.le_of_eq hg.symm)) hb); have BK111 := am (hbox); have GW111 := am ((Q25 : w.heap.size ≤ gb111)); have GE111 := am ((Q25 : w.heap.size ≤ gb111)); replace HB := am (below_step (Q1 HB) hb); have NB101_111 := am ((Q26 : gb101 ≠ gb111)); have NB111_101 := am ((Q27 : gb111 ≠ gb101)); replace BK101 := am (blk_below (g := gb101) (o := .cells #[.int .i64 a0_0, .slice A0_1 l0_1.length c0_1] 29 (0, 0)) (Q0 BK101) hb); have NB102_111 := am ((Q28 : gb102 ≠ gb111)); have NB111_102 := am ((Q29 : gb111 ≠ gb102)); replace BK102 := am (blk_below (g := gb102) (o := .cells #[.int .i64 0, .slice none 0 0] 29 (0, 0)) (Q0 BK102) hb); have NB112_111 := am ((Q35 : gb112 ≠ gb111)); have NB111_112 := am ((Q36 : gb111 ≠ gb112)); replace BK112 := am (blk_below (g := gb112) (o := .cells #[.int .i64 0, .slice none 0 0] 29 (0, 0)) (Q0 BK112) hb); clear hb hbox hg; refine hK.out _ _ ⟨(blk_cell BK101.out 0).trans rfl, (blk_cell BK101.out 1).trans rfl⟩ (fun hHeld => ?_); clear hK K; refine norm_ (a' := ?_) ?_ ?_
                         rotate_left
                         ·show Act.put _ (some 8) _ = _
                          simp only [Act.put, List.setIfInBounds_toArray, List.set_cons_zero, List.set_cons_succ, i64_w, i32_w]
                          rfl
                         exact norm_ Q2 (hJ9_11_12 (.slice Ao47 y108.length co47, gb111, gb112) _ ⟨hHeld, (Q12 HO110), (Q0 BK101), (Q0 BK102), (Q0 BK111), (Q0 BK112), GW111.out, GE111.out, NB101_111.out, NB111_101.out, NB102_111.out, NB111_102.out, NB112_111.out, NB111_112.out, GW112.out, GE112.out, NB101_112.out, NB112_101.out, NB102_112.out, NB112_102.out, (Q1 HB)⟩)
                      ·skip
                       rintro ⟨v109, gb111⟩ w46 ⟨hS_, h0_, h1_, h2_, h3_, h4_, h5_, h6_, h7_, h8_, h9_, h10_⟩; have HO110 : Aside0 (Kd.R k65 65 w46 w.heap.size (fun k_ => k_ ≠ gb111) v109 y108) := ⟨h0_⟩; replace BK101 : Aside0 (w46.heap[gb101]? = some (.cells #[.int .i64 a0_0, .slice A0_1 l0_1.length c0_1] 29 (0, 0))) := ⟨h1_⟩; replace BK102 : Aside0 (w46.heap[gb102]? = some (.cells #[.int .i64 0, .slice none 0 0] 29 (0, 0))) := ⟨h2_⟩; have BK111 : Aside0 (w46.heap[gb111]? = some (.cells #[.int .i64 0, .int .i64 0] 65 (0, 0))) := ⟨h3_⟩; have GW111 : Aside0 (w.heap.size ≤ gb111) := ⟨h4_⟩; have GE111 : Aside0 (w.heap.size ≤ gb111) := ⟨h5_⟩; have NB101_111 : Aside0 (gb101 ≠ gb111) := ⟨h6_⟩; have NB111_101 : Aside0 (gb111 ≠ gb101) := ⟨h7_⟩; have NB102_111 : Aside0 (gb102 ≠ gb111) := ⟨h8_⟩; have NB111_102 : Aside0 (gb111 ≠ gb102) := ⟨h9_⟩; replace HB : Aside0 (Below w.heap.size w w46) := ⟨h10_⟩; clear h0_ h1_ h2_ h3_ h4_ h5_ h6_ h7_ h8_ h9_ h10_; have hHeld : w46.cell? ⟨gb101, 0, none⟩ = some (.int .i64 a0_0) ∧ w46.cell? ⟨gb101, 1, none⟩ = some (.slice A0_1 l0_1.length c0_1) := hS_; obtain ⟨Ao47, co47, eo47⟩ := Kd.R_slice HO110.out
                       (first | subst eo47 | (injection eo47 with f1_ f2_ f3_; have f4_ := f1_.symm; have f5_ := f3_.symm; clear f1_ f2_ f3_; subst f4_; subst f5_))
                       refine norm_ (a' := ?_) ?_ ?_
                       rotate_left
                       ·simp only [putAll, Act.put, List.setIfInBounds_toArray, List.set_cons_zero, List.set_cons_succ]
                        rfl
                       refine two_ (i := 2) (j := 12) (Ni := some 34) (Nj := some 9) #[true, true, true, true, true, false, false, true, true, true, true, true, false, false, false] #[true, true, false, true, true, false, false, true, true, true, true, true, true, false, false] rfl rfl rfl rfl (two_of HT_.out (by kernel_rfl)) (by decide) (by decide) (fun K hK => ?_) (fun K hK => ?_)
                       ·skip
                        refine goes_ Try.func59 (by kernel_rfl) rfl #[.int .i64 a1, .int .i64 a2] (by rfl) rfl rfl Q4 ?_
                        with_reducible refine (spec_l1Least.calls a1 a2 t106 _ A39.out).mono ?_
                        rintro e w' ⟨rfl, ⟨nd, rfl⟩⟩; refine ⟨_, rfl, ?_⟩; refine hK.out _ _ ⟨(blk_cell BK101.out 0).trans rfl, (blk_cell BK101.out 1).trans rfl⟩ (fun hHeld => ?_); clear hK K; refine norm_ (a' := ?_) ?_ ?_
                        rotate_left
                        ·show Act.put _ (some 34) _ = _
                         simp only [Act.put, List.setIfInBounds_toArray, List.set_cons_zero, List.set_cons_succ, i64_w, i32_w]
                         rfl
                        exact norm_ Q2 (hJ2_9_11 (.slice Ao47 y108.length co47, gb111) _ ⟨hHeld, (Q3 HO110), (Q0 BK101), (Q0 BK102), (Q0 BK111), GW111.out, GE111.out, NB101_111.out, NB111_101.out, NB102_111.out, NB111_102.out, (Q1 HB)⟩)
                       ·skip
                        refine box_step ?hg (N := 9) ?hd (cs := #[.int .i64 0, .slice none 0 0]) (t := 29) ?hr ?_; (case hd => rfl); (case hg => rfl); (case hr => first | (go_simp; done) | (go_simp; rfl)); intro gb112 hg w48 hbox hb; replace HO110 := am (Kd.R_below (Q3 HO110) hb); have BK112 := am (hbox); have GW112 := am ((Q25 : w.heap.size ≤ gb112)); have GE112 := am ((Q25 : w.heap.size ≤ gb112)); replace HB := am (below_step (Q1 HB) hb); have NB101_112 := am ((Q26 : gb101 ≠ gb112)); have NB112_101 := am ((Q27 : gb112 ≠ gb101)); replace BK101 := am (blk_below (g := gb101) (o := .cells #[.int .i64 a0_0, .slice A0_1 l0_1.length c0_1] 29 (0, 0)) (Q0 BK101) hb); have NB102_112 := am ((Q28 : gb102 ≠ gb112)); have NB112_102 := am ((Q29 : gb112 ≠ gb102)); replace BK102 := am (blk_below (g := gb102) (o := .cells #[.int .i64 0, .slice none 0 0] 29 (0, 0)) (Q0 BK102) hb); have NB111_112 := am ((Q39 : gb111 ≠ gb112)); have NB112_111 := am ((Q40 : gb112 ≠ gb111)); replace BK111 := am (blk_below (g := gb111) (o := .cells #[.int .i64 0, .int .i64 0] 65 (0, 0)) (Q0 BK111) hb); clear hb hbox hg; refine hK.out _ _ ⟨(blk_cell BK101.out 0).trans rfl, (blk_cell BK101.out 1).trans rfl⟩ (fun hHeld => ?_); clear hK K; refine norm_ (a' := ?_) ?_ ?_
                        rotate_left
                        ·show Act.put _ (some 9) _ = _
                         simp only [Act.put, List.setIfInBounds_toArray, List.set_cons_zero, List.set_cons_succ, i64_w, i32_w]
                         rfl
                        exact norm_ Q2 (hJ9_11_12 (.slice Ao47 y108.length co47, gb111, gb112) _ ⟨hHeld, (Q3 HO110), (Q0 BK101), (Q0 BK102), (Q0 BK111), (Q0 BK112), GW111.out, GE111.out, NB101_111.out, NB111_101.out, NB102_111.out, NB111_102.out, NB112_111.out, NB111_112.out, GW112.out, GE112.out, NB101_112.out, NB112_101.out, NB102_112.out, NB112_102.out, (Q1 HB)⟩)
                     ·skip
                      rintro gb112 w43 ⟨hS_, h0_, h1_, h2_, h3_, h4_, h5_, h6_, h7_, h8_, h9_⟩; replace BK101 : Aside0 (w43.heap[gb101]? = some (.cells #[.int .i64 a0_0, .slice A0_1 l0_1.length c0_1] 29 (0, 0))) := ⟨h0_⟩; replace BK102 : Aside0 (w43.heap[gb102]? = some (.cells #[.int .i64 0, .slice none 0 0] 29 (0, 0))) := ⟨h1_⟩; have BK112 : Aside0 (w43.heap[gb112]? = some (.cells #[.int .i64 0, .slice none 0 0] 29 (0, 0))) := ⟨h2_⟩; have GW112 : Aside0 (w.heap.size ≤ gb112) := ⟨h3_⟩; have GE112 : Aside0 (w.heap.size ≤ gb112) := ⟨h4_⟩; have NB101_112 : Aside0 (gb101 ≠ gb112) := ⟨h5_⟩; have NB112_101 : Aside0 (gb112 ≠ gb101) := ⟨h6_⟩; have NB102_112 : Aside0 (gb102 ≠ gb112) := ⟨h7_⟩; have NB112_102 : Aside0 (gb112 ≠ gb102) := ⟨h8_⟩; replace HB : Aside0 (Below w.heap.size w w43) := ⟨h9_⟩; clear h0_ h1_ h2_ h3_ h4_ h5_ h6_ h7_ h8_ h9_; have hHeld : w43.cell? ⟨gb101, 0, none⟩ = some (.int .i64 a0_0) ∧ w43.cell? ⟨gb101, 1, none⟩ = some (.slice A0_1 l0_1.length c0_1) := hS_; refine norm_ (a' := ?_) ?_ ?_
                      rotate_left
                      ·simp only [putAll, Act.put, List.setIfInBounds_toArray, List.set_cons_zero, List.set_cons_succ]
                       rfl
                      refine three_ (i := 5) (j := 9) (k := 11) (Ni := some 37) (Nj := some 41) (Nk := some 8) #[true, true, true, true, true, true, false, true, true, false, false, false, true, false, false] #[true, true, true, true, true, false, false, true, true, true, false, false, true, false, false] #[true, true, true, true, true, false, false, true, true, false, false, true, true, false, false] rfl rfl rfl rfl rfl rfl (three_of HT_.out (by kernel_rfl)) (by decide) (by decide) (by decide) (fun K hK => ?_) (fun K hK => ?_) (fun K hK => ?_)
                      ·skip
                       refine goes_ Try.func60 (by kernel_rfl) rfl #[.int .i64 a1, .int .i64 a2] (by rfl) rfl rfl Q4 ?_
                       with_reducible refine (spec_l1Most.calls a1 a2 t107 _ A40.out).mono ?_
                       rintro e w' ⟨rfl, ⟨nd, rfl⟩⟩; refine ⟨_, rfl, ?_⟩; refine hK.out _ _ ⟨(blk_cell BK101.out 0).trans rfl, (blk_cell BK101.out 1).trans rfl⟩ (fun hHeld => ?_); clear hK K; refine norm_ (a' := ?_) ?_ ?_
                       rotate_left
                       ·show Act.put _ (some 37) _ = _
                        simp only [Act.put, List.setIfInBounds_toArray, List.set_cons_zero, List.set_cons_succ, i64_w, i32_w]
                        rfl
                       refine pq 6 38 rfl rfl HT_ ?_; exact norm_ Q2 (hJ2_5_12 (gb112) _ ⟨hHeld, (Q0 BK101), (Q0 BK102), (Q0 BK112), GW112.out, GE112.out, NB101_112.out, NB112_101.out, NB102_112.out, NB112_102.out, (Q1 HB)⟩)
                      ·skip
                       refine Kd.R_lit_step k65 _ 65 ?hg (N := 41) ?hd (xs := ([] : List (S65))) (inner := []) (ok := fun _ => True) (okp := fun _ => True) ?hr ?hp (fun _ hk => hk) trivial (Below.refl _ _) (Nat.le_refl _) (by simp) ?_; (case hd => rfl); (case hg => rfl); (case hr => first | (go_simp; done) | (go_simp; rfl)); (case hp => exact (Reps.none _ _)); intro v109 w44 ho45 hb hg_ hnew_; clear hg_ hnew_
                       (first | rw [← Ny108.out] at ho45 | (simp only [Int.reduceToNat] at ho45; rw [← Ny108.out] at ho45))
                       have HO110 := am (Kd.R_lower ho45 (below_size (Q1 HB))); replace BK101 := am (blk_below (g := gb101) (o := .cells #[.int .i64 a0_0, .slice A0_1 l0_1.length c0_1] 29 (0, 0)) (Q0 BK101) hb); replace BK102 := am (blk_below (g := gb102) (o := .cells #[.int .i64 0, .slice none 0 0] 29 (0, 0)) (Q0 BK102) hb); replace BK112 := am (blk_below (g := gb112) (o := .cells #[.int .i64 0, .slice none 0 0] 29 (0, 0)) (Q0 BK112) hb); replace HB := am (below_step (Q1 HB) hb); clear hb ho45; obtain ⟨Ao46, co46, eo46⟩ := Kd.R_slice HO110.out
                       (first | subst eo46 | (injection eo46 with f1_ f2_ f3_; have f4_ := f1_.symm; have f5_ := f3_.symm; clear f1_ f2_ f3_; subst f4_; subst f5_))
                       refine hK.out _ _ ⟨(blk_cell BK101.out 0).trans rfl, (blk_cell BK101.out 1).trans rfl⟩ (fun hHeld => ?_); clear hK K; refine norm_ (a' := ?_) ?_ ?_
                       rotate_left
                       ·show Act.put _ (some 41) _ = _
                        simp only [Act.put, List.setIfInBounds_toArray, List.set_cons_zero, List.set_cons_succ, i64_w, i32_w]
                        rfl
                       refine pq 10 42 rfl rfl HT_ ?_; exact norm_ Q2 (hJ2_9_12 (.slice Ao46 y108.length co46, gb112) _ ⟨hHeld, (Q3 HO110), (Q0 BK101), (Q0 BK102), (Q0 BK112), GW112.out, GE112.out, NB101_112.out, NB112_101.out, NB102_112.out, NB112_102.out, (Q1 HB)⟩)
                      ·skip
                       refine box_step ?hg (N := 8) ?hd (cs := #[.int .i64 0, .int .i64 0]) (t := 65) ?hr ?_; (case hd => rfl); (case hg => rfl); (case hr => first | (go_simp; done) | (go_simp; rfl)); intro gb111 hg w44 hbox hb; have BK111 := am (hbox); have GW111 := am ((Q25 : w.heap.size ≤ gb111)); have GE111 := am ((Q25 : w.heap.size ≤ gb111)); replace HB := am (below_step (Q1 HB) hb); have NB101_111 := am ((Q26 : gb101 ≠ gb111)); have NB111_101 := am ((Q27 : gb111 ≠ gb101)); replace BK101 := am (blk_below (g := gb101) (o := .cells #[.int .i64 a0_0, .slice A0_1 l0_1.length c0_1] 29 (0, 0)) (Q0 BK101) hb); have NB102_111 := am ((Q28 : gb102 ≠ gb111)); have NB111_102 := am ((Q29 : gb111 ≠ gb102)); replace BK102 := am (blk_below (g := gb102) (o := .cells #[.int .i64 0, .slice none 0 0] 29 (0, 0)) (Q0 BK102) hb); have NB112_111 := am ((Q35 : gb112 ≠ gb111)); have NB111_112 := am ((Q36 : gb111 ≠ gb112)); replace BK112 := am (blk_below (g := gb112) (o := .cells #[.int .i64 0, .slice none 0 0] 29 (0, 0)) (Q0 BK112) hb); clear hb hbox hg; refine hK.out _ _ ⟨(blk_cell BK101.out 0).trans rfl, (blk_cell BK101.out 1).trans rfl⟩ (fun hHeld => ?_); clear hK K; refine norm_ (a' := ?_) ?_ ?_
                       rotate_left
                       ·show Act.put _ (some 8) _ = _
                        simp only [Act.put, List.setIfInBounds_toArray, List.set_cons_zero, List.set_cons_succ, i64_w, i32_w]
                        rfl
                       exact norm_ Q2 (hJ2_11_12 (gb111, gb112) _ ⟨hHeld, (Q0 BK101), (Q0 BK102), (Q0 BK111), (Q0 BK112), GW111.out, GE111.out, NB101_111.out, NB111_101.out, NB102_111.out, NB111_102.out, NB112_111.out, NB111_112.out, GW112.out, GE112.out, NB101_112.out, NB112_101.out, NB102_112.out, NB112_102.out, (Q1 HB)⟩)
                    ·skip
                     rintro gb111 w43 ⟨hS_, h0_, h1_, h2_, h3_, h4_, h5_, h6_, h7_, h8_, h9_⟩; replace BK101 : Aside0 (w43.heap[gb101]? = some (.cells #[.int .i64 a0_0, .slice A0_1 l0_1.length c0_1] 29 (0, 0))) := ⟨h0_⟩; replace BK102 : Aside0 (w43.heap[gb102]? = some (.cells #[.int .i64 0, .slice none 0 0] 29 (0, 0))) := ⟨h1_⟩; have BK111 : Aside0 (w43.heap[gb111]? = some (.cells #[.int .i64 0, .int .i64 0] 65 (0, 0))) := ⟨h2_⟩; have GW111 : Aside0 (w.heap.size ≤ gb111) := ⟨h3_⟩; have GE111 : Aside0 (w.heap.size ≤ gb111) := ⟨h4_⟩; have NB101_111 : Aside0 (gb101 ≠ gb111) := ⟨h5_⟩; have NB111_101 : Aside0 (gb111 ≠ gb101) := ⟨h6_⟩; have NB102_111 : Aside0 (gb102 ≠ gb111) := ⟨h7_⟩; have NB111_102 : Aside0 (gb111 ≠ gb102) := ⟨h8_⟩; replace HB : Aside0 (Below w.heap.size w w43) := ⟨h9_⟩; clear h0_ h1_ h2_ h3_ h4_ h5_ h6_ h7_ h8_ h9_; have hHeld : w43.cell? ⟨gb101, 0, none⟩ = some (.int .i64 a0_0) ∧ w43.cell? ⟨gb101, 1, none⟩ = some (.slice A0_1 l0_1.length c0_1) := hS_; refine norm_ (a' := ?_) ?_ ?_
                     rotate_left
                     ·simp only [putAll, Act.put, List.setIfInBounds_toArray, List.set_cons_zero, List.set_cons_succ]
                      rfl
                     refine three_ (i := 5) (j := 9) (k := 12) (Ni := some 37) (Nj := some 41) (Nk := some 9) #[true, true, true, true, true, true, false, true, true, false, false, true, false, false, false] #[true, true, true, true, true, false, false, true, true, true, false, true, false, false, false] #[true, true, true, true, true, false, false, true, true, false, false, true, true, false, false] rfl rfl rfl rfl rfl rfl (three_of HT_.out (by kernel_rfl)) (by decide) (by decide) (by decide) (fun K hK => ?_) (fun K hK => ?_) (fun K hK => ?_)
                     ·skip
                      refine goes_ Try.func60 (by kernel_rfl) rfl #[.int .i64 a1, .int .i64 a2] (by rfl) rfl rfl Q4 ?_
                      with_reducible refine (spec_l1Most.calls a1 a2 t107 _ A40.out).mono ?_
                      rintro e w' ⟨rfl, ⟨nd, rfl⟩⟩; refine ⟨_, rfl, ?_⟩; refine hK.out _ _ ⟨(blk_cell BK101.out 0).trans rfl, (blk_cell BK101.out 1).trans rfl⟩ (fun hHeld => ?_); clear hK K; refine norm_ (a' := ?_) ?_ ?_
                      rotate_left
                      ·show Act.put _ (some 37) _ = _
                       simp only [Act.put, List.setIfInBounds_toArray, List.set_cons_zero, List.set_cons_succ, i64_w, i32_w]
                       rfl
                      refine pq 6 38 rfl rfl HT_ ?_; exact norm_ Q2 (hJ2_5_11 (gb111) _ ⟨hHeld, (Q0 BK101), (Q0 BK102), (Q0 BK111), GW111.out, GE111.out, NB101_111.out, NB111_101.out, NB102_111.out, NB111_102.out, (Q1 HB)⟩)
                     ·skip
                      refine Kd.R_lit_step k65 _ 65 ?hg (N := 41) ?hd (xs := ([] : List (S65))) (inner := []) (ok := fun _ => True) (okp := fun _ => True) ?hr ?hp (fun _ hk => hk) trivial (Below.refl _ _) (Nat.le_refl _) (by simp) ?_; (case hd => rfl); (case hg => rfl); (case hr => first | (go_simp; done) | (go_simp; rfl)); (case hp => exact (Reps.none _ _)); intro v109 w44 ho45 hb hg_ hnew_; clear hg_ hnew_
                      (first | rw [← Ny108.out] at ho45 | (simp only [Int.reduceToNat] at ho45; rw [← Ny108.out] at ho45))
                      have HO110 := am (Kd.R_lower (Kd.R_newB ho45 (g := gb111) (o := .cells #[.int .i64 0, .int .i64 0] 65 (0, 0)) (Q0 BK111)) (below_size (Q1 HB))); replace BK101 := am (blk_below (g := gb101) (o := .cells #[.int .i64 a0_0, .slice A0_1 l0_1.length c0_1] 29 (0, 0)) (Q0 BK101) hb); replace BK102 := am (blk_below (g := gb102) (o := .cells #[.int .i64 0, .slice none 0 0] 29 (0, 0)) (Q0 BK102) hb); replace BK111 := am (blk_below (g := gb111) (o := .cells #[.int .i64 0, .int .i64 0] 65 (0, 0)) (Q0 BK111) hb); replace HB := am (below_step (Q1 HB) hb); clear hb ho45; obtain ⟨Ao46, co46, eo46⟩ := Kd.R_slice HO110.out
                      (first | subst eo46 | (injection eo46 with f1_ f2_ f3_; have f4_ := f1_.symm; have f5_ := f3_.symm; clear f1_ f2_ f3_; subst f4_; subst f5_))
                      refine hK.out _ _ ⟨(blk_cell BK101.out 0).trans rfl, (blk_cell BK101.out 1).trans rfl⟩ (fun hHeld => ?_); clear hK K; refine norm_ (a' := ?_) ?_ ?_
                      rotate_left
                      ·show Act.put _ (some 41) _ = _
                       simp only [Act.put, List.setIfInBounds_toArray, List.set_cons_zero, List.set_cons_succ, i64_w, i32_w]
                       rfl
                      refine pq 10 42 rfl rfl HT_ ?_; exact norm_ Q2 (hJ2_9_11 (.slice Ao46 y108.length co46, gb111) _ ⟨hHeld, (Q12 HO110), (Q0 BK101), (Q0 BK102), (Q0 BK111), GW111.out, GE111.out, NB101_111.out, NB111_101.out, NB102_111.out, NB111_102.out, (Q1 HB)⟩)
                     ·skip
                      refine box_step ?hg (N := 9) ?hd (cs := #[.int .i64 0, .slice none 0 0]) (t := 29) ?hr ?_; (case hd => rfl); (case hg => rfl); (case hr => first | (go_simp; done) | (go_simp; rfl)); intro gb112 hg w44 hbox hb; have BK112 := am (hbox); have GW112 := am ((Q25 : w.heap.size ≤ gb112)); have GE112 := am ((Q25 : w.heap.size ≤ gb112)); replace HB := am (below_step (Q1 HB) hb); have NB101_112 := am ((Q26 : gb101 ≠ gb112)); have NB112_101 := am ((Q27 : gb112 ≠ gb101)); replace BK101 := am (blk_below (g := gb101) (o := .cells #[.int .i64 a0_0, .slice A0_1 l0_1.length c0_1] 29 (0, 0)) (Q0 BK101) hb); have NB102_112 := am ((Q28 : gb102 ≠ gb112)); have NB112_102 := am ((Q29 : gb112 ≠ gb102)); replace BK102 := am (blk_below (g := gb102) (o := .cells #[.int .i64 0, .slice none 0 0] 29 (0, 0)) (Q0 BK102) hb); have NB111_112 := am ((Q39 : gb111 ≠ gb112)); have NB112_111 := am ((Q40 : gb112 ≠ gb111)); replace BK111 := am (blk_below (g := gb111) (o := .cells #[.int .i64 0, .int .i64 0] 65 (0, 0)) (Q0 BK111) hb); clear hb hbox hg; refine hK.out _ _ ⟨(blk_cell BK101.out 0).trans rfl, (blk_cell BK101.out 1).trans rfl⟩ (fun hHeld => ?_); clear hK K; refine norm_ (a' := ?_) ?_ ?_
                      rotate_left
                      ·show Act.put _ (some 9) _ = _
                       simp only [Act.put, List.setIfInBounds_toArray, List.set_cons_zero, List.set_cons_succ, i64_w, i32_w]
                       rfl
                      exact norm_ Q2 (hJ2_11_12 (gb111, gb112) _ ⟨hHeld, (Q0 BK101), (Q0 BK102), (Q0 BK111), (Q0 BK112), GW111.out, GE111.out, NB101_111.out, NB111_101.out, NB102_111.out, NB111_102.out, NB112_111.out, NB111_112.out, GW112.out, GE112.out, NB101_112.out, NB112_101.out, NB102_112.out, NB112_102.out, (Q1 HB)⟩)
                   ·skip
                    rintro v109 w45 ⟨hS_, h0_, h1_, h2_, h3_⟩; have HO110 : Aside0 (Kd.R k65 65 w45 w.heap.size (fun _ => True) v109 y108) := ⟨h0_⟩; replace BK101 : Aside0 (w45.heap[gb101]? = some (.cells #[.int .i64 a0_0, .slice A0_1 l0_1.length c0_1] 29 (0, 0))) := ⟨h1_⟩; replace BK102 : Aside0 (w45.heap[gb102]? = some (.cells #[.int .i64 0, .slice none 0 0] 29 (0, 0))) := ⟨h2_⟩; replace HB : Aside0 (Below w.heap.size w w45) := ⟨h3_⟩; clear h0_ h1_ h2_ h3_; have hHeld : w45.cell? ⟨gb101, 0, none⟩ = some (.int .i64 a0_0) ∧ w45.cell? ⟨gb101, 1, none⟩ = some (.slice A0_1 l0_1.length c0_1) := hS_; obtain ⟨Ao46, co46, eo46⟩ := Kd.R_slice HO110.out
                    (first | subst eo46 | (injection eo46 with f1_ f2_ f3_; have f4_ := f1_.symm; have f5_ := f3_.symm; clear f1_ f2_ f3_; subst f4_; subst f5_))
                    refine norm_ (a' := ?_) ?_ ?_
                    rotate_left
                    ·simp only [putAll, Act.put, List.setIfInBounds_toArray, List.set_cons_zero, List.set_cons_succ]
                     rfl
                    refine three_ (i := 5) (j := 11) (k := 12) (Ni := some 37) (Nj := some 8) (Nk := some 9) #[true, true, true, true, true, true, false, true, true, true, true, false, false, false, false] #[true, true, true, true, true, false, false, true, true, true, true, true, false, false, false] #[true, true, true, true, true, false, false, true, true, true, true, false, true, false, false] rfl rfl rfl rfl rfl rfl (three_of HT_.out (by kernel_rfl)) (by decide) (by decide) (by decide) (fun K hK => ?_) (fun K hK => ?_) (fun K hK => ?_)
                    ·skip
                     refine goes_ Try.func60 (by kernel_rfl) rfl #[.int .i64 a1, .int .i64 a2] (by rfl) rfl rfl Q4 ?_
                     with_reducible refine (spec_l1Most.calls a1 a2 t107 _ A40.out).mono ?_
                     rintro e w' ⟨rfl, ⟨nd, rfl⟩⟩; refine ⟨_, rfl, ?_⟩; refine hK.out _ _ ⟨(blk_cell BK101.out 0).trans rfl, (blk_cell BK101.out 1).trans rfl⟩ (fun hHeld => ?_); clear hK K; refine norm_ (a' := ?_) ?_ ?_
                     rotate_left
                     ·show Act.put _ (some 37) _ = _
                      simp only [Act.put, List.setIfInBounds_toArray, List.set_cons_zero, List.set_cons_succ, i64_w, i32_w]
                      rfl
                     refine pq 6 38 rfl rfl HT_ ?_; exact norm_ Q2 (hJ2_5_9 (.slice Ao46 y108.length co46) _ ⟨hHeld, (Q3 HO110), (Q0 BK101), (Q0 BK102), (Q1 HB)⟩)
                    ·skip
                     refine box_step ?hg (N := 8) ?hd (cs := #[.int .i64 0, .int .i64 0]) (t := 65) ?hr ?_; (case hd => rfl); (case hg => rfl); (case hr => first | (go_simp; done) | (go_simp; rfl)); intro gb111 hg w47 hbox hb; replace HO110 := am (Kd.R_below (Kd.R_elderB (Q3 HO110) gb111 (Nat.le_of_eq hg.symm)) hb); have BK111 := am (hbox); have GW111 := am ((Q25 : w.heap.size ≤ gb111)); have GE111 := am ((Q25 : w.heap.size ≤ gb111)); replace HB := am (below_step (Q1 HB) hb); have NB101_111 := am ((Q26 : gb101 ≠ gb111)); have NB111_101 := am ((Q27 : gb111 ≠ gb101)); replace BK101 := am (blk_below (g := gb101) (o := .cells #[.int .i64 a0_0, .slice A0_1 l0_1.length c0_1] 29 (0, 0)) (Q0 BK101) hb); have NB102_111 := am ((Q28 : gb102 ≠ gb111)); have NB111_102 := am ((Q29 : gb111 ≠ gb102)); replace BK102 := am (blk_below (g := gb102) (o := .cells #[.int .i64 0, .slice none 0 0] 29 (0, 0)) (Q0 BK102) hb); clear hb hbox hg; refine hK.out _ _ ⟨(blk_cell BK101.out 0).trans rfl, (blk_cell BK101.out 1).trans rfl⟩ (fun hHeld => ?_); clear hK K; refine norm_ (a' := ?_) ?_ ?_
                     rotate_left
                     ·show Act.put _ (some 8) _ = _
                      simp only [Act.put, List.setIfInBounds_toArray, List.set_cons_zero, List.set_cons_succ, i64_w, i32_w]
                      rfl
                     exact norm_ Q2 (hJ2_9_11 (.slice Ao46 y108.length co46, gb111) _ ⟨hHeld, (Q12 HO110), (Q0 BK101), (Q0 BK102), (Q0 BK111), GW111.out, GE111.out, NB101_111.out, NB111_101.out, NB102_111.out, NB111_102.out, (Q1 HB)⟩)
                    ·skip
                     refine box_step ?hg (N := 9) ?hd (cs := #[.int .i64 0, .slice none 0 0]) (t := 29) ?hr ?_; (case hd => rfl); (case hg => rfl); (case hr => first | (go_simp; done) | (go_simp; rfl)); intro gb112 hg w47 hbox hb; replace HO110 := am (Kd.R_below (Q3 HO110) hb); have BK112 := am (hbox); have GW112 := am ((Q25 : w.heap.size ≤ gb112)); have GE112 := am ((Q25 : w.heap.size ≤ gb112)); replace HB := am (below_step (Q1 HB) hb); have NB101_112 := am ((Q26 : gb101 ≠ gb112)); have NB112_101 := am ((Q27 : gb112 ≠ gb101)); replace BK101 := am (blk_below (g := gb101) (o := .cells #[.int .i64 a0_0, .slice A0_1 l0_1.length c0_1] 29 (0, 0)) (Q0 BK101) hb); have NB102_112 := am ((Q28 : gb102 ≠ gb112)); have NB112_102 := am ((Q29 : gb112 ≠ gb102)); replace BK102 := am (blk_below (g := gb102) (o := .cells #[.int .i64 0, .slice none 0 0] 29 (0, 0)) (Q0 BK102) hb); clear hb hbox hg; refine hK.out _ _ ⟨(blk_cell BK101.out 0).trans rfl, (blk_cell BK101.out 1).trans rfl⟩ (fun hHeld => ?_); clear hK K; refine norm_ (a' := ?_) ?_ ?_
                     rotate_left
                     ·show Act.put _ (some 9) _ = _
                      simp only [Act.put, List.setIfInBounds_toArray, List.set_cons_zero, List.set_cons_succ, i64_w, i32_w]
                      rfl
                     exact norm_ Q2 (hJ2_9_12 (.slice Ao46 y108.length co46, gb112) _ ⟨hHeld, (Q3 HO110), (Q0 BK101), (Q0 BK102), (Q0 BK112), GW112.out, GE112.out, NB101_112.out, NB112_101.out, NB102_112.out, NB112_102.out, (Q1 HB)⟩)
                  ·skip
                   rintro _ w42 ⟨hS_, h0_, h1_, h2_⟩; replace BK101 : Aside0 (w42.heap[gb101]? = some (.cells #[.int .i64 a0_0, .slice A0_1 l0_1.length c0_1] 29 (0, 0))) := ⟨h0_⟩; replace BK102 : Aside0 (w42.heap[gb102]? = some (.cells #[.int .i64 0, .slice none 0 0] 29 (0, 0))) := ⟨h1_⟩; replace HB : Aside0 (Below w.heap.size w w42) := ⟨h2_⟩; clear h0_ h1_ h2_; have hHeld : w42.cell? ⟨gb101, 0, none⟩ = some (.int .i64 a0_0) ∧ w42.cell? ⟨gb101, 1, none⟩ = some (.slice A0_1 l0_1.length c0_1) := hS_; refine norm_ (a' := ?_) ?_ ?_
                   rotate_left
                   ·simp only [putAll, Act.put, List.setIfInBounds_toArray, List.set_cons_zero, List.set_cons_succ]
                    rfl
                   refine three_ (i := 9) (j := 11) (k := 12) (Ni := some 41) (Nj := some 8) (Nk := some 9) #[true, true, true, true, true, true, true, true, true, true, false, false, false, false, false] #[true, true, true, true, true, true, true, true, true, false, false, true, false, false, false] #[true, true, true, true, true, true, true, true, true, false, false, false, true, false, false] rfl rfl rfl rfl rfl rfl (three_of HT_.out (by kernel_rfl)) (by decide) (by decide) (by decide) (fun K hK => ?_) (fun K hK => ?_) (fun K hK => ?_)
                   ·skip
                    refine Kd.R_lit_step k65 _ 65 ?hg (N := 41) ?hd (xs := ([] : List (S65))) (inner := []) (ok := fun _ => True) (okp := fun _ => True) ?hr ?hp (fun _ hk => hk) trivial (Below.refl _ _) (Nat.le_refl _) (by simp) ?_; (case hd => rfl); (case hg => rfl); (case hr => first | (go_simp; done) | (go_simp; rfl)); (case hp => exact (Reps.none _ _)); intro v109 w43 ho44 hb hg_ hnew_; clear hg_ hnew_
                    (first | rw [← Ny108.out] at ho44 | (simp only [Int.reduceToNat] at ho44; rw [← Ny108.out] at ho44))
                    have HO110 := am (Kd.R_lower ho44 (below_size (Q1 HB))); replace BK101 := am (blk_below (g := gb101) (o := .cells #[.int .i64 a0_0, .slice A0_1 l0_1.length c0_1] 29 (0, 0)) (Q0 BK101) hb); replace BK102 := am (blk_below (g := gb102) (o := .cells #[.int .i64 0, .slice none 0 0] 29 (0, 0)) (Q0 BK102) hb); replace HB := am (below_step (Q1 HB) hb); clear hb ho44; obtain ⟨Ao45, co45, eo45⟩ := Kd.R_slice HO110.out
                    (first | subst eo45 | (injection eo45 with f1_ f2_ f3_; have f4_ := f1_.symm; have f5_ := f3_.symm; clear f1_ f2_ f3_; subst f4_; subst f5_))
                    refine hK.out _ _ ⟨(blk_cell BK101.out 0).trans rfl, (blk_cell BK101.out 1).trans rfl⟩ (fun hHeld => ?_); clear hK K; refine norm_ (a' := ?_) ?_ ?_
                    rotate_left
                    ·show Act.put _ (some 41) _ = _
                     simp only [Act.put, List.setIfInBounds_toArray, List.set_cons_zero, List.set_cons_succ, i64_w, i32_w]
                     rfl
                    refine pq 10 42 rfl rfl HT_ ?_; exact norm_ Q2 (hJ2_5_9 (.slice Ao45 y108.length co45) _ ⟨hHeld, (Q3 HO110), (Q0 BK101), (Q0 BK102), (Q1 HB)⟩)
                   ·skip
                    refine box_step ?hg (N := 8) ?hd (cs := #[.int .i64 0, .int .i64 0]) (t := 65) ?hr ?_; (case hd => rfl); (case hg => rfl); (case hr => first | (go_simp; done) | (go_simp; rfl)); intro gb111 hg w43 hbox hb; have BK111 := am (hbox); have GW111 := am ((Q25 : w.heap.size ≤ gb111)); have GE111 := am ((Q25 : w.heap.size ≤ gb111)); replace HB := am (below_step (Q1 HB) hb); have NB101_111 := am ((Q26 : gb101 ≠ gb111)); have NB111_101 := am ((Q27 : gb111 ≠ gb101)); replace BK101 := am (blk_below (g := gb101) (o := .cells #[.int .i64 a0_0, .slice A0_1 l0_1.length c0_1] 29 (0, 0)) (Q0 BK101) hb); have NB102_111 := am ((Q28 : gb102 ≠ gb111)); have NB111_102 := am ((Q29 : gb111 ≠ gb102)); replace BK102 := am (blk_below (g := gb102) (o := .cells #[.int .i64 0, .slice none 0 0] 29 (0, 0)) (Q0 BK102) hb); clear hb hbox hg; refine hK.out _ _ ⟨(blk_cell BK101.out 0).trans rfl, (blk_cell BK101.out 1).trans rfl⟩ (fun hHeld => ?_); clear hK K; refine norm_ (a' := ?_) ?_ ?_
                    rotate_left
                    ·show Act.put _ (some 8) _ = _
                     simp only [Act.put, List.setIfInBounds_toArray, List.set_cons_zero, List.set_cons_succ, i64_w, i32_w]
                     rfl
                    exact norm_ Q2 (hJ2_5_11 (gb111) _ ⟨hHeld, (Q0 BK101), (Q0 BK102), (Q0 BK111), GW111.out, GE111.out, NB101_111.out, NB111_101.out, NB102_111.out, NB111_102.out, (Q1 HB)⟩)
                   ·skip
                    refine box_step ?hg (N := 9) ?hd (cs := #[.int .i64 0, .slice none 0 0]) (t := 29) ?hr ?_; (case hd => rfl); (case hg => rfl); (case hr => first | (go_simp; done) | (go_simp; rfl)); intro gb112 hg w43 hbox hb; have BK112 := am (hbox); have GW112 := am ((Q25 : w.heap.size ≤ gb112)); have GE112 := am ((Q25 : w.heap.size ≤ gb112)); replace HB := am (below_step (Q1 HB) hb); have NB101_112 := am ((Q26 : gb101 ≠ gb112)); have NB112_101 := am ((Q27 : gb112 ≠ gb101)); replace BK101 := am (blk_below (g := gb101) (o := .cells #[.int .i64 a0_0, .slice A0_1 l0_1.length c0_1] 29 (0, 0)) (Q0 BK101) hb); have NB102_112 := am ((Q28 : gb102 ≠ gb112)); have NB112_102 := am ((Q29 : gb112 ≠ gb102)); replace BK102 := am (blk_below (g := gb102) (o := .cells #[.int .i64 0, .slice none 0 0] 29 (0, 0)) (Q0 BK102) hb); clear hb hbox hg; refine hK.out _ _ ⟨(blk_cell BK101.out 0).trans rfl, (blk_cell BK101.out 1).trans rfl⟩ (fun hHeld => ?_); clear hK K; refine norm_ (a' := ?_) ?_ ?_
                    rotate_left
                    ·show Act.put _ (some 9) _ = _
                     simp only [Act.put, List.setIfInBounds_toArray, List.set_cons_zero, List.set_cons_succ, i64_w, i32_w]
                     rfl
                    exact norm_ Q2 (hJ2_5_12 (gb112) _ ⟨hHeld, (Q0 BK101), (Q0 BK102), (Q0 BK112), GW112.out, GE112.out, NB101_112.out, NB112_101.out, NB102_112.out, NB112_102.out, (Q1 HB)⟩)
                 ·skip
                  rintro ⟨v109, gb111, gb112⟩ w47 ⟨hS_, h0_, h1_, h2_, h3_, h4_, h5_, h6_, h7_, h8_, h9_, h10_, h11_, h12_, h13_, h14_, h15_, h16_, h17_, h18_, h19_⟩; have HO110 : Aside0 (Kd.R k65 65 w47 w.heap.size (fun k_ => k_ ≠ gb111) v109 y108) := ⟨h0_⟩; replace BK101 : Aside0 (w47.heap[gb101]? = some (.cells #[.int .i64 a0_0, .slice A0_1 l0_1.length c0_1] 29 (0, 0))) := ⟨h1_⟩; replace BK102 : Aside0 (w47.heap[gb102]? = some (.cells #[.int .i64 0, .slice none 0 0] 29 (0, 0))) := ⟨h2_⟩; have BK111 : Aside0 (w47.heap[gb111]? = some (.cells #[.int .i64 0, .int .i64 0] 65 (0, 0))) := ⟨h3_⟩; have BK112 : Aside0 (w47.heap[gb112]? = some (.cells #[.int .i64 0, .slice none 0 0] 29 (0, 0))) := ⟨h4_⟩; have GW111 : Aside0 (w.heap.size ≤ gb111) := ⟨h5_⟩; have GE111 : Aside0 (w.heap.size ≤ gb111) := ⟨h6_⟩; have NB101_111 : Aside0 (gb101 ≠ gb111) := ⟨h7_⟩; have NB111_101 : Aside0 (gb111 ≠ gb101) := ⟨h8_⟩; have NB102_111 : Aside0 (gb102 ≠ gb111) := ⟨h9_⟩; have NB111_102 : Aside0 (gb111 ≠ gb102) := ⟨h10_⟩; have NB112_111 : Aside0 (gb112 ≠ gb111) := ⟨h11_⟩; have NB111_112 : Aside0 (gb111 ≠ gb112) := ⟨h12_⟩; have GW112 : Aside0 (w.heap.size ≤ gb112) := ⟨h13_⟩; have GE112 : Aside0 (w.heap.size ≤ gb112) := ⟨h14_⟩; have NB101_112 : Aside0 (gb101 ≠ gb112) := ⟨h15_⟩; have NB112_101 : Aside0 (gb112 ≠ gb101) := ⟨h16_⟩; have NB102_112 : Aside0 (gb102 ≠ gb112) := ⟨h17_⟩; have NB112_102 : Aside0 (gb112 ≠ gb102) := ⟨h18_⟩; replace HB : Aside0 (Below w.heap.size w w47) := ⟨h19_⟩; clear h0_ h1_ h2_ h3_ h4_ h5_ h6_ h7_ h8_ h9_ h10_ h11_ h12_ h13_ h14_ h15_ h16_ h17_ h18_ h19_; have hHeld : w47.cell? ⟨gb101, 0, none⟩ = some (.int .i64 a0_0) ∧ w47.cell? ⟨gb101, 1, none⟩ = some (.slice A0_1 l0_1.length c0_1) := hS_; obtain ⟨Ao48, co48, eo48⟩ := Kd.R_slice HO110.out
                  (first | subst eo48 | (injection eo48 with f1_ f2_ f3_; have f4_ := f1_.symm; have f5_ := f3_.symm; clear f1_ f2_ f3_; subst f4_; subst f5_))
                  refine norm_ (a' := ?_) ?_ ?_
                  rotate_left
                  ·simp only [putAll, Act.put, List.setIfInBounds_toArray, List.set_cons_zero, List.set_cons_succ]
                   rfl
                  refine oq 2 34 rfl rfl HT_ (fun K hK => ?_); refine goes_ Try.func59 (by kernel_rfl) rfl #[.int .i64 a1, .int .i64 a2] (by rfl) rfl rfl Q4 ?_
                  with_reducible refine (spec_l1Least.calls a1 a2 t106 _ A39.out).mono ?_
                  rintro e w' ⟨rfl, ⟨nd, rfl⟩⟩; refine ⟨_, rfl, ?_⟩; refine hK.out _ _ ⟨(blk_cell BK101.out 0).trans rfl, (blk_cell BK101.out 1).trans rfl⟩ (fun hHeld => ?_); clear hK K; refine norm_ (a' := ?_) ?_ ?_
                  rotate_left
                  ·show Act.put _ (some 34) _ = _
                   simp only [Act.put, List.setIfInBounds_toArray, List.set_cons_zero, List.set_cons_succ, i64_w, i32_w]
                   rfl
                  exact norm_ Q2 (hJ2_9_11_12 (.slice Ao48 y108.length co48, gb111, gb112) _ ⟨hHeld, (Q3 HO110), (Q0 BK101), (Q0 BK102), (Q0 BK111), (Q0 BK112), GW111.out, GE111.out, NB101_111.out, NB111_101.out, NB102_111.out, NB111_102.out, NB112_111.out, NB111_112.out, GW112.out, GE112.out, NB101_112.out, NB112_101.out, NB102_112.out, NB112_102.out, (Q1 HB)⟩)
                ·skip
                 rintro ⟨gb111, gb112⟩ w44 ⟨hS_, h0_, h1_, h2_, h3_, h4_, h5_, h6_, h7_, h8_, h9_, h10_, h11_, h12_, h13_, h14_, h15_, h16_, h17_, h18_⟩; replace BK101 : Aside0 (w44.heap[gb101]? = some (.cells #[.int .i64 a0_0, .slice A0_1 l0_1.length c0_1] 29 (0, 0))) := ⟨h0_⟩; replace BK102 : Aside0 (w44.heap[gb102]? = some (.cells #[.int .i64 0, .slice none 0 0] 29 (0, 0))) := ⟨h1_⟩; have BK111 : Aside0 (w44.heap[gb111]? = some (.cells #[.int .i64 0, .int .i64 0] 65 (0, 0))) := ⟨h2_⟩; have BK112 : Aside0 (w44.heap[gb112]? = some (.cells #[.int .i64 0, .slice none 0 0] 29 (0, 0))) := ⟨h3_⟩; have GW111 : Aside0 (w.heap.size ≤ gb111) := ⟨h4_⟩; have GE111 : Aside0 (w.heap.size ≤ gb111) := ⟨h5_⟩; have NB101_111 : Aside0 (gb101 ≠ gb111) := ⟨h6_⟩; have NB111_101 : Aside0 (gb111 ≠ gb101) := ⟨h7_⟩; have NB102_111 : Aside0 (gb102 ≠ gb111) := ⟨h8_⟩; have NB111_102 : Aside0 (gb111 ≠ gb102) := ⟨h9_⟩; have NB112_111 : Aside0 (gb112 ≠ gb111) := ⟨h10_⟩; have NB111_112 : Aside0 (gb111 ≠ gb112) := ⟨h11_⟩; have GW112 : Aside0 (w.heap.size ≤ gb112) := ⟨h12_⟩; have GE112 : Aside0 (w.heap.size ≤ gb112) := ⟨h13_⟩; have NB101_112 : Aside0 (gb101 ≠ gb112) := ⟨h14_⟩; have NB112_101 : Aside0 (gb112 ≠ gb101) := ⟨h15_⟩; have NB102_112 : Aside0 (gb102 ≠ gb112) := ⟨h16_⟩; have NB112_102 : Aside0 (gb112 ≠ gb102) := ⟨h17_⟩; replace HB : Aside0 (Below w.heap.size w w44) := ⟨h18_⟩; clear h0_ h1_ h2_ h3_ h4_ h5_ h6_ h7_ h8_ h9_ h10_ h11_ h12_ h13_ h14_ h15_ h16_ h17_ h18_; have hHeld : w44.cell? ⟨gb101, 0, none⟩ = some (.int .i64 a0_0) ∧ w44.cell? ⟨gb101, 1, none⟩ = some (.slice A0_1 l0_1.length c0_1) := hS_; refine norm_ (a' := ?_) ?_ ?_
                 rotate_left
                 ·simp only [putAll, Act.put, List.setIfInBounds_toArray, List.set_cons_zero, List.set_cons_succ]
                  rfl
                 refine two_ (i := 5) (j := 9) (Ni := some 37) (Nj := some 41) #[true, true, true, true, true, true, false, true, true, false, false, true, true, false, false] #[true, true, true, true, true, false, false, true, true, true, false, true, true, false, false] rfl rfl rfl rfl (two_of HT_.out (by kernel_rfl)) (by decide) (by decide) (fun K hK => ?_) (fun K hK => ?_)
                 ·skip
                  refine goes_ Try.func60 (by kernel_rfl) rfl #[.int .i64 a1, .int .i64 a2] (by rfl) rfl rfl Q4 ?_
                  with_reducible refine (spec_l1Most.calls a1 a2 t107 _ A40.out).mono ?_
                  rintro e w' ⟨rfl, ⟨nd, rfl⟩⟩; refine ⟨_, rfl, ?_⟩; refine hK.out _ _ ⟨(blk_cell BK101.out 0).trans rfl, (blk_cell BK101.out 1).trans rfl⟩ (fun hHeld => ?_); clear hK K; refine norm_ (a' := ?_) ?_ ?_
                  rotate_left
                  ·show Act.put _ (some 37) _ = _
                   simp only [Act.put, List.setIfInBounds_toArray, List.set_cons_zero, List.set_cons_succ, i64_w, i32_w]
                   rfl
                  refine pq 6 38 rfl rfl HT_ ?_; exact norm_ Q2 (hJ2_5_11_12 (gb111, gb112) _ ⟨hHeld, (Q0 BK101), (Q0 BK102), (Q0 BK111), (Q0 BK112), GW111.out, GE111.out, NB101_111.out, NB111_101.out, NB102_111.out, NB111_102.out, NB112_111.out, NB111_112.out, GW112.out, GE112.out, NB101_112.out, NB112_101.out, NB102_112.out, NB112_102.out, (Q1 HB)⟩)
                 ·skip
                  refine Kd.R_lit_step k65 _ 65 ?hg (N := 41) ?hd (xs := ([] : List (S65))) (inner := []) (ok := fun _ => True) (okp := fun _ => True) ?hr ?hp (fun _ hk => hk) trivial (Below.refl _ _) (Nat.le_refl _) (by simp) ?_; (case hd => rfl); (case hg => rfl); (case hr => first | (go_simp; done) | (go_simp; rfl)); (case hp => exact (Reps.none _ _)); intro v109 w45 ho46 hb hg_ hnew_; clear hg_ hnew_
                  (first | rw [← Ny108.out] at ho46 | (simp only [Int.reduceToNat] at ho46; rw [← Ny108.out] at ho46))
                  have HO110 := am (Kd.R_lower (Kd.R_newB ho46 (g := gb111) (o := .cells #[.int .i64 0, .int .i64 0] 65 (0, 0)) (Q0 BK111)) (below_size (Q1 HB))); replace BK101 := am (blk_below (g := gb101) (o := .cells #[.int .i64 a0_0, .slice A0_1 l0_1.length c0_1] 29 (0, 0)) (Q0 BK101) hb); replace BK102 := am (blk_below (g := gb102) (o := .cells #[.int .i64 0, .slice none 0 0] 29 (0, 0)) (Q0 BK102) hb); replace BK111 := am (blk_below (g := gb111) (o := .cells #[.int .i64 0, .int .i64 0] 65 (0, 0)) (Q0 BK111) hb); replace BK112 := am (blk_below (g := gb112) (o := .cells #[.int .i64 0, .slice none 0 0] 29 (0, 0)) (Q0 BK112) hb); replace HB := am (below_step (Q1 HB) hb); clear hb ho46; obtain ⟨Ao47, co47, eo47⟩ := Kd.R_slice HO110.out
                  (first | subst eo47 | (injection eo47 with f1_ f2_ f3_; have f4_ := f1_.symm; have f5_ := f3_.symm; clear f1_ f2_ f3_; subst f4_; subst f5_))
                  refine hK.out _ _ ⟨(blk_cell BK101.out 0).trans rfl, (blk_cell BK101.out 1).trans rfl⟩ (fun hHeld => ?_); clear hK K; refine norm_ (a' := ?_) ?_ ?_
                  rotate_left
                  ·show Act.put _ (some 41) _ = _
                   simp only [Act.put, List.setIfInBounds_toArray, List.set_cons_zero, List.set_cons_succ, i64_w, i32_w]
                   rfl
                  refine pq 10 42 rfl rfl HT_ ?_; exact norm_ Q2 (hJ2_9_11_12 (.slice Ao47 y108.length co47, gb111, gb112) _ ⟨hHeld, (Q12 HO110), (Q0 BK101), (Q0 BK102), (Q0 BK111), (Q0 BK112), GW111.out, GE111.out, NB101_111.out, NB111_101.out, NB102_111.out, NB111_102.out, NB112_111.out, NB111_112.out, GW112.out, GE112.out, NB101_112.out, NB112_101.out, NB102_112.out, NB112_102.out, (Q1 HB)⟩)
               ·skip
                rintro ⟨v109, gb112⟩ w46 ⟨hS_, h0_, h1_, h2_, h3_, h4_, h5_, h6_, h7_, h8_, h9_, h10_⟩; have HO110 : Aside0 (Kd.R k65 65 w46 w.heap.size (fun _ => True) v109 y108) := ⟨h0_⟩; replace BK101 : Aside0 (w46.heap[gb101]? = some (.cells #[.int .i64 a0_0, .slice A0_1 l0_1.length c0_1] 29 (0, 0))) := ⟨h1_⟩; replace BK102 : Aside0 (w46.heap[gb102]? = some (.cells #[.int .i64 0, .slice none 0 0] 29 (0, 0))) := ⟨h2_⟩; have BK112 : Aside0 (w46.heap[gb112]? = some (.cells #[.int .i64 0, .slice none 0 0] 29 (0, 0))) := ⟨h3_⟩; have GW112 : Aside0 (w.heap.size ≤ gb112) := ⟨h4_⟩; have GE112 : Aside0 (w.heap.size ≤ gb112) := ⟨h5_⟩; have NB101_112 : Aside0 (gb101 ≠ gb112) := ⟨h6_⟩; have NB112_101 : Aside0 (gb112 ≠ gb101) := ⟨h7_⟩; have NB102_112 : Aside0 (gb102 ≠ gb112) := ⟨h8_⟩; have NB112_102 : Aside0 (gb112 ≠ gb102) := ⟨h9_⟩; replace HB : Aside0 (Below w.heap.size w w46) := ⟨h10_⟩; clear h0_ h1_ h2_ h3_ h4_ h5_ h6_ h7_ h8_ h9_ h10_; have hHeld : w46.cell? ⟨gb101, 0, none⟩ = some (.int .i64 a0_0) ∧ w46.cell? ⟨gb101, 1, none⟩ = some (.slice A0_1 l0_1.length c0_1) := hS_; obtain ⟨Ao47, co47, eo47⟩ := Kd.R_slice HO110.out
                (first | subst eo47 | (injection eo47 with f1_ f2_ f3_; have f4_ := f1_.symm; have f5_ := f3_.symm; clear f1_ f2_ f3_; subst f4_; subst f5_))
                refine norm_ (a' := ?_) ?_ ?_
                rotate_left
                ·simp only [putAll, Act.put, List.setIfInBounds_toArray, List.set_cons_zero, List.set_cons_succ]
                 rfl
                refine two_ (i := 5) (j := 11) (Ni := some 37) (Nj := some 8) #[true, true, true, true, true, true, false, true, true, true, true, false, true, false, false] #[true, true, true, true, true, false, false, true, true, true, true, true, true, false, false] rfl rfl rfl rfl (two_of HT_.out (by kernel_rfl)) (by decide) (by decide) (fun K hK => ?_) (fun K hK => ?_)
                ·skip
                 refine goes_ Try.func60 (by kernel_rfl) rfl #[.int .i64 a1, .int .i64 a2] (by rfl) rfl rfl Q4 ?_
                 with_reducible refine (spec_l1Most.calls a1 a2 t107 _ A40.out).mono ?_
                 rintro e w' ⟨rfl, ⟨nd, rfl⟩⟩; refine ⟨_, rfl, ?_⟩; refine hK.out _ _ ⟨(blk_cell BK101.out 0).trans rfl, (blk_cell BK101.out 1).trans rfl⟩ (fun hHeld => ?_); clear hK K; refine norm_ (a' := ?_) ?_ ?_
                 rotate_left
                 ·show Act.put _ (some 37) _ = _
                  simp only [Act.put, List.setIfInBounds_toArray, List.set_cons_zero, List.set_cons_succ, i64_w, i32_w]
                  rfl
                 refine pq 6 38 rfl rfl HT_ ?_; exact norm_ Q2 (hJ2_5_9_12 (.slice Ao47 y108.length co47, gb112) _ ⟨hHeld, (Q3 HO110), (Q0 BK101), (Q0 BK102), (Q0 BK112), GW112.out, GE112.out, NB101_112.out, NB112_101.out, NB102_112.out, NB112_102.out, (Q1 HB)⟩)
                ·skip
                 refine box_step ?hg (N := 8) ?hd (cs := #[.int .i64 0, .int .i64 0]) (t := 65) ?hr ?_; (case hd => rfl); (case hg => rfl); (case hr => first | (go_simp; done) | (go_simp; rfl)); intro gb111 hg w48 hbox hb; replace HO110 := am (Kd.R_below (Kd.R_elderB (Q3 HO110) gb111 (Nat.le_of_eq hg.symm)) hb); have BK111 := am (hbox); have GW111 := am ((Q25 : w.heap.size ≤ gb111)); have GE111 := am ((Q25 : w.heap.size ≤ gb111)); replace HB := am (below_step (Q1 HB) hb); have NB101_111 := am ((Q26 : gb101 ≠ gb111)); have NB111_101 := am ((Q27 : gb111 ≠ gb101)); replace BK101 := am (blk_below (g := gb101) (o := .cells #[.int .i64 a0_0, .slice A0_1 l0_1.length c0_1] 29 (0, 0)) (Q0 BK101) hb); have NB102_111 := am ((Q28 : gb102 ≠ gb111)); have NB111_102 := am ((Q29 : gb111 ≠ gb102)); replace BK102 := am (blk_below (g := gb102) (o := .cells #[.int .i64 0, .slice none 0 0] 29 (0, 0)) (Q0 BK102) hb); have NB112_111 := am ((Q35 : gb112 ≠ gb111)); have NB111_112 := am ((Q36 : gb111 ≠ gb112)); replace BK112 := am (blk_below (g := gb112) (o := .cells #[.int .i64 0, .slice none 0 0] 29 (0, 0)) (Q0 BK112) hb); clear hb hbox hg; refine hK.out _ _ ⟨(blk_cell BK101.out 0).trans rfl, (blk_cell BK101.out 1).trans rfl⟩ (fun hHeld => ?_); clear hK K; refine norm_ (a' := ?_) ?_ ?_
                 rotate_left
                 ·show Act.put _ (some 8) _ = _
                  simp only [Act.put, List.setIfInBounds_toArray, List.set_cons_zero, List.set_cons_succ, i64_w, i32_w]
                  rfl
                 exact norm_ Q2 (hJ2_9_11_12 (.slice Ao47 y108.length co47, gb111, gb112) _ ⟨hHeld, (Q12 HO110), (Q0 BK101), (Q0 BK102), (Q0 BK111), (Q0 BK112), GW111.out, GE111.out, NB101_111.out, NB111_101.out, NB102_111.out, NB111_102.out, NB112_111.out, NB111_112.out, GW112.out, GE112.out, NB101_112.out, NB112_101.out, NB102_112.out, NB112_102.out, (Q1 HB)⟩)
              ·skip
               rintro ⟨v109, gb111⟩ w46 ⟨hS_, h0_, h1_, h2_, h3_, h4_, h5_, h6_, h7_, h8_, h9_, h10_⟩; have HO110 : Aside0 (Kd.R k65 65 w46 w.heap.size (fun k_ => k_ ≠ gb111) v109 y108) := ⟨h0_⟩; replace BK101 : Aside0 (w46.heap[gb101]? = some (.cells #[.int .i64 a0_0, .slice A0_1 l0_1.length c0_1] 29 (0, 0))) := ⟨h1_⟩; replace BK102 : Aside0 (w46.heap[gb102]? = some (.cells #[.int .i64 0, .slice none 0 0] 29 (0, 0))) := ⟨h2_⟩; have BK111 : Aside0 (w46.heap[gb111]? = some (.cells #[.int .i64 0, .int .i64 0] 65 (0, 0))) := ⟨h3_⟩; have GW111 : Aside0 (w.heap.size ≤ gb111) := ⟨h4_⟩; have GE111 : Aside0 (w.heap.size ≤ gb111) := ⟨h5_⟩; have NB101_111 : Aside0 (gb101 ≠ gb111) := ⟨h6_⟩; have NB111_101 : Aside0 (gb111 ≠ gb101) := ⟨h7_⟩; have NB102_111 : Aside0 (gb102 ≠ gb111) := ⟨h8_⟩; have NB111_102 : Aside0 (gb111 ≠ gb102) := ⟨h9_⟩; replace HB : Aside0 (Below w.heap.size w w46) := ⟨h10_⟩; clear h0_ h1_ h2_ h3_ h4_ h5_ h6_ h7_ h8_ h9_ h10_; have hHeld : w46.cell? ⟨gb101, 0, none⟩ = some (.int .i64 a0_0) ∧ w46.cell? ⟨gb101, 1, none⟩ = some (.slice A0_1 l0_1.length c0_1) := hS_; obtain ⟨Ao47, co47, eo47⟩ := Kd.R_slice HO110.out
               (first | subst eo47 | (injection eo47 with f1_ f2_ f3_; have f4_ := f1_.symm; have f5_ := f3_.symm; clear f1_ f2_ f3_; subst f4_; subst f5_))
               refine norm_ (a' := ?_) ?_ ?_
               rotate_left
               ·simp only [putAll, Act.put, List.setIfInBounds_toArray, List.set_cons_zero, List.set_cons_succ]
                rfl
               refine two_ (i := 5) (j := 12) (Ni := some 37) (Nj := some 9) #[true, true, true, true, true, true, false, true, true, true, true, true, false, false, false] #[true, true, true, true, true, false, false, true, true, true, true, true, true, false, false] rfl rfl rfl rfl (two_of HT_.out (by kernel_rfl)) (by decide) (by decide) (fun K hK => ?_) (fun K hK => ?_)
               ·skip
                refine goes_ Try.func60 (by kernel_rfl) rfl #[.int .i64 a1, .int .i64 a2] (by rfl) rfl rfl Q4 ?_
                with_reducible refine (spec_l1Most.calls a1 a2 t107 _ A40.out).mono ?_
                rintro e w' ⟨rfl, ⟨nd, rfl⟩⟩; refine ⟨_, rfl, ?_⟩; refine hK.out _ _ ⟨(blk_cell BK101.out 0).trans rfl, (blk_cell BK101.out 1).trans rfl⟩ (fun hHeld => ?_); clear hK K; refine norm_ (a' := ?_) ?_ ?_
                rotate_left
                ·show Act.put _ (some 37) _ = _
                 simp only [Act.put, List.setIfInBounds_toArray, List.set_cons_zero, List.set_cons_succ, i64_w, i32_w]
                 rfl
                refine pq 6 38 rfl rfl HT_ ?_; exact norm_ Q2 (hJ2_5_9_11 (.slice Ao47 y108.length co47, gb111) _ ⟨hHeld, (Q3 HO110), (Q0 BK101), (Q0 BK102), (Q0 BK111), GW111.out, GE111.out, NB101_111.out, NB111_101.out, NB102_111.out, NB111_102.out, (Q1 HB)⟩)
               ·skip
                refine box_step ?hg (N := 9) ?hd (cs := #[.int .i64 0, .slice none 0 0]) (t := 29) ?hr ?_; (case hd => rfl); (case hg => rfl); (case hr => first | (go_simp; done) | (go_simp; rfl)); intro gb112 hg w48 hbox hb; replace HO110 := am (Kd.R_below (Q3 HO110) hb); have BK112 := am (hbox); have GW112 := am ((Q25 : w.heap.size ≤ gb112)); have GE112 := am ((Q25 : w.heap.size ≤ gb112)); replace HB := am (below_step (Q1 HB) hb); have NB101_112 := am ((Q26 : gb101 ≠ gb112)); have NB112_101 := am ((Q27 : gb112 ≠ gb101)); replace BK101 := am (blk_below (g := gb101) (o := .cells #[.int .i64 a0_0, .slice A0_1 l0_1.length c0_1] 29 (0, 0)) (Q0 BK101) hb); have NB102_112 := am ((Q28 : gb102 ≠ gb112)); have NB112_102 := am ((Q29 : gb112 ≠ gb102)); replace BK102 := am (blk_below (g := gb102) (o := .cells #[.int .i64 0, .slice none 0 0] 29 (0, 0)) (Q0 BK102) hb); have NB111_112 := am ((Q39 : gb111 ≠ gb112)); have NB112_111 := am ((Q40 : gb112 ≠ gb111)); replace BK111 := am (blk_below (g := gb111) (o := .cells #[.int .i64 0, .int .i64 0] 65 (0, 0)) (Q0 BK111) hb); clear hb hbox hg; refine hK.out _ _ ⟨(blk_cell BK101.out 0).trans rfl, (blk_cell BK101.out 1).trans rfl⟩ (fun hHeld => ?_); clear hK K; refine norm_ (a' := ?_) ?_ ?_
                rotate_left
                ·show Act.put _ (some 9) _ = _
                 simp only [Act.put, List.setIfInBounds_toArray, List.set_cons_zero, List.set_cons_succ, i64_w, i32_w]
                 rfl
                exact norm_ Q2 (hJ2_9_11_12 (.slice Ao47 y108.length co47, gb111, gb112) _ ⟨hHeld, (Q3 HO110), (Q0 BK101), (Q0 BK102), (Q0 BK111), (Q0 BK112), GW111.out, GE111.out, NB101_111.out, NB111_101.out, NB102_111.out, NB111_102.out, NB112_111.out, NB111_112.out, GW112.out, GE112.out, NB101_112.out, NB112_101.out, NB102_112.out, NB112_102.out, (Q1 HB)⟩)
             ·skip
              rintro gb112 w43 ⟨hS_, h0_, h1_, h2_, h3_, h4_, h5_, h6_, h7_, h8_, h9_⟩; replace BK101 : Aside0 (w43.heap[gb101]? = some (.cells #[.int .i64 a0_0, .slice A0_1 l0_1.length c0_1] 29 (0, 0))) := ⟨h0_⟩; replace BK102 : Aside0 (w43.heap[gb102]? = some (.cells #[.int .i64 0, .slice none 0 0] 29 (0, 0))) := ⟨h1_⟩; have BK112 : Aside0 (w43.heap[gb112]? = some (.cells #[.int .i64 0, .slice none 0 0] 29 (0, 0))) := ⟨h2_⟩; have GW112 : Aside0 (w.heap.size ≤ gb112) := ⟨h3_⟩; have GE112 : Aside0 (w.heap.size ≤ gb112) := ⟨h4_⟩; have NB101_112 : Aside0 (gb101 ≠ gb112) := ⟨h5_⟩; have NB112_101 : Aside0 (gb112 ≠ gb101) := ⟨h6_⟩; have NB102_112 : Aside0 (gb102 ≠ gb112) := ⟨h7_⟩; have NB112_102 : Aside0 (gb112 ≠ gb102) := ⟨h8_⟩; replace HB : Aside0 (Below w.heap.size w w43) := ⟨h9_⟩; clear h0_ h1_ h2_ h3_ h4_ h5_ h6_ h7_ h8_ h9_; have hHeld : w43.cell? ⟨gb101, 0, none⟩ = some (.int .i64 a0_0) ∧ w43.cell? ⟨gb101, 1, none⟩ = some (.slice A0_1 l0_1.length c0_1) := hS_; refine norm_ (a' := ?_) ?_ ?_
              rotate_left
              ·simp only [putAll, Act.put, List.setIfInBounds_toArray, List.set_cons_zero, List.set_cons_succ]
               rfl
              refine two_ (i := 9) (j := 11) (Ni := some 41) (Nj := some 8) #[true, true, true, true, true, true, true, true, true, true, false, false, true, false, false] #[true, true, true, true, true, true, true, true, true, false, false, true, true, false, false] rfl rfl rfl rfl (two_of HT_.out (by kernel_rfl)) (by decide) (by decide) (fun K hK => ?_) (fun K hK => ?_)
              ·skip
               refine Kd.R_lit_step k65 _ 65 ?hg (N := 41) ?hd (xs := ([] : List (S65))) (inner := []) (ok := fun _ => True) (okp := fun _ => True) ?hr ?hp (fun _ hk => hk) trivial (Below.refl _ _) (Nat.le_refl _) (by simp) ?_; (case hd => rfl); (case hg => rfl); (case hr => first | (go_simp; done) | (go_simp; rfl)); (case hp => exact (Reps.none _ _)); intro v109 w44 ho45 hb hg_ hnew_; clear hg_ hnew_
               (first | rw [← Ny108.out] at ho45 | (simp only [Int.reduceToNat] at ho45; rw [← Ny108.out] at ho45))
               have HO110 := am (Kd.R_lower ho45 (below_size (Q1 HB))); replace BK101 := am (blk_below (g := gb101) (o := .cells #[.int .i64 a0_0, .slice A0_1 l0_1.length c0_1] 29 (0, 0)) (Q0 BK101) hb); replace BK102 := am (blk_below (g := gb102) (o := .cells #[.int .i64 0, .slice none 0 0] 29 (0, 0)) (Q0 BK102) hb); replace BK112 := am (blk_below (g := gb112) (o := .cells #[.int .i64 0, .slice none 0 0] 29 (0, 0)) (Q0 BK112) hb); replace HB := am (below_step (Q1 HB) hb); clear hb ho45; obtain ⟨Ao46, co46, eo46⟩ := Kd.R_slice HO110.out
               (first | subst eo46 | (injection eo46 with f1_ f2_ f3_; have f4_ := f1_.symm; have f5_ := f3_.symm; clear f1_ f2_ f3_; subst f4_; subst f5_))
               refine hK.out _ _ ⟨(blk_cell BK101.out 0).trans rfl, (blk_cell BK101.out 1).trans rfl⟩ (fun hHeld => ?_); clear hK K; refine norm_ (a' := ?_) ?_ ?_
               rotate_left
               ·show Act.put _ (some 41) _ = _
                simp only [Act.put, List.setIfInBounds_toArray, List.set_cons_zero, List.set_cons_succ, i64_w, i32_w]
                rfl
               refine pq 10 42 rfl rfl HT_ ?_; exact norm_ Q2 (hJ2_5_9_12 (.slice Ao46 y108.length co46, gb112) _ ⟨hHeld, (Q3 HO110), (Q0 BK101), (Q0 BK102), (Q0 BK112), GW112.out, GE112.out, NB101_112.out, NB112_101.out, NB102_112.out, NB112_102.out, (Q1 HB)⟩)
              ·skip
               refine box_step ?hg (N := 8) ?hd (cs := #[.int .i64 0, .int .i64 0]) (t := 65) ?hr ?_; (case hd => rfl); (case hg => rfl); (case hr => first | (go_simp; done) | (go_simp; rfl)); intro gb111 hg w44 hbox hb; have BK111 := am (hbox); have GW111 := am ((Q25 : w.heap.size ≤ gb111)); have GE111 := am ((Q25 : w.heap.size ≤ gb111)); replace HB := am (below_step (Q1 HB) hb); have NB101_111 := am ((Q26 : gb101 ≠ gb111)); have NB111_101 := am ((Q27 : gb111 ≠ gb101)); replace BK101 := am (blk_below (g := gb101) (o := .cells #[.int .i64 a0_0, .slice A0_1 l0_1.length c0_1] 29 (0, 0)) (Q0 BK101) hb); have NB102_111 := am ((Q28 : gb102 ≠ gb111)); have NB111_102 := am ((Q29 : gb111 ≠ gb102)); replace BK102 := am (blk_below (g := gb102) (o := .cells #[.int .i64 0, .slice none 0 0] 29 (0, 0)) (Q0 BK102) hb); have NB112_111 := am ((Q35 : gb112 ≠ gb111)); have NB111_112 := am ((Q36 : gb111 ≠ gb112)); replace BK112 := am (blk_below (g := gb112) (o := .cells #[.int .i64 0, .slice none 0 0] 29 (0, 0)) (Q0 BK112) hb); clear hb hbox hg; refine hK.out _ _ ⟨(blk_cell BK101.out 0).trans rfl, (blk_cell BK101.out 1).trans rfl⟩ (fun hHeld => ?_); clear hK K; refine norm_ (a' := ?_) ?_ ?_
               rotate_left
               ·show Act.put _ (some 8) _ = _
                simp only [Act.put, List.setIfInBounds_toArray, List.set_cons_zero, List.set_cons_succ, i64_w, i32_w]
                rfl
               exact norm_ Q2 (hJ2_5_11_12 (gb111, gb112) _ ⟨hHeld, (Q0 BK101), (Q0 BK102), (Q0 BK111), (Q0 BK112), GW111.out, GE111.out, NB101_111.out, NB111_101.out, NB102_111.out, NB111_102.out, NB112_111.out, NB111_112.out, GW112.out, GE112.out, NB101_112.out, NB112_101.out, NB102_112.out, NB112_102.out, (Q1 HB)⟩)
            ·skip
             rintro gb111 w43 ⟨hS_, h0_, h1_, h2_, h3_, h4_, h5_, h6_, h7_, h8_, h9_⟩; replace BK101 : Aside0 (w43.heap[gb101]? = some (.cells #[.int .i64 a0_0, .slice A0_1 l0_1.length c0_1] 29 (0, 0))) := ⟨h0_⟩; replace BK102 : Aside0 (w43.heap[gb102]? = some (.cells #[.int .i64 0, .slice none 0 0] 29 (0, 0))) := ⟨h1_⟩; have BK111 : Aside0 (w43.heap[gb111]? = some (.cells #[.int .i64 0, .int .i64 0] 65 (0, 0))) := ⟨h2_⟩; have GW111 : Aside0 (w.heap.size ≤ gb111) := ⟨h3_⟩; have GE111 : Aside0 (w.heap.size ≤ gb111) := ⟨h4_⟩; have NB101_111 : Aside0 (gb101 ≠ gb111) := ⟨h5_⟩; have NB111_101 : Aside0 (gb111 ≠ gb101) := ⟨h6_⟩; have NB102_111 : Aside0 (gb102 ≠ gb111) := ⟨h7_⟩; have NB111_102 : Aside0 (gb111 ≠ gb102) := ⟨h8_⟩; replace HB : Aside0 (Below w.heap.size w w43) := ⟨h9_⟩; clear h0_ h1_ h2_ h3_ h4_ h5_ h6_ h7_ h8_ h9_; have hHeld : w43.cell? ⟨gb101, 0, none⟩ = some (.int .i64 a0_0) ∧ w43.cell? ⟨gb101, 1, none⟩ = some (.slice A0_1 l0_1.length c0_1) := hS_; refine norm_ (a' := ?_) ?_ ?_
             rotate_left
             ·simp only [putAll, Act.put, List.setIfInBounds_toArray, List.set_cons_zero, List.set_cons_succ]
              rfl
             refine two_ (i := 9) (j := 12) (Ni := some 41) (Nj := some 9) #[true, true, true, true, true, true, true, true, true, true, false, true, false, false, false] #[true, true, true, true, true, true, true, true, true, false, false, true, true, false, false] rfl rfl rfl rfl (two_of HT_.out (by kernel_rfl)) (by decide) (by decide) (fun K hK => ?_) (fun K hK => ?_)
             ·skip
              refine Kd.R_lit_step k65 _ 65 ?hg (N := 41) ?hd (xs := ([] : List (S65))) (inner := []) (ok := fun _ => True) (okp := fun _ => True) ?hr ?hp (fun _ hk => hk) trivial (Below.refl _ _) (Nat.le_refl _) (by simp) ?_; (case hd => rfl); (case hg => rfl); (case hr => first | (go_simp; done) | (go_simp; rfl)); (case hp => exact (Reps.none _ _)); intro v109 w44 ho45 hb hg_ hnew_; clear hg_ hnew_
              (first | rw [← Ny108.out] at ho45 | (simp only [Int.reduceToNat] at ho45; rw [← Ny108.out] at ho45))
              have HO110 := am (Kd.R_lower (Kd.R_newB ho45 (g := gb111) (o := .cells #[.int .i64 0, .int .i64 0] 65 (0, 0)) (Q0 BK111)) (below_size (Q1 HB))); replace BK101 := am (blk_below (g := gb101) (o := .cells #[.int .i64 a0_0, .slice A0_1 l0_1.length c0_1] 29 (0, 0)) (Q0 BK101) hb); replace BK102 := am (blk_below (g := gb102) (o := .cells #[.int .i64 0, .slice none 0 0] 29 (0, 0)) (Q0 BK102) hb); replace BK111 := am (blk_below (g := gb111) (o := .cells #[.int .i64 0, .int .i64 0] 65 (0, 0)) (Q0 BK111) hb); replace HB := am (below_step (Q1 HB) hb); clear hb ho45; obtain ⟨Ao46, co46, eo46⟩ := Kd.R_slice HO110.out
              (first | subst eo46 | (injection eo46 with f1_ f2_ f3_; have f4_ := f1_.symm; have f5_ := f3_.symm; clear f1_ f2_ f3_; subst f4_; subst f5_))
              refine hK.out _ _ ⟨(blk_cell BK101.out 0).trans rfl, (blk_cell BK101.out 1).trans rfl⟩ (fun hHeld => ?_); clear hK K; refine norm_ (a' := ?_) ?_ ?_
              rotate_left
              ·show Act.put _ (some 41) _ = _
               simp only [Act.put, List.setIfInBounds_toArray, List.set_cons_zero, List.set_cons_succ, i64_w, i32_w]
               rfl
              refine pq 10 42 rfl rfl HT_ ?_; exact norm_ Q2 (hJ2_5_9_11 (.slice Ao46 y108.length co46, gb111) _ ⟨hHeld, (Q12 HO110), (Q0 BK101), (Q0 BK102), (Q0 BK111), GW111.out, GE111.out, NB101_111.out, NB111_101.out, NB102_111.out, NB111_102.out, (Q1 HB)⟩)
             ·skip
              refine box_step ?hg (N := 9) ?hd (cs := #[.int .i64 0, .slice none 0 0]) (t := 29) ?hr ?_; (case hd => rfl); (case hg => rfl); (case hr => first | (go_simp; done) | (go_simp; rfl)); intro gb112 hg w44 hbox hb; have BK112 := am (hbox); have GW112 := am ((Q25 : w.heap.size ≤ gb112)); have GE112 := am ((Q25 : w.heap.size ≤ gb112)); replace HB := am (below_step (Q1 HB) hb); have NB101_112 := am ((Q26 : gb101 ≠ gb112)); have NB112_101 := am ((Q27 : gb112 ≠ gb101)); replace BK101 := am (blk_below (g := gb101) (o := .cells #[.int .i64 a0_0, .slice A0_1 l0_1.length c0_1] 29 (0, 0)) (Q0 BK101) hb); have NB102_112 := am ((Q28 : gb102 ≠ gb112)); have NB112_102 := am ((Q29 : gb112 ≠ gb102)); replace BK102 := am (blk_below (g := gb102) (o := .cells #[.int .i64 0, .slice none 0 0] 29 (0, 0)) (Q0 BK102) hb); have NB111_112 := am ((Q39 : gb111 ≠ gb112)); have NB112_111 := am ((Q40 : gb112 ≠ gb111)); replace BK111 := am (blk_below (g := gb111) (o := .cells #[.int .i64 0, .int .i64 0] 65 (0, 0)) (Q0 BK111) hb); clear hb hbox hg; refine hK.out _ _ ⟨(blk_cell BK101.out 0).trans rfl, (blk_cell BK101.out 1).trans rfl⟩ (fun hHeld => ?_); clear hK K; refine norm_ (a' := ?_) ?_ ?_
              rotate_left
              ·show Act.put _ (some 9) _ = _
               simp only [Act.put, List.setIfInBounds_toArray, List.set_cons_zero, List.set_cons_succ, i64_w, i32_w]
               rfl
              exact norm_ Q2 (hJ2_5_11_12 (gb111, gb112) _ ⟨hHeld, (Q0 BK101), (Q0 BK102), (Q0 BK111), (Q0 BK112), GW111.out, GE111.out, NB101_111.out, NB111_101.out, NB102_111.out, NB111_102.out, NB112_111.out, NB111_112.out, GW112.out, GE112.out, NB101_112.out, NB112_101.out, NB102_112.out, NB112_102.out, (Q1 HB)⟩)
           ·skip
            rintro v109 w45 ⟨hS_, h0_, h1_, h2_, h3_⟩; have HO110 : Aside0 (Kd.R k65 65 w45 w.heap.size (fun _ => True) v109 y108) := ⟨h0_⟩; replace BK101 : Aside0 (w45.heap[gb101]? = some (.cells #[.int .i64 a0_0, .slice A0_1 l0_1.length c0_1] 29 (0, 0))) := ⟨h1_⟩; replace BK102 : Aside0 (w45.heap[gb102]? = some (.cells #[.int .i64 0, .slice none 0 0] 29 (0, 0))) := ⟨h2_⟩; replace HB : Aside0 (Below w.heap.size w w45) := ⟨h3_⟩; clear h0_ h1_ h2_ h3_; have hHeld : w45.cell? ⟨gb101, 0, none⟩ = some (.int .i64 a0_0) ∧ w45.cell? ⟨gb101, 1, none⟩ = some (.slice A0_1 l0_1.length c0_1) := hS_; obtain ⟨Ao46, co46, eo46⟩ := Kd.R_slice HO110.out
            (first | subst eo46 | (injection eo46 with f1_ f2_ f3_; have f4_ := f1_.symm; have f5_ := f3_.symm; clear f1_ f2_ f3_; subst f4_; subst f5_))
            refine norm_ (a' := ?_) ?_ ?_
            rotate_left
            ·simp only [putAll, Act.put, List.setIfInBounds_toArray, List.set_cons_zero, List.set_cons_succ]
             rfl
            refine two_ (i := 11) (j := 12) (Ni := some 8) (Nj := some 9) #[true, true, true, true, true, true, true, true, true, true, true, true, false, false, false] #[true, true, true, true, true, true, true, true, true, true, true, false, true, false, false] rfl rfl rfl rfl (two_of HT_.out (by kernel_rfl)) (by decide) (by decide) (fun K hK => ?_) (fun K hK => ?_)
            ·skip
             refine box_step ?hg (N := 8) ?hd (cs := #[.int .i64 0, .int .i64 0]) (t := 65) ?hr ?_; (case hd => rfl); (case hg => rfl); (case hr => first | (go_simp; done) | (go_simp; rfl)); intro gb111 hg w47 hbox hb; replace HO110 := am (Kd.R_below (Kd.R_elderB (Q3 HO110) gb111 (Nat.le_of_eq hg.symm)) hb); have BK111 := am (hbox); have GW111 := am ((Q25 : w.heap.size ≤ gb111)); have GE111 := am ((Q25 : w.heap.size ≤ gb111)); replace HB := am (below_step (Q1 HB) hb); have NB101_111 := am ((Q26 : gb101 ≠ gb111)); have NB111_101 := am ((Q27 : gb111 ≠ gb101)); replace BK101 := am (blk_below (g := gb101) (o := .cells #[.int .i64 a0_0, .slice A0_1 l0_1.length c0_1] 29 (0, 0)) (Q0 BK101) hb); have NB102_111 := am ((Q28 : gb102 ≠ gb111)); have NB111_102 := am ((Q29 : gb111 ≠ gb102)); replace BK102 := am (blk_below (g := gb102) (o := .cells #[.int .i64 0, .slice none 0 0] 29 (0, 0)) (Q0 BK102) hb); clear hb hbox hg; refine hK.out _ _ ⟨(blk_cell BK101.out 0).trans rfl, (blk_cell BK101.out 1).trans rfl⟩ (fun hHeld => ?_); clear hK K; refine norm_ (a' := ?_) ?_ ?_
             rotate_left
             ·show Act.put _ (some 8) _ = _
              simp only [Act.put, List.setIfInBounds_toArray, List.set_cons_zero, List.set_cons_succ, i64_w, i32_w]
              rfl
             exact norm_ Q2 (hJ2_5_9_11 (.slice Ao46 y108.length co46, gb111) _ ⟨hHeld, (Q12 HO110), (Q0 BK101), (Q0 BK102), (Q0 BK111), GW111.out, GE111.out, NB101_111.out, NB111_101.out, NB102_111.out, NB111_102.out, (Q1 HB)⟩)
            ·skip
             refine box_step ?hg (N := 9) ?hd (cs := #[.int .i64 0, .slice none 0 0]) (t := 29) ?hr ?_; (case hd => rfl); (case hg => rfl); (case hr => first | (go_simp; done) | (go_simp; rfl)); intro gb112 hg w47 hbox hb; replace HO110 := am (Kd.R_below (Q3 HO110) hb); have BK112 := am (hbox); have GW112 := am ((Q25 : w.heap.size ≤ gb112)); have GE112 := am ((Q25 : w.heap.size ≤ gb112)); replace HB := am (below_step (Q1 HB) hb); have NB101_112 := am ((Q26 : gb101 ≠ gb112)); have NB112_101 := am ((Q27 : gb112 ≠ gb101)); replace BK101 := am (blk_below (g := gb101) (o := .cells #[.int .i64 a0_0, .slice A0_1 l0_1.length c0_1] 29 (0, 0)) (Q0 BK101) hb); have NB102_112 := am ((Q28 : gb102 ≠ gb112)); have NB112_102 := am ((Q29 : gb112 ≠ gb102)); replace BK102 := am (blk_below (g := gb102) (o := .cells #[.int .i64 0, .slice none 0 0] 29 (0, 0)) (Q0 BK102) hb); clear hb hbox hg; refine hK.out _ _ ⟨(blk_cell BK101.out 0).trans rfl, (blk_cell BK101.out 1).trans rfl⟩ (fun hHeld => ?_); clear hK K; refine norm_ (a' := ?_) ?_ ?_
             rotate_left
             ·show Act.put _ (some 9) _ = _
              simp only [Act.put, List.setIfInBounds_toArray, List.set_cons_zero, List.set_cons_succ, i64_w, i32_w]
              rfl
             exact norm_ Q2 (hJ2_5_9_12 (.slice Ao46 y108.length co46, gb112) _ ⟨hHeld, (Q3 HO110), (Q0 BK101), (Q0 BK102), (Q0 BK112), GW112.out, GE112.out, NB101_112.out, NB112_101.out, NB102_112.out, NB112_102.out, (Q1 HB)⟩)
          ·skip
           rintro ⟨v109, gb111, gb112⟩ w47 ⟨hS_, h0_, h1_, h2_, h3_, h4_, h5_, h6_, h7_, h8_, h9_, h10_, h11_, h12_, h13_, h14_, h15_, h16_, h17_, h18_, h19_⟩; have HO110 : Aside0 (Kd.R k65 65 w47 w.heap.size (fun k_ => k_ ≠ gb111) v109 y108) := ⟨h0_⟩; replace BK101 : Aside0 (w47.heap[gb101]? = some (.cells #[.int .i64 a0_0, .slice A0_1 l0_1.length c0_1] 29 (0, 0))) := ⟨h1_⟩; replace BK102 : Aside0 (w47.heap[gb102]? = some (.cells #[.int .i64 0, .slice none 0 0] 29 (0, 0))) := ⟨h2_⟩; have BK111 : Aside0 (w47.heap[gb111]? = some (.cells #[.int .i64 0, .int .i64 0] 65 (0, 0))) := ⟨h3_⟩; have BK112 : Aside0 (w47.heap[gb112]? = some (.cells #[.int .i64 0, .slice none 0 0] 29 (0, 0))) := ⟨h4_⟩; have GW111 : Aside0 (w.heap.size ≤ gb111) := ⟨h5_⟩; have GE111 : Aside0 (w.heap.size ≤ gb111) := ⟨h6_⟩; have NB101_111 : Aside0 (gb101 ≠ gb111) := ⟨h7_⟩; have NB111_101 : Aside0 (gb111 ≠ gb101) := ⟨h8_⟩; have NB102_111 : Aside0 (gb102 ≠ gb111) := ⟨h9_⟩; have NB111_102 : Aside0 (gb111 ≠ gb102) := ⟨h10_⟩; have NB112_111 : Aside0 (gb112 ≠ gb111) := ⟨h11_⟩; have NB111_112 : Aside0 (gb111 ≠ gb112) := ⟨h12_⟩; have GW112 : Aside0 (w.heap.size ≤ gb112) := ⟨h13_⟩; have GE112 : Aside0 (w.heap.size ≤ gb112) := ⟨h14_⟩; have NB101_112 : Aside0 (gb101 ≠ gb112) := ⟨h15_⟩; have NB112_101 : Aside0 (gb112 ≠ gb101) := ⟨h16_⟩; have NB102_112 : Aside0 (gb102 ≠ gb112) := ⟨h17_⟩; have NB112_102 : Aside0 (gb112 ≠ gb102) := ⟨h18_⟩; replace HB : Aside0 (Below w.heap.size w w47) := ⟨h19_⟩; clear h0_ h1_ h2_ h3_ h4_ h5_ h6_ h7_ h8_ h9_ h10_ h11_ h12_ h13_ h14_ h15_ h16_ h17_ h18_ h19_; have hHeld : w47.cell? ⟨gb101, 0, none⟩ = some (.int .i64 a0_0) ∧ w47.cell? ⟨gb101, 1, none⟩ = some (.slice A0_1 l0_1.length c0_1) := hS_; obtain ⟨Ao48, co48, eo48⟩ := Kd.R_slice HO110.out
           (first | subst eo48 | (injection eo48 with f1_ f2_ f3_; have f4_ := f1_.symm; have f5_ := f3_.symm; clear f1_ f2_ f3_; subst f4_; subst f5_))
           refine norm_ (a' := ?_) ?_ ?_
           rotate_left
           ·simp only [putAll, Act.put, List.setIfInBounds_toArray, List.set_cons_zero, List.set_cons_succ]
            rfl
           refine oq 5 37 rfl rfl HT_ (fun K hK => ?_); refine goes_ Try.func60 (by kernel_rfl) rfl #[.int .i64 a1, .int .i64 a2] (by rfl) rfl rfl Q4 ?_
           with_reducible refine (spec_l1Most.calls a1 a2 t107 _ A40.out).mono ?_
           rintro e w' ⟨rfl, ⟨nd, rfl⟩⟩; refine ⟨_, rfl, ?_⟩; refine hK.out _ _ ⟨(blk_cell BK101.out 0).trans rfl, (blk_cell BK101.out 1).trans rfl⟩ (fun hHeld => ?_); clear hK K; refine norm_ (a' := ?_) ?_ ?_
           rotate_left
           ·show Act.put _ (some 37) _ = _
            simp only [Act.put, List.setIfInBounds_toArray, List.set_cons_zero, List.set_cons_succ, i64_w, i32_w]
            rfl
           refine pq 6 38 rfl rfl HT_ ?_; exact norm_ Q2 (hJ2_5_9_11_12 (.slice Ao48 y108.length co48, gb111, gb112) _ ⟨hHeld, (Q3 HO110), (Q0 BK101), (Q0 BK102), (Q0 BK111), (Q0 BK112), GW111.out, GE111.out, NB101_111.out, NB111_101.out, NB102_111.out, NB111_102.out, NB112_111.out, NB111_112.out, GW112.out, GE112.out, NB101_112.out, NB112_101.out, NB102_112.out, NB112_102.out, (Q1 HB)⟩)
         ·skip
          rintro ⟨gb111, gb112⟩ w44 ⟨hS_, h0_, h1_, h2_, h3_, h4_, h5_, h6_, h7_, h8_, h9_, h10_, h11_, h12_, h13_, h14_, h15_, h16_, h17_, h18_⟩; replace BK101 : Aside0 (w44.heap[gb101]? = some (.cells #[.int .i64 a0_0, .slice A0_1 l0_1.length c0_1] 29 (0, 0))) := ⟨h0_⟩; replace BK102 : Aside0 (w44.heap[gb102]? = some (.cells #[.int .i64 0, .slice none 0 0] 29 (0, 0))) := ⟨h1_⟩; have BK111 : Aside0 (w44.heap[gb111]? = some (.cells #[.int .i64 0, .int .i64 0] 65 (0, 0))) := ⟨h2_⟩; have BK112 : Aside0 (w44.heap[gb112]? = some (.cells #[.int .i64 0, .slice none 0 0] 29 (0, 0))) := ⟨h3_⟩; have GW111 : Aside0 (w.heap.size ≤ gb111) := ⟨h4_⟩; have GE111 : Aside0 (w.heap.size ≤ gb111) := ⟨h5_⟩; have NB101_111 : Aside0 (gb101 ≠ gb111) := ⟨h6_⟩; have NB111_101 : Aside0 (gb111 ≠ gb101) := ⟨h7_⟩; have NB102_111 : Aside0 (gb102 ≠ gb111) := ⟨h8_⟩; have NB111_102 : Aside0 (gb111 ≠ gb102) := ⟨h9_⟩; have NB112_111 : Aside0 (gb112 ≠ gb111) := ⟨h10_⟩; have NB111_112 : Aside0 (gb111 ≠ gb112) := ⟨h11_⟩; have GW112 : Aside0 (w.heap.size ≤ gb112) := ⟨h12_⟩; have GE112 : Aside0 (w.heap.size ≤ gb112) := ⟨h13_⟩; have NB101_112 : Aside0 (gb101 ≠ gb112) := ⟨h14_⟩; have NB112_101 : Aside0 (gb112 ≠ gb101) := ⟨h15_⟩; have NB102_112 : Aside0 (gb102 ≠ gb112) := ⟨h16_⟩; have NB112_102 : Aside0 (gb112 ≠ gb102) := ⟨h17_⟩; replace HB : Aside0 (Below w.heap.size w w44) := ⟨h18_⟩; clear h0_ h1_ h2_ h3_ h4_ h5_ h6_ h7_ h8_ h9_ h10_ h11_ h12_ h13_ h14_ h15_ h16_ h17_ h18_; have hHeld : w44.cell? ⟨gb101, 0, none⟩ = some (.int .i64 a0_0) ∧ w44.cell? ⟨gb101, 1, none⟩ = some (.slice A0_1 l0_1.length c0_1) := hS_; refine norm_ (a' := ?_) ?_ ?_
          rotate_left
          ·simp only [putAll, Act.put, List.setIfInBounds_toArray, List.set_cons_zero, List.set_cons_succ]
           rfl
          refine two_ (i := 9) (j := 13) (Ni := some 41) (Nj := none) #[true, true, true, true, true, true, true, true, true, true, false, true, true, false, false] #[true, true, true, true, true, true, true, true, true, false, false, true, true, true, false] rfl rfl rfl rfl (two_of HT_.out (by kernel_rfl)) (by decide) (by decide) (fun K hK => ?_) (fun K hK => ?_)
          ·skip
           refine Kd.R_lit_step k65 _ 65 ?hg (N := 41) ?hd (xs := ([] : List (S65))) (inner := []) (ok := fun _ => True) (okp := fun _ => True) ?hr ?hp (fun _ hk => hk) trivial (Below.refl _ _) (Nat.le_refl _) (by simp) ?_; (case hd => rfl); (case hg => rfl); (case hr => first | (go_simp; done) | (go_simp; rfl)); (case hp => exact (Reps.none _ _)); intro v109 w45 ho46 hb hg_ hnew_; clear hg_ hnew_
           (first | rw [← Ny108.out] at ho46 | (simp only [Int.reduceToNat] at ho46; rw [← Ny108.out] at ho46))
           have HO110 := am (Kd.R_lower (Kd.R_newB ho46 (g := gb111) (o := .cells #[.int .i64 0, .int .i64 0] 65 (0, 0)) (Q0 BK111)) (below_size (Q1 HB))); replace BK101 := am (blk_below (g := gb101) (o := .cells #[.int .i64 a0_0, .slice A0_1 l0_1.length c0_1] 29 (0, 0)) (Q0 BK101) hb); replace BK102 := am (blk_below (g := gb102) (o := .cells #[.int .i64 0, .slice none 0 0] 29 (0, 0)) (Q0 BK102) hb); replace BK111 := am (blk_below (g := gb111) (o := .cells #[.int .i64 0, .int .i64 0] 65 (0, 0)) (Q0 BK111) hb); replace BK112 := am (blk_below (g := gb112) (o := .cells #[.int .i64 0, .slice none 0 0] 29 (0, 0)) (Q0 BK112) hb); replace HB := am (below_step (Q1 HB) hb); clear hb ho46; obtain ⟨Ao47, co47, eo47⟩ := Kd.R_slice HO110.out
           (first | subst eo47 | (injection eo47 with f1_ f2_ f3_; have f4_ := f1_.symm; have f5_ := f3_.symm; clear f1_ f2_ f3_; subst f4_; subst f5_))
           refine hK.out _ _ ⟨(blk_cell BK101.out 0).trans rfl, (blk_cell BK101.out 1).trans rfl⟩ (fun hHeld => ?_); clear hK K; refine norm_ (a' := ?_) ?_ ?_
           rotate_left
           ·show Act.put _ (some 41) _ = _
            simp only [Act.put, List.setIfInBounds_toArray, List.set_cons_zero, List.set_cons_succ, i64_w, i32_w]
            rfl
           refine pq 10 42 rfl rfl HT_ ?_; exact norm_ Q2 (hJ2_5_9_11_12 (.slice Ao47 y108.length co47, gb111, gb112) _ ⟨hHeld, (Q12 HO110), (Q0 BK101), (Q0 BK102), (Q0 BK111), (Q0 BK112), GW111.out, GE111.out, NB101_111.out, NB111_101.out, NB102_111.out, NB111_102.out, NB112_111.out, NB111_112.out, GW112.out, GE112.out, NB101_112.out, NB112_101.out, NB102_112.out, NB112_102.out, (Q1 HB)⟩)
          ·skip
           have hs45 : w44.cell? ⟨gb111, 0, none⟩ = some (.int .i64 0) := (blk_cell BK111.out 0).trans rfl; have hfs45 := blk_frozen BK111.out 0; have hns45_0 := NB101_111.out; have hns45_1 := NB102_111.out; have hns45_3 := NB112_111.out; have hms45_0 := NB111_101.out; have hms45_1 := NB111_102.out; have hms45_3 := NB111_112.out; have hs46 : w44.cell? ⟨gb111, 1, none⟩ = some (.int .i64 0) := (blk_cell BK111.out 1).trans rfl; have hfs46 := blk_frozen BK111.out 1; have hns46_0 := NB101_111.out; have hns46_1 := NB102_111.out; have hns46_3 := NB112_111.out; have hms46_0 := NB111_101.out; have hms46_1 := NB111_102.out; have hms46_3 := NB111_112.out; refine skip_ (w1 := ?_) (by rfl) rfl ?_ ?_
           rotate_left
           ·go_simp
            rfl
           refine hK.out _ _ ⟨((cell_far (p := ⟨gb111, _, none⟩) NB101_111.out _).trans (((cell_far (p := ⟨gb111, _, none⟩) NB101_111.out _).trans (hHeld.1)))), ((cell_far (p := ⟨gb111, _, none⟩) NB101_111.out _).trans (((cell_far (p := ⟨gb111, _, none⟩) NB101_111.out _).trans (hHeld.2))))⟩ (fun hHeld => ?_); clear hK K; exact norm_ Q2 (hJ2_5_11_12_13 (gb111, gb112) _ ⟨hHeld, (Q5 NB101_111 BK101), (Q5 NB102_111 BK102), (Q48 BK111), (Q5 NB112_111 BK112), GW111.out, GE111.out, NB101_111.out, NB111_101.out, NB102_111.out, NB111_102.out, NB112_111.out, NB111_112.out, GW112.out, GE112.out, NB101_112.out, NB112_101.out, NB102_112.out, NB112_102.out, (Q6 HB GE111)⟩)
        ·skip
         rintro ⟨v109, gb112⟩ w46 ⟨hS_, h0_, h1_, h2_, h3_, h4_, h5_, h6_, h7_, h8_, h9_, h10_⟩; have HO110 : Aside0 (Kd.R k65 65 w46 w.heap.size (fun _ => True) v109 y108) := ⟨h0_⟩; replace BK101 : Aside0 (w46.heap[gb101]? = some (.cells #[.int .i64 a0_0, .slice A0_1 l0_1.length c0_1] 29 (0, 0))) := ⟨h1_⟩; replace BK102 : Aside0 (w46.heap[gb102]? = some (.cells #[.int .i64 0, .slice none 0 0] 29 (0, 0))) := ⟨h2_⟩; have BK112 : Aside0 (w46.heap[gb112]? = some (.cells #[.int .i64 0, .slice none 0 0] 29 (0, 0))) := ⟨h3_⟩; have GW112 : Aside0 (w.heap.size ≤ gb112) := ⟨h4_⟩; have GE112 : Aside0 (w.heap.size ≤ gb112) := ⟨h5_⟩; have NB101_112 : Aside0 (gb101 ≠ gb112) := ⟨h6_⟩; have NB112_101 : Aside0 (gb112 ≠ gb101) := ⟨h7_⟩; have NB102_112 : Aside0 (gb102 ≠ gb112) := ⟨h8_⟩; have NB112_102 : Aside0 (gb112 ≠ gb102) := ⟨h9_⟩; replace HB : Aside0 (Below w.heap.size w w46) := ⟨h10_⟩; clear h0_ h1_ h2_ h3_ h4_ h5_ h6_ h7_ h8_ h9_ h10_; have hHeld : w46.cell? ⟨gb101, 0, none⟩ = some (.int .i64 a0_0) ∧ w46.cell? ⟨gb101, 1, none⟩ = some (.slice A0_1 l0_1.length c0_1) := hS_; obtain ⟨Ao47, co47, eo47⟩ := Kd.R_slice HO110.out
         (first | subst eo47 | (injection eo47 with f1_ f2_ f3_; have f4_ := f1_.symm; have f5_ := f3_.symm; clear f1_ f2_ f3_; subst f4_; subst f5_))
         refine norm_ (a' := ?_) ?_ ?_
         rotate_left
         ·simp only [putAll, Act.put, List.setIfInBounds_toArray, List.set_cons_zero, List.set_cons_succ]
          rfl
         refine oq 11 8 rfl rfl HT_ (fun K hK => ?_); refine box_step ?hg (N := 8) ?hd (cs := #[.int .i64 0, .int .i64 0]) (t := 65) ?hr ?_; (case hd => rfl); (case hg => rfl); (case hr => first | (go_simp; done) | (go_simp; rfl)); intro gb111 hg w48 hbox hb; replace HO110 := am (Kd.R_below (Kd.R_elderB (Q3 HO110) gb111 (Nat.le_of_eq hg.symm)) hb); have BK111 := am (hbox); have GW111 := am ((Q25 : w.heap.size ≤ gb111)); have GE111 := am ((Q25 : w.heap.size ≤ gb111)); replace HB := am (below_step (Q1 HB) hb); have NB101_111 := am ((Q26 : gb101 ≠ gb111)); have NB111_101 := am ((Q27 : gb111 ≠ gb101)); replace BK101 := am (blk_below (g := gb101) (o := .cells #[.int .i64 a0_0, .slice A0_1 l0_1.length c0_1] 29 (0, 0)) (Q0 BK101) hb); have NB102_111 := am ((Q28 : gb102 ≠ gb111)); have NB111_102 := am ((Q29 : gb111 ≠ gb102)); replace BK102 := am (blk_below (g := gb102) (o := .cells #[.int .i64 0, .slice none 0 0] 29 (0, 0)) (Q0 BK102) hb); have NB112_111 := am ((Q35 : gb112 ≠ gb111)); have NB111_112 := am ((Q36 : gb111 ≠ gb112)); replace BK112 := am (blk_below (g := gb112) (o := .cells #[.int .i64 0, .slice none 0 0] 29 (0, 0)) (Q0 BK112) hb); clear hb hbox hg; refine hK.out _ _ ⟨(blk_cell BK101.out 0).trans rfl, (blk_cell BK101.out 1).trans rfl⟩ (fun hHeld => ?_); clear hK K; refine norm_ (a' := ?_) ?_ ?_
         rotate_left
         ·show Act.put _ (some 8) _ = _
          simp only [Act.put, List.setIfInBounds_toArray, List.set_cons_zero, List.set_cons_succ, i64_w, i32_w]
          rfl
         exact norm_ Q2 (hJ2_5_9_11_12 (.slice Ao47 y108.length co47, gb111, gb112) _ ⟨hHeld, (Q12 HO110), (Q0 BK101), (Q0 BK102), (Q0 BK111), (Q0 BK112), GW111.out, GE111.out, NB101_111.out, NB111_101.out, NB102_111.out, NB111_102.out, NB112_111.out, NB111_112.out, GW112.out, GE112.out, NB101_112.out, NB112_101.out, NB102_112.out, NB112_102.out, (Q1 HB)⟩)
       ·skip
        rintro ⟨v109, gb111⟩ w46 ⟨hS_, h0_, h1_, h2_, h3_, h4_, h5_, h6_, h7_, h8_, h9_, h10_⟩; have HO110 : Aside0 (Kd.R k65 65 w46 w.heap.size (fun k_ => k_ ≠ gb111) v109 y108) := ⟨h0_⟩; replace BK101 : Aside0 (w46.heap[gb101]? = some (.cells #[.int .i64 a0_0, .slice A0_1 l0_1.length c0_1] 29 (0, 0))) := ⟨h1_⟩; replace BK102 : Aside0 (w46.heap[gb102]? = some (.cells #[.int .i64 0, .slice none 0 0] 29 (0, 0))) := ⟨h2_⟩; have BK111 : Aside0 (w46.heap[gb111]? = some (.cells #[.int .i64 0, .int .i64 0] 65 (0, 0))) := ⟨h3_⟩; have GW111 : Aside0 (w.heap.size ≤ gb111) := ⟨h4_⟩; have GE111 : Aside0 (w.heap.size ≤ gb111) := ⟨h5_⟩; have NB101_111 : Aside0 (gb101 ≠ gb111) := ⟨h6_⟩; have NB111_101 : Aside0 (gb111 ≠ gb101) := ⟨h7_⟩; have NB102_111 : Aside0 (gb102 ≠ gb111) := ⟨h8_⟩; have NB111_102 : Aside0 (gb111 ≠ gb102) := ⟨h9_⟩; replace HB : Aside0 (Below w.heap.size w w46) := ⟨h10_⟩; clear h0_ h1_ h2_ h3_ h4_ h5_ h6_ h7_ h8_ h9_ h10_; have hHeld : w46.cell? ⟨gb101, 0, none⟩ = some (.int .i64 a0_0) ∧ w46.cell? ⟨gb101, 1, none⟩ = some (.slice A0_1 l0_1.length c0_1) := hS_; obtain ⟨Ao47, co47, eo47⟩ := Kd.R_slice HO110.out
        (first | subst eo47 | (injection eo47 with f1_ f2_ f3_; have f4_ := f1_.symm; have f5_ := f3_.symm; clear f1_ f2_ f3_; subst f4_; subst f5_))
        refine norm_ (a' := ?_) ?_ ?_
        rotate_left
        ·simp only [putAll, Act.put, List.setIfInBounds_toArray, List.set_cons_zero, List.set_cons_succ]
         rfl
        refine oq 12 9 rfl rfl HT_ (fun K hK => ?_); refine box_step ?hg (N := 9) ?hd (cs := #[.int .i64 0, .slice none 0 0]) (t := 29) ?hr ?_; (case hd => rfl); (case hg => rfl); (case hr => first | (go_simp; done) | (go_simp; rfl)); intro gb112 hg w48 hbox hb; replace HO110 := am (Kd.R_below (Q3 HO110) hb); have BK112 := am (hbox); have GW112 := am ((Q25 : w.heap.size ≤ gb112)); have GE112 := am ((Q25 : w.heap.size ≤ gb112)); replace HB := am (below_step (Q1 HB) hb); have NB101_112 := am ((Q26 : gb101 ≠ gb112)); have NB112_101 := am ((Q27 : gb112 ≠ gb101)); replace BK101 := am (blk_below (g := gb101) (o := .cells #[.int .i64 a0_0, .slice A0_1 l0_1.length c0_1] 29 (0, 0)) (Q0 BK101) hb); have NB102_112 := am ((Q28 : gb102 ≠ gb112)); have NB112_102 := am ((Q29 : gb112 ≠ gb102)); replace BK102 := am (blk_below (g := gb102) (o := .cells #[.int .i64 0, .slice none 0 0] 29 (0, 0)) (Q0 BK102) hb); have NB111_112 := am ((Q39 : gb111 ≠ gb112)); have NB112_111 := am ((Q40 : gb112 ≠ gb111)); replace BK111 := am (blk_below (g := gb111) (o := .cells #[.int .i64 0, .int .i64 0] 65 (0, 0)) (Q0 BK111) hb); clear hb hbox hg; refine hK.out _ _ ⟨(blk_cell BK101.out 0).trans rfl, (blk_cell BK101.out 1).trans rfl⟩ (fun hHeld => ?_); clear hK K; refine norm_ (a' := ?_) ?_ ?_
        rotate_left
        ·show Act.put _ (some 9) _ = _
         simp only [Act.put, List.setIfInBounds_toArray, List.set_cons_zero, List.set_cons_succ, i64_w, i32_w]
         rfl
        exact norm_ Q2 (hJ2_5_9_11_12 (.slice Ao47 y108.length co47, gb111, gb112) _ ⟨hHeld, (Q3 HO110), (Q0 BK101), (Q0 BK102), (Q0 BK111), (Q0 BK112), GW111.out, GE111.out, NB101_111.out, NB111_101.out, NB102_111.out, NB111_102.out, NB112_111.out, NB111_112.out, GW112.out, GE112.out, NB101_112.out, NB112_101.out, NB102_112.out, NB112_102.out, (Q1 HB)⟩)
      ·skip
       rintro ⟨gb111, gb112⟩ w46 ⟨hS_, h0_, h1_, h2_, h3_, h4_, h5_, h6_, h7_, h8_, h9_, h10_, h11_, h12_, h13_, h14_, h15_, h16_, h17_, h18_⟩; replace BK101 : Aside0 (w46.heap[gb101]? = some (.cells #[.int .i64 a0_0, .slice A0_1 l0_1.length c0_1] 29 (0, 0))) := ⟨h0_⟩; replace BK102 : Aside0 (w46.heap[gb102]? = some (.cells #[.int .i64 0, .slice none 0 0] 29 (0, 0))) := ⟨h1_⟩; have BK111 : Aside0 (w46.heap[gb111]? = some (.cells #[.int .i64 t106, .int .i64 t107] 65 (0, 0))) := ⟨h2_⟩; have BK112 : Aside0 (w46.heap[gb112]? = some (.cells #[.int .i64 0, .slice none 0 0] 29 (0, 0))) := ⟨h3_⟩; have GW111 : Aside0 (w.heap.size ≤ gb111) := ⟨h4_⟩; have GE111 : Aside0 (w.heap.size ≤ gb111) := ⟨h5_⟩; have NB101_111 : Aside0 (gb101 ≠ gb111) := ⟨h6_⟩; have NB111_101 : Aside0 (gb111 ≠ gb101) := ⟨h7_⟩; have NB102_111 : Aside0 (gb102 ≠ gb111) := ⟨h8_⟩; have NB111_102 : Aside0 (gb111 ≠ gb102) := ⟨h9_⟩; have NB112_111 : Aside0 (gb112 ≠ gb111) := ⟨h10_⟩; have NB111_112 : Aside0 (gb111 ≠ gb112) := ⟨h11_⟩; have GW112 : Aside0 (w.heap.size ≤ gb112) := ⟨h12_⟩; have GE112 : Aside0 (w.heap.size ≤ gb112) := ⟨h13_⟩; have NB101_112 : Aside0 (gb101 ≠ gb112) := ⟨h14_⟩; have NB112_101 : Aside0 (gb112 ≠ gb101) := ⟨h15_⟩; have NB102_112 : Aside0 (gb102 ≠ gb112) := ⟨h16_⟩; have NB112_102 : Aside0 (gb112 ≠ gb102) := ⟨h17_⟩; replace HB : Aside0 (Below w.heap.size w w46) := ⟨h18_⟩; clear h0_ h1_ h2_ h3_ h4_ h5_ h6_ h7_ h8_ h9_ h10_ h11_ h12_ h13_ h14_ h15_ h16_ h17_ h18_; have hHeld : w46.cell? ⟨gb101, 0, none⟩ = some (.int .i64 a0_0) ∧ w46.cell? ⟨gb101, 1, none⟩ = some (.slice A0_1 l0_1.length c0_1) := hS_; refine norm_ (a' := ?_) ?_ ?_
       rotate_left
       ·simp only [putAll, Act.put, List.setIfInBounds_toArray, List.set_cons_zero, List.set_cons_succ]
        rfl
       refine oq 9 41 rfl rfl HT_ (fun K hK => ?_); refine Kd.R_lit_step k65 _ 65 ?hg (N := 41) ?hd (xs := ([] : List (S65))) (inner := []) (ok := fun _ => True) (okp := fun _ => True) ?hr ?hp (fun _ hk => hk) trivial (Below.refl _ _) (Nat.le_refl _) (by simp) ?_; (case hd => rfl); (case hg => rfl); (case hr => first | (go_simp; done) | (go_simp; rfl)); (case hp => exact (Reps.none _ _)); intro v109 w47 ho48 hb hg_ hnew_; clear hg_ hnew_
       (first | rw [← Ny108.out] at ho48 | (simp only [Int.reduceToNat] at ho48; rw [← Ny108.out] at ho48))
       have HO110 := am (Kd.R_lower (Kd.R_newB ho48 (g := gb111) (o := .cells #[.int .i64 t106, .int .i64 t107] 65 (0, 0)) (Q0 BK111)) (below_size (Q1 HB))); replace BK101 := am (blk_below (g := gb101) (o := .cells #[.int .i64 a0_0, .slice A0_1 l0_1.length c0_1] 29 (0, 0)) (Q0 BK101) hb); replace BK102 := am (blk_below (g := gb102) (o := .cells #[.int .i64 0, .slice none 0 0] 29 (0, 0)) (Q0 BK102) hb); replace BK111 := am (blk_below (g := gb111) (o := .cells #[.int .i64 t106, .int .i64 t107] 65 (0, 0)) (Q0 BK111) hb); replace BK112 := am (blk_below (g := gb112) (o := .cells #[.int .i64 0, .slice none 0 0] 29 (0, 0)) (Q0 BK112) hb); replace HB := am (below_step (Q1 HB) hb); clear hb ho48; obtain ⟨Ao49, co49, eo49⟩ := Kd.R_slice HO110.out
       (first | subst eo49 | (injection eo49 with f1_ f2_ f3_; have f4_ := f1_.symm; have f5_ := f3_.symm; clear f1_ f2_ f3_; subst f4_; subst f5_))
       refine hK.out _ _ ⟨(blk_cell BK101.out 0).trans rfl, (blk_cell BK101.out 1).trans rfl⟩ (fun hHeld => ?_); clear hK K; refine norm_ (a' := ?_) ?_ ?_
       rotate_left
       ·show Act.put _ (some 41) _ = _
        simp only [Act.put, List.setIfInBounds_toArray, List.set_cons_zero, List.set_cons_succ, i64_w, i32_w]
        rfl
       refine pq 10 42 rfl rfl HT_ ?_; exact norm_ Q2 (hJ2_5_9_11_12_13 (.slice Ao49 y108.length co49, gb111, gb112) _ ⟨hHeld, (Q12 HO110), (Q0 BK101), (Q0 BK102), (Q0 BK111), (Q0 BK112), GW111.out, GE111.out, NB101_111.out, NB111_101.out, NB102_111.out, NB111_102.out, NB112_111.out, NB111_112.out, GW112.out, GE112.out, NB101_112.out, NB112_101.out, NB102_112.out, NB112_102.out, (Q1 HB)⟩)
     ·skip
      rintro ⟨v109, gb111, gb112⟩ w47 ⟨hS_, h0_, h1_, h2_, h3_, h4_, h5_, h6_, h7_, h8_, h9_, h10_, h11_, h12_, h13_, h14_, h15_, h16_, h17_, h18_, h19_⟩; have HO110 : Aside0 (Kd.R k65 65 w47 w.heap.size (fun k_ => k_ ≠ gb111) v109 y108) := ⟨h0_⟩; replace BK101 : Aside0 (w47.heap[gb101]? = some (.cells #[.int .i64 a0_0, .slice A0_1 l0_1.length c0_1] 29 (0, 0))) := ⟨h1_⟩; replace BK102 : Aside0 (w47.heap[gb102]? = some (.cells #[.int .i64 0, .slice none 0 0] 29 (0, 0))) := ⟨h2_⟩; have BK111 : Aside0 (w47.heap[gb111]? = some (.cells #[.int .i64 0, .int .i64 0] 65 (0, 0))) := ⟨h3_⟩; have BK112 : Aside0 (w47.heap[gb112]? = some (.cells #[.int .i64 0, .slice none 0 0] 29 (0, 0))) := ⟨h4_⟩; have GW111 : Aside0 (w.heap.size ≤ gb111) := ⟨h5_⟩; have GE111 : Aside0 (w.heap.size ≤ gb111) := ⟨h6_⟩; have NB101_111 : Aside0 (gb101 ≠ gb111) := ⟨h7_⟩; have NB111_101 : Aside0 (gb111 ≠ gb101) := ⟨h8_⟩; have NB102_111 : Aside0 (gb102 ≠ gb111) := ⟨h9_⟩; have NB111_102 : Aside0 (gb111 ≠ gb102) := ⟨h10_⟩; have NB112_111 : Aside0 (gb112 ≠ gb111) := ⟨h11_⟩; have NB111_112 : Aside0 (gb111 ≠ gb112) := ⟨h12_⟩; have GW112 : Aside0 (w.heap.size ≤ gb112) := ⟨h13_⟩; have GE112 : Aside0 (w.heap.size ≤ gb112) := ⟨h14_⟩; have NB101_112 : Aside0 (gb101 ≠ gb112) := ⟨h15_⟩; have NB112_101 : Aside0 (gb112 ≠ gb101) := ⟨h16_⟩; have NB102_112 : Aside0 (gb102 ≠ gb112) := ⟨h17_⟩; have NB112_102 : Aside0 (gb112 ≠ gb102) := ⟨h18_⟩; replace HB : Aside0 (Below w.heap.size w w47) := ⟨h19_⟩; clear h0_ h1_ h2_ h3_ h4_ h5_ h6_ h7_ h8_ h9_ h10_ h11_ h12_ h13_ h14_ h15_ h16_ h17_ h18_ h19_; have hHeld : w47.cell? ⟨gb101, 0, none⟩ = some (.int .i64 a0_0) ∧ w47.cell? ⟨gb101, 1, none⟩ = some (.slice A0_1 l0_1.length c0_1) := hS_; obtain ⟨Ao48, co48, eo48⟩ := Kd.R_slice HO110.out
      (first | subst eo48 | (injection eo48 with f1_ f2_ f3_; have f4_ := f1_.symm; have f5_ := f3_.symm; clear f1_ f2_ f3_; subst f4_; subst f5_))
      refine norm_ (a' := ?_) ?_ ?_
      rotate_left
      ·simp only [putAll, Act.put, List.setIfInBounds_toArray, List.set_cons_zero, List.set_cons_succ]
       rfl
      refine one_ (i := 13) (N := none) #[true, true, true, true, true, true, true, true, true, true, true, true, true, true, false] rfl rfl (one_of HT_.out (by kernel_rfl)) (by decide) (fun K hK => ?_); have hs49 : w47.cell? ⟨gb111, 0, none⟩ = some (.int .i64 0) := (blk_cell BK111.out 0).trans rfl; have hfs49 := blk_frozen BK111.out 0; have hns49_0 := NB101_111.out; have hns49_1 := NB102_111.out; have hns49_3 := NB112_111.out; have hms49_0 := NB111_101.out; have hms49_1 := NB111_102.out; have hms49_3 := NB111_112.out; have hs50 : w47.cell? ⟨gb111, 1, none⟩ = some (.int .i64 0) := (blk_cell BK111.out 1).trans rfl; have hfs50 := blk_frozen BK111.out 1; have hns50_0 := NB101_111.out; have hns50_1 := NB102_111.out; have hns50_3 := NB112_111.out; have hms50_0 := NB111_101.out; have hms50_1 := NB111_102.out; have hms50_3 := NB111_112.out; refine skip_ (w1 := ?_) (by rfl) rfl ?_ ?_
      rotate_left
      ·go_simp
       rfl
      refine hK.out _ _ ⟨((cell_far (p := ⟨gb111, _, none⟩) NB101_111.out _).trans (((cell_far (p := ⟨gb111, _, none⟩) NB101_111.out _).trans (hHeld.1)))), ((cell_far (p := ⟨gb111, _, none⟩) NB101_111.out _).trans (((cell_far (p := ⟨gb111, _, none⟩) NB101_111.out _).trans (hHeld.2))))⟩ (fun hHeld => ?_); clear hK K; exact norm_ Q2 (hJ2_5_9_11_12_13 (.slice Ao48 y108.length co48, gb111, gb112) _ ⟨hHeld, (by (with_reducible repeat (first | apply Kd.R_alloc | apply Kd.R_drewN | apply Kd.R_drew)); exact Kd.R_mono (Kd.R_far (p := ⟨gb111, 1, none⟩) (Kd.R_far (p := ⟨gb111, 0, none⟩) (Kd.R_mono HO110.out (fun k_ hk => (⟨hk, hk⟩ : _ ∧ k_ ≠ gb111))) (fun _ hk => hk.2) (.int .i64 t106)) (fun _ hk => hk.2) (.int .i64 t107)) (fun _ hk => hk.1)), (Q5 NB101_111 BK101), (Q5 NB102_111 BK102), (Q48 BK111), (Q5 NB112_111 BK112), GW111.out, GE111.out, NB101_111.out, NB111_101.out, NB102_111.out, NB111_102.out, NB112_111.out, NB111_112.out, GW112.out, GE112.out, NB101_112.out, NB112_101.out, NB102_112.out, NB112_102.out, (Q6 HB GE111)⟩)
    rintro ⟨v109, gb111, gb112⟩ w49 ⟨hS_, h0_, h1_, h2_, h3_, h4_, h5_, h6_, h7_, h8_, h9_, h10_, h11_, h12_, h13_, h14_, h15_, h16_, h17_, h18_, h19_⟩; have HO110 : Aside0 (Kd.R k65 65 w49 w.heap.size (fun k_ => k_ ≠ gb111) v109 y108) := ⟨h0_⟩; replace BK101 : Aside0 (w49.heap[gb101]? = some (.cells #[.int .i64 a0_0, .slice A0_1 l0_1.length c0_1] 29 (0, 0))) := ⟨h1_⟩; replace BK102 : Aside0 (w49.heap[gb102]? = some (.cells #[.int .i64 0, .slice none 0 0] 29 (0, 0))) := ⟨h2_⟩; have BK111 : Aside0 (w49.heap[gb111]? = some (.cells #[.int .i64 t106, .int .i64 t107] 65 (0, 0))) := ⟨h3_⟩; have BK112 : Aside0 (w49.heap[gb112]? = some (.cells #[.int .i64 0, .slice none 0 0] 29 (0, 0))) := ⟨h4_⟩; have GW111 : Aside0 (w.heap.size ≤ gb111) := ⟨h5_⟩; have GE111 : Aside0 (w.heap.size ≤ gb111) := ⟨h6_⟩; have NB101_111 : Aside0 (gb101 ≠ gb111) := ⟨h7_⟩; have NB111_101 : Aside0 (gb111 ≠ gb101) := ⟨h8_⟩; have NB102_111 : Aside0 (gb102 ≠ gb111) := ⟨h9_⟩; have NB111_102 : Aside0 (gb111 ≠ gb102) := ⟨h10_⟩; have NB112_111 : Aside0 (gb112 ≠ gb111) := ⟨h11_⟩; have NB111_112 : Aside0 (gb111 ≠ gb112) := ⟨h12_⟩; have GW112 : Aside0 (w.heap.size ≤ gb112) := ⟨h13_⟩; have GE112 : Aside0 (w.heap.size ≤ gb112) := ⟨h14_⟩; have NB101_112 : Aside0 (gb101 ≠ gb112) := ⟨h15_⟩; have NB112_101 : Aside0 (gb112 ≠ gb101) := ⟨h16_⟩; have NB102_112 : Aside0 (gb102 ≠ gb112) := ⟨h17_⟩; have NB112_102 : Aside0 (gb112 ≠ gb102) := ⟨h18_⟩; replace HB : Aside0 (Below w.heap.size w w49) := ⟨h19_⟩; clear h0_ h1_ h2_ h3_ h4_ h5_ h6_ h7_ h8_ h9_ h10_ h11_ h12_ h13_ h14_ h15_ h16_ h17_ h18_ h19_; have hHeld : w49.cell? ⟨gb101, 0, none⟩ = some (.int .i64 a0_0) ∧ w49.cell? ⟨gb101, 1, none⟩ = some (.slice A0_1 l0_1.length c0_1) := hS_; obtain ⟨Ao50, co50, eo50⟩ := Kd.R_slice HO110.out
    (first | subst eo50 | (injection eo50 with f1_ f2_ f3_; have f4_ := f1_.symm; have f5_ := f3_.symm; clear f1_ f2_ f3_; subst f4_; subst f5_))
    refine norm_ (a' := ?_) ?_ ?_
    rotate_left
    ·simp only [putAll, Act.put, List.setIfInBounds_toArray, List.set_cons_zero, List.set_cons_succ]
     rfl
    refine one_ (i := 14) (N := none) #[true, true, true, true, true, true, true, true, true, true, true, true, true, true, true] rfl rfl (one_of HT_.out (by kernel_rfl)) (by decide) (fun K hK => ?_); have hs51 : w49.cell? ⟨gb112, 0, none⟩ = some (.int .i64 0) := (blk_cell BK112.out 0).trans rfl; have hfs51 := blk_frozen BK112.out 0; have hns51_0 := NB101_112.out; have hns51_1 := NB102_112.out; have hns51_2 := NB111_112.out; have hms51_0 := NB112_101.out; have hms51_1 := NB112_102.out; have hms51_2 := NB112_111.out; have hs52 : w49.cell? ⟨gb112, 1, none⟩ = some (.slice none 0 0) := (blk_cell BK112.out 1).trans rfl; have hfs52 := blk_frozen BK112.out 1; have hns52_0 := NB101_112.out; have hns52_1 := NB102_112.out; have hns52_2 := NB111_112.out; have hms52_0 := NB112_101.out; have hms52_1 := NB112_102.out; have hms52_2 := NB112_111.out; refine skip_ (w1 := ?_) (by rfl) rfl ?_ ?_
    rotate_left
    ·go_simp
     rfl
    refine hK.out _ _ ⟨((cell_far (p := ⟨gb112, _, none⟩) NB101_112.out _).trans (((cell_far (p := ⟨gb112, _, none⟩) NB101_112.out _).trans (hHeld.1)))), ((cell_far (p := ⟨gb112, _, none⟩) NB101_112.out _).trans (((cell_far (p := ⟨gb112, _, none⟩) NB101_112.out _).trans (hHeld.2))))⟩ (fun hHeld => ?_); clear hK K; refine done_ (done_of HT_.out (by kernel_rfl)) ?_
    try go_wp2
    go_loopg [10] kj6 (fun kq v10 w' => ∃ (x10_2 : Int) (x113001_2 : List (S65)) (u113001 : Value), v10 = .int .i64 x10_2 ∧ Aside0 (spec_ToggleEdge.l0 kq x10_2 a0_0 l0_1 t106 t107 a0_0 x113001_2 = some (r1, r2, r3)) ∧ Aside0 (kq ≤ kj6) ∧ Aside0 (Kd.R k65 65 w' w.heap.size (fun k_ => k_ ≠ gb111) u113001 x113001_2) ∧ Aside0 (w'.heap[gb101]? = some (.cells #[.int .i64 a0_0, (.slice A0_1 l0_1.length c0_1)] 29 (0, 0))) ∧ Aside0 (w'.heap[gb102]? = some (.cells #[.int .i64 0, (.slice none 0 0)] 29 (0, 0))) ∧ Aside0 (w'.heap[gb111]? = some (.cells #[.int .i64 t106, .int .i64 t107] 65 (0, 0))) ∧ Aside0 (w'.heap[gb112]? = some (.cells #[.int .i64 a0_0, u113001] 29 (0, 0))) ∧ Aside0 (Below w.heap.size w w'))
    case atStart => exact ⟨(0), (y108), (.slice Ao50 y108.length co50), Q10, H', ⟨Nat.le_refl _⟩, ⟨by (with_reducible repeat (first | apply Kd.R_alloc | apply Kd.R_drewN | apply Kd.R_drew)); exact Kd.R_mono (Kd.R_far (p := ⟨gb112, 1, none⟩) (Kd.R_far (p := ⟨gb112, 0, none⟩) (Kd.R_types HO110.out BK112.out (by decide)) (fun _ hk => hk.2) (.int .i64 a0_0)) (fun _ hk => hk.2) (.slice Ao50 y108.length co50)) (fun _ hk => hk.1)⟩, ⟨Q5 NB101_112 BK101⟩, ⟨Q5 NB102_112 BK102⟩, ⟨Q5 NB111_112 BK111⟩, ⟨Q45 BK112⟩, ⟨Q6 HB GE112⟩⟩
    case round =>
     clear H'
     try clear p2
     try clear c6
     obtain ⟨x10_2, x113001_2, u113001, rfl, HA, HK2, HO_113001, BK101, BK102, BK111, BK112, HB⟩ := hrel
     cases gk with
     | zero => exact absurd HA.out (by simp [spec_ToggleEdge.l0])
     | succ k2 =>
      have H := HA.out; clear HA
      simp only [spec_ToggleEdge.l0] at H
      by_cases c53 : x10_2 < (l0_1.length : Int)
      ·rw [if_pos c53] at H
       have c53b0 := decide_eq_true c53; clear c53
       by_cases c54 : 0 ≤ x10_2
       ·rw [if_pos c54] at H
        have c54b0 := decide_eq_true c54; clear c54; have HU55 := Aside0.mk H; clear H; have hnb56 := NB101_102.out; have hnc56 := NB102_101.out; have hnb57 := NB101_111.out; have hnc57 := NB111_101.out; have hnb58 := NB101_112.out; have hnc58 := NB112_101.out; have hcz59_0 : wr.cell? ⟨gb101, 0, none⟩ = some (.int .i64 a0_0) := (blk_cell BK101.out 0).trans rfl; have hcz59_1 : wr.cell? ⟨gb101, 1, none⟩ = some (.slice A0_1 l0_1.length c0_1) := (blk_cell BK101.out 1).trans rfl; have hfz59_0 := blk_frozen BK101.out 0; have hfz59_1 := blk_frozen BK101.out 1
        try go_wp2
        replace HO_113001 := am (Kd.R_drew HO_113001.out); replace BK101 := am (blk_drew BK101.out); replace BK102 := am (blk_drew BK102.out); replace BK111 := am (blk_drew BK111.out); replace BK112 := am (blk_drew BK112.out); replace HB := am (below_drew1 HB.out); have p113 : 0 ≤ (x10_2 : Int) := of_decide_eq_true Q8; have q113 : x10_2 < (l0_1.length : Int) := of_decide_eq_true Q8; obtain ⟨ad113, e113, hx113_0, hx113_1⟩ := at_T65 HR0_1.out x10_2 p113 q113; have hw113_1 := hx113_1; have hw113_0 := hx113_0
        cases e113
        replace hx113_0 := (HB.out.cell (World.block_lt_of_cell? w _ hx113_0)).trans hx113_0; replace hx113_1 := (HB.out.cell (World.block_lt_of_cell? w _ hx113_1)).trans hx113_1; replace p113 := eq_true p113; replace q113 := eq_true q113; refine start_ (n := 7) (S := fun w' => w'.cell? ⟨gb101, 0, none⟩ = some (.int .i64 a0_0) ∧ w'.cell? ⟨gb101, 1, none⟩ = some (.slice (some ad113) l0_1.length c0_1) ∧ w'.cell? ⟨gb111, 0, none⟩ = some (.int .i64 t106) ∧ w'.cell? ⟨gb111, 1, none⟩ = some (.int .i64 t107) ∧ w'.cell? (ad113.add ((x10_2).toNat * 2)) = some (.int .i64 ((rd_T65 l0_1 x10_2).f0)) ∧ w'.cell? ⟨(ad113.add ((x10_2).toNat * 2)).block, (ad113.add ((x10_2).toNat * 2)).off + 1, none⟩ = some (.int .i64 ((rd_T65 l0_1 x10_2).f1))) (ds := []) #[false, false, false, false, false, false, false] (by kernel_rfl) rfl rfl ⟨(blk_cell BK101.out 0).trans rfl, (blk_cell BK101.out 1).trans rfl, (blk_cell BK111.out 0).trans rfl, (blk_cell BK111.out 1).trans rfl, ((HB.out.cell (World.block_lt_of_cell? w _ hw113_0)).trans hw113_0), ((HB.out.cell (World.block_lt_of_cell? w _ hw113_1)).trans hw113_1)⟩ (fun hHeld => ?_); generalize wr.drew = w60 at HO_113001 BK101 BK102 BK111 BK112 HB hx113_0 hx113_1 hHeld ⊢; refine pure_ (i := 0) (N := some 50) (v := ?_) (a' := ?_) #[true, false, false, false, false, false, false] rfl rfl (by kernel_rfl) (fun _ _ _ h => h) (Or.inl ⟨by rfl, ?_⟩) ?_ ?_
        rotate_left
        ·intro w'
         go_simp
         with_reducible rfl
        rotate_left
        ·simp only [Act.put, List.setIfInBounds_toArray, List.set_cons_zero, List.set_cons_succ, i64_w, i32_w]
         rfl
        refine pure_ (i := 2) (N := some 52) (v := ?_) (a' := ?_) #[true, false, true, false, false, false, false] rfl rfl (by kernel_rfl) (fun _ _ _ h => h) (Or.inl ⟨by rfl, ?_⟩) ?_ ?_
        rotate_left
        ·intro w'
         go_simp
         with_reducible rfl
        rotate_left
        ·simp only [Act.put, List.setIfInBounds_toArray, List.set_cons_zero, List.set_cons_succ, i64_w, i32_w]
         rfl
        refine take_ (i := 1) (N := some 51) (v := ?_) (a' := ?_) #[true, true, true, false, false, false, false] rfl rfl (by kernel_rfl) (fun _ _ _ h => h) (Or.inl ⟨by rfl, ?_⟩) hHeld ?_ ?_
        rotate_left
        ·rintro w' ⟨s0, s1, s2, s3, s4, s5⟩
         go_simp
         with_reducible rfl
        rotate_left
        ·simp only [Act.put, List.setIfInBounds_toArray, List.set_cons_zero, List.set_cons_succ, i64_w, i32_w]
         rfl
        refine pure_ (i := 3) (N := some 53) (v := ?_) (a' := ?_) #[true, true, true, true, false, false, false] rfl rfl (by kernel_rfl) (fun _ _ _ h => h) (Or.inl ⟨by rfl, ?_⟩) ?_ ?_
        rotate_left
        ·intro w'
         go_simp
         with_reducible rfl
        rotate_left
        ·simp only [Act.put, List.setIfInBounds_toArray, List.set_cons_zero, List.set_cons_succ, i64_w, i32_w]
         rfl
        refine take_ (i := 4) (N := some 54) (v := ?_) (a' := ?_) #[true, true, true, true, true, false, false] rfl rfl (by kernel_rfl) (fun _ _ _ h => h) (Or.inl ⟨by rfl, ?_⟩) hHeld ?_ ?_
        rotate_left
        ·rintro w' ⟨s0, s1, s2, s3, s4, s5⟩
         go_simp
         with_reducible rfl
        rotate_left
        ·simp only [Act.put, List.setIfInBounds_toArray, List.set_cons_zero, List.set_cons_succ, i64_w, i32_w]
         rfl
        refine take_ (i := 5) (N := some 55) (v := ?_) (a' := ?_) #[true, true, true, true, true, true, false] rfl rfl (by kernel_rfl) (fun _ _ _ h => h) (Or.inl ⟨by rfl, ?_⟩) hHeld ?_ ?_
        rotate_left
        ·rintro w' ⟨s0, s1, s2, s3, s4, s5⟩
         go_simp
         with_reducible rfl
        rotate_left
        ·simp only [Act.put, List.setIfInBounds_toArray, List.set_cons_zero, List.set_cons_succ, i64_w, i32_w]
         rfl
        refine pure_ (i := 6) (N := some 56) (v := ?_) (a' := ?_) #[true, true, true, true, true, true, true] rfl rfl (by kernel_rfl) (fun _ _ _ h => h) (Or.inl ⟨by rfl, ?_⟩) ?_ ?_
        rotate_left
        ·intro w'
         go_simp
         with_reducible rfl
        rotate_left
        ·simp only [Act.put, List.setIfInBounds_toArray, List.set_cons_zero, List.set_cons_succ, i64_w, i32_w]
         rfl
        refine done_ (by kernel_rfl) ?_
        go_upto_if 56 with (fail)
        have H := HU55.out; clear HU55
        by_cases c61 : (!(((rd_T65 l0_1 x10_2).f0) == t106) || (!(((rd_T65 l0_1 x10_2).f1) == t107))) = true
        ·rw [if_pos c61] at H
         have c61b0 : (!(((rd_T65 l0_1 x10_2).f0) == t106) || (!(((rd_T65 l0_1 x10_2).f1) == t107))) = true := c61; clear c61
         (first | rw [c61b0] | (simp only [i64_w, i32_w]; rw [c61b0]) | skip)
         by_cases c62 : x113001_2.length < 8796093022208
         ·rw [if_pos c62] at H
          have LMc62 := Aside0.mk c62; clear c62; obtain ⟨y115, hy115⟩ : ∃ y_ : List (S65), y_ = (x113001_2 ++ [(⟨(rd_T65 l0_1 x10_2).f0, (rd_T65 l0_1 x10_2).f1⟩ : S65)]) := ⟨_, rfl⟩; replace H : (spec_ToggleEdge.l0 k2 (wrap64 (x10_2 + 1)) a0_0 l0_1 t106 t107 a0_0 y115) = some (r1, r2, r3) := RH hy115 H; have Ny115 := Aside0.mk hy115; clear hy115; have H' := Aside0.mk H; clear H
          try go_wp2
          replace HO_113001 := am (Kd.R_drew HO_113001.out); replace BK101 := am (blk_drew BK101.out); replace BK102 := am (blk_drew BK102.out); replace BK111 := am (blk_drew BK111.out); replace BK112 := am (blk_drew BK112.out); replace HB := am (below_drew1 HB.out); have p114 : 0 ≤ (x10_2 : Int) := of_decide_eq_true Q8; have q114 : x10_2 < (l0_1.length : Int) := of_decide_eq_true Q8; obtain ⟨ad114, e114, hx114_0, hx114_1⟩ := at_T65 HR0_1.out x10_2 p114 q114; have hw114_1 := hx114_1; have hw114_0 := hx114_0; obtain rfl : ad113 = ad114 := (by injection e114); replace hx114_0 := (HB.out.cell (World.block_lt_of_cell? w _ hx114_0)).trans hx114_0; replace hx114_1 := (HB.out.cell (World.block_lt_of_cell? w _ hx114_1)).trans hx114_1; replace p114 := eq_true p114; replace q114 := eq_true q114; refine start_ (n := 11) (S := fun w' => w'.cell? ⟨gb112, 0, none⟩ = some (.int .i64 a0_0) ∧ w'.cell? ⟨gb112, 1, none⟩ = some (u113001) ∧ w'.cell? ⟨gb101, 0, none⟩ = some (.int .i64 a0_0) ∧ w'.cell? ⟨gb101, 1, none⟩ = some (.slice (some ad113) l0_1.length c0_1) ∧ w'.cell? (ad113.add ((x10_2).toNat * 2)) = some (.int .i64 ((rd_T65 l0_1 x10_2).f0)) ∧ w'.cell? ⟨(ad113.add ((x10_2).toNat * 2)).block, (ad113.add ((x10_2).toNat * 2)).off + 1, none⟩ = some (.int .i64 ((rd_T65 l0_1 x10_2).f1))) (ds := [10]) #[false, false, false, false, false, false, false, false, false, false, false] (by kernel_rfl) rfl rfl ⟨(blk_cell BK112.out 0).trans rfl, (blk_cell BK112.out 1).trans rfl, (blk_cell BK101.out 0).trans rfl, (blk_cell BK101.out 1).trans rfl, ((HB.out.cell (World.block_lt_of_cell? w _ hw114_0)).trans hw114_0), ((HB.out.cell (World.block_lt_of_cell? w _ hw114_1)).trans hw114_1)⟩ (fun hHeld => ?_); refine with_tabW spec_ToggleEdge.tab8 spec_ToggleEdge.bits8 (fun HT_ HW_ => ?_); generalize w60.drew = w63 at HO_113001 BK101 BK102 BK111 BK112 HB hx114_0 hx114_1 hHeld ⊢; refine pq 0 57 rfl rfl HT_ ?_; refine pq 2 59 rfl rfl HT_ ?_; refine pq 4 61 rfl rfl HT_ ?_; refine tq6 1 58 rfl rfl HT_ HW_ hHeld ?_; refine tq6 3 60 rfl rfl HT_ HW_ hHeld ?_; refine pq 5 62 rfl rfl HT_ ?_; refine tq6 6 63 rfl rfl HT_ HW_ hHeld ?_; refine oq 7 64 rfl rfl HT_ (fun K hK => ?_); refine value_ (w1 := ?_) (v := ?_) (by rfl) rfl ?_ ?_
          rotate_left 2
          ·go_simp
           constructor
           ·rfl
           ·rfl
          refine hK.out _ _ ⟨(blk_cell (blk_alloc BK112.out _) 0).trans rfl, (blk_cell (blk_alloc BK112.out _) 1).trans rfl, (blk_cell (blk_alloc BK101.out _) 0).trans rfl, (blk_cell (blk_alloc BK101.out _) 1).trans rfl, (World.cell?_alloc_lt _ _ _ (World.block_lt_of_cell? _ _ (((HB.out.cell (World.block_lt_of_cell? w _ hw114_0)).trans hw114_0)))).trans (((HB.out.cell (World.block_lt_of_cell? w _ hw114_0)).trans hw114_0)), (World.cell?_alloc_lt _ _ _ (World.block_lt_of_cell? _ _ (((HB.out.cell (World.block_lt_of_cell? w _ hw114_1)).trans hw114_1)))).trans (((HB.out.cell (World.block_lt_of_cell? w _ hw114_1)).trans hw114_1))⟩ (fun hHeld => ?_); clear hK K; refine norm_ (a' := ?_) ?_ ?_
          rotate_left
          ·show Act.put _ (some 64) _ = _
           simp only [Act.put, List.setIfInBounds_toArray, List.set_cons_zero, List.set_cons_succ, i64_w, i32_w]
           rfl
          refine oq 8 65 rfl rfl HT_ (fun K hK => ?_); refine Kd.R_append_step k65 (w0 := w) w.heap.size (by rfl) (.tmp 58) (.tmp 64) 22 65 (.agg #[(.int .i64 0), (.int .i64 0)]) 16 rfl Try.underlying22 info65 rfl (by decide) (by omega) u113001 x113001_2 (⟨(rd_T65 l0_1 x10_2).f0, (rd_T65 l0_1 x10_2).f1⟩ : S65) [.int .i64 ((rd_T65 l0_1 x10_2).f0), .int .i64 ((rd_T65 l0_1 x10_2).f1)] (fun k_ => k_ ≠ gb111) (fun _ => False) rfl rfl ?aP (fun _ hk => hk.elim) ?aF ?aO ?aB ?aS ?aL ?_
          (case aP => exact k65_mkM _ _ _ (⟨(rd_T65 l0_1 x10_2).f0, (rd_T65 l0_1 x10_2).f1⟩ : S65))
          (case aB => exact (Q1 HB))
          (case aF => exact (fun k_ hk => Kd.freshB (g := gb111) (o := .cells #[.int .i64 t106, .int .i64 t107] 65 (0, 0)) (Q0 BK111) k_ hk))
          (case aO => exact Q50)
          (case aS => exact (below_size (Q1 HB)))
          (case aL => have := LMc62.out; omega)
          intro v116 w64 ho hb hg hat; rw [← Ny115.out] at ho; replace BK101 := am (blk_grown (g := gb101) (o := .cells #[.int .i64 a0_0, .slice (some ad113) l0_1.length c0_1] 29 (0, 0)) (Q0 BK101) hg (Kd.R_ne HO_113001.out BK101.out (by decide))); replace BK102 := am (blk_grown (g := gb102) (o := .cells #[.int .i64 0, .slice none 0 0] 29 (0, 0)) (Q0 BK102) hg (Kd.R_ne HO_113001.out BK102.out (by decide))); replace BK111 := am (blk_grown (g := gb111) (o := .cells #[.int .i64 t106, .int .i64 t107] 65 (0, 0)) (Q0 BK111) hg (Kd.R_away HO_113001.out (fun _ hk => hk))); replace BK112 := am (blk_grown (g := gb112) (o := .cells #[.int .i64 a0_0, u113001] 29 (0, 0)) (Q0 BK112) hg (Kd.R_ne HO_113001.out BK112.out (by decide))); replace HB := am (hb); have HO117 := am (ho); clear HO_113001; clear ho hb hg hat; obtain ⟨Ao65, co65, eo65⟩ := Kd.R_slice HO117.out
          (first | subst eo65 | (injection eo65 with f1_ f2_ f3_; have f4_ := f1_.symm; have f5_ := f3_.symm; clear f1_ f2_ f3_; subst f4_; subst f5_))
          refine hK.out _ _ ⟨(blk_cell BK112.out 0).trans rfl, (blk_cell BK112.out 1).trans rfl, (blk_cell BK101.out 0).trans rfl, (blk_cell BK101.out 1).trans rfl, ((HB.out.cell (World.block_lt_of_cell? w _ hw114_0)).trans hw114_0), ((HB.out.cell (World.block_lt_of_cell? w _ hw114_1)).trans hw114_1)⟩ (fun hHeld => ?_); clear hK K; refine norm_ (a' := ?_) ?_ ?_
          rotate_left
          ·show Act.put _ (some 65) _ = _
           simp only [Act.put, List.setIfInBounds_toArray, List.set_cons_zero, List.set_cons_succ, i64_w, i32_w]
           rfl
          refine pq 9 66 rfl rfl HT_ ?_; refine last_ (i := 10) (N := none) #[true, true, true, true, true, true, true, true, true, true, true] rfl rfl (one_of HT_.out (by kernel_rfl)) (by decide) (fun K hK => ?_); have hs66 : w64.cell? ⟨gb112, 1, none⟩ = some (u113001) := (blk_cell BK112.out 1).trans rfl; have hfs66 := blk_frozen BK112.out 1; have hns66_0 := NB101_112.out; have hns66_1 := NB102_112.out; have hns66_2 := NB111_112.out; have hms66_0 := NB112_101.out; have hms66_1 := NB112_102.out; have hms66_2 := NB112_111.out; refine skip_ (w1 := ?_) (by rfl) rfl ?_ ?_
          rotate_left
          ·go_simp
           rfl
          refine hK.out _ _ ?_; clear hK K; refine done_ (done_of HT_.out (by kernel_rfl)) ?_
          try go_wp2
          go_roundg k2
          case measure => have := HJ6.out; have := HK2.out; omega
          case rel => exact ⟨(wrap64 (x10_2 + 1)), (y115), (.slice Ao65 y115.length co65), Q10, H', ⟨by have := HJ6.out; have := HK2.out; omega⟩, ⟨by (with_reducible repeat (first | apply Kd.R_alloc | apply Kd.R_drewN | apply Kd.R_drew)); exact Kd.R_mono (Kd.R_far (p := ⟨gb112, 1, none⟩) (Kd.R_types HO117.out BK112.out (by decide)) (fun _ hk => hk.2) (.slice Ao65 y115.length co65)) (fun _ hk => hk.1)⟩, ⟨Q30 NB101_112 BK101⟩, ⟨Q30 NB102_112 BK102⟩, ⟨Q30 NB111_112 BK111⟩, ⟨by (with_reducible repeat (first | refine blk_drewN ?_ _ | refine blk_drew ?_ | refine blk_alloc ?_ _)); refine blk_put (cs := #[.int .i64 a0_0, u113001]) ?_ 1 _ rfl; (with_reducible repeat (first | refine blk_drewN ?_ _ | refine blk_drew ?_ | refine blk_alloc ?_ _)); exact BK112.out⟩, ⟨Q6 HB GE112⟩⟩
         ·rw [if_neg c62] at H
          exact absurd H (by simp)
        ·rw [if_neg c61] at H
         have c61b0 : (!(((rd_T65 l0_1 x10_2).f0) == t106) || (!(((rd_T65 l0_1 x10_2).f1) == t107))) = false := by simpa using c61
         clear c61
         (first | rw [c61b0] | (simp only [i64_w, i32_w]; rw [c61b0]) | skip)
         have H' := Aside0.mk H; clear H
         go_wp2
         go_roundg k2
         case measure => have := HJ6.out; have := HK2.out; omega
         case rel => exact ⟨(wrap64 (x10_2 + 1)), (x113001_2), (u113001), Q10, H', ⟨by have := HJ6.out; have := HK2.out; omega⟩, ⟨Q50⟩, ⟨Q0 BK101⟩, ⟨Q0 BK102⟩, ⟨Q0 BK111⟩, ⟨Q0 BK112⟩, ⟨Q1 HB⟩⟩
       ·rw [if_neg c54] at H
        exact absurd H (by simp)
      ·rw [if_neg c53] at H
       have c53b0 := decide_eq_false c53; clear c53
       by_cases c67 : (x113001_2.length : Int) = (l0_1.length : Int)
       ·rw [if_pos c67] at H
        have c67b0 := beq_iff_eq.mpr c67; have c67b1 := bne_eq_false_iff_eq.mpr c67; have c67b2 : (x113001_2.length == l0_1.length) = true := by first | simpa using c67 | (simp at c67 ⊢; omega)
        clear c67; replace H := (ob H); obtain ⟨t118, A680, H⟩ := H; (try dsimp only at H); have A68 := Aside0.mk A680; clear A680
        simp only [Option.some.injEq, Prod.mk.injEq] at H
        obtain ⟨rfl, rfl, rfl⟩ := H; have hnb69 := NB101_102.out; have hnc69 := NB102_101.out; have hnb70 := NB101_111.out; have hnc70 := NB111_101.out; have hnb71 := NB101_112.out; have hnc71 := NB112_101.out; have hcz72_0 : wr.cell? ⟨gb101, 0, none⟩ = some (.int .i64 a0_0) := (blk_cell BK101.out 0).trans rfl; have hcz72_1 : wr.cell? ⟨gb101, 1, none⟩ = some (.slice A0_1 l0_1.length c0_1) := (blk_cell BK101.out 1).trans rfl; have hfz72_0 := blk_frozen BK101.out 0; have hfz72_1 := blk_frozen BK101.out 1; have hnb73 := NB112_102.out; have hnc73 := NB102_112.out; have hnb74 := NB112_111.out; have hnc74 := NB111_112.out; have hcz75_0 : wr.cell? ⟨gb112, 0, none⟩ = some (.int .i64 a0_0) := (blk_cell BK112.out 0).trans rfl; have hcz75_1 : wr.cell? ⟨gb112, 1, none⟩ = some (u113001) := (blk_cell BK112.out 1).trans rfl; have hfz75_0 := blk_frozen BK112.out 0; have hfz75_1 := blk_frozen BK112.out 1; obtain ⟨Ao76, co76, eo76⟩ := Kd.R_slice HO_113001.out; subst eo76; have hnb77 := NB111_102.out; have hnc77 := NB102_111.out; have hcz78_0 : wr.cell? ⟨gb111, 0, none⟩ = some (.int .i64 t106) := (blk_cell BK111.out 0).trans rfl; have hcz78_1 : wr.cell? ⟨gb111, 1, none⟩ = some (.int .i64 t107) := (blk_cell BK111.out 1).trans rfl; have hfz78_0 := blk_frozen BK111.out 0; have hfz78_1 := blk_frozen BK111.out 1
        go_wp2_with (first | ((with_reducible refine gate_callee (f := 61) rfl ?_); refine goesL_ (some 77) rfl rfl Try.func61 (by kernel_rfl) rfl #[.slice Ao76 x113001_2.length co76, .agg #[.int .i64 t106, .int .i64 t107]] rfl Q4 ?_; (with_reducible refine (spec_l2Put.calls k2 _ _ x113001_2 t106 t107 t118 _ ?side1 ?side2 A68.out).mono ?_); (case side1 => exact (by repeat (first | exact (Kd.R_reads' HO_113001.out).2.2 | (with_reducible refine Kd.C_alloc ?_ _) | (with_reducible refine Kd.C_drewN ?_ _) | (with_reducible refine Kd.C_drew ?_)))); (case side2 => exact (Kd.R_reads' HO_113001.out).2.1); rintro e w79 ⟨v119, rfl, ho0, hb⟩; refine ⟨_, rfl, ?_⟩; have HO120 := am (Kd.R_lower (Kd.R_newB (Kd.R_new' ho0 (Kd.R_lt Q50)) (g := gb111) (o := .cells #[.int .i64 t106, .int .i64 t107] 65 (0, 0)) (Q0 BK111)) (below_size (Q1 HB))); replace HO_113001 := am (Kd.R_elder' Q50 (Kd.R_base ho0) hb); replace BK101 := am (blk_below (g := gb101) (o := .cells #[.int .i64 a0_0, .slice A0_1 l0_1.length c0_1] 29 (0, 0)) (Q0 BK101) hb); replace BK102 := am (blk_below (g := gb102) (o := .cells #[.int .i64 0, .slice none 0 0] 29 (0, 0)) (Q0 BK102) hb); replace BK111 := am (blk_below (g := gb111) (o := .cells #[.int .i64 t106, .int .i64 t107] 65 (0, 0)) (Q0 BK111) hb); replace BK112 := am (blk_below (g := gb112) (o := .cells #[.int .i64 a0_0, .slice Ao76 x113001_2.length co76] 29 (0, 0)) (Q0 BK112) hb); replace HB := am (below_step (Q1 HB) hb); (try clear hb); (try clear hb2); (try clear hk); (try clear hi); (try clear ho0); obtain ⟨Ao80, co80, eo80⟩ := Kd.R_slice HO120.out; subst eo80; have hcz81_0 : w79.cell? ⟨gb112, 0, none⟩ = some (.int .i64 a0_0) := (blk_cell BK112.out 0).trans rfl; have hcz81_1 : w79.cell? ⟨gb112, 1, none⟩ = some (.slice Ao76 x113001_2.length co76) := (blk_cell BK112.out 1).trans rfl; have hfz81_0 := blk_frozen BK112.out 0; have hfz81_1 := blk_frozen BK112.out 1; have hcz82_0 : w79.cell? ⟨gb102, 0, none⟩ = some (.int .i64 0) := (blk_cell BK102.out 0).trans rfl; have hcz82_1 : w79.cell? ⟨gb102, 1, none⟩ = some (.slice none 0 0) := (blk_cell BK102.out 1).trans rfl; have hfz82_0 := blk_frozen BK102.out 0; have hfz82_1 := blk_frozen BK102.out 1))
        refine bodyPost_ret (results_ct rfl _ _ gb102 29 #[.int .i64 a0_0, .slice Ao80 t118.length co80] (0, 0) _ rfl (Q22 NB102_112 BK102) Try.underlying29 rfl (by kernel_rfl)) rfl ?_; exact ⟨_, Q9, by (with_reducible repeat (first | apply Kd.R_alloc | apply Kd.R_drewN | apply Kd.R_drew)); exact Kd.R_mono (Kd.R_far (p := ⟨gb102, 1, none⟩) (Kd.R_far (p := ⟨gb102, 0, none⟩) (Kd.R_far (p := ⟨gb112, 1, none⟩) (Kd.R_types (Kd.R_types HO120.out BK112.out (by decide)) BK102.out (by decide)) (fun _ hk => hk.1.2) (.slice Ao80 t118.length co80)) (fun _ hk => hk.2) (.int .i64 a0_0)) (fun _ hk => hk.2) (.slice Ao80 t118.length co80)) (fun _ hk => trivial), Q14 HB GE102 GE112⟩
       ·rw [if_neg c67] at H
        have c67b0 := beq_eq_false_iff_ne.mpr c67; have c67b1 := bne_iff_ne.mpr c67; have c67b2 : (x113001_2.length == l0_1.length) = false := by first | simpa using c67 | (simp at c67 ⊢; omega)
        simp only [Option.some.injEq, Prod.mk.injEq] at H
        obtain ⟨rfl, rfl, rfl⟩ := H; have hnb83 := NB101_102.out; have hnc83 := NB102_101.out; have hnb84 := NB101_111.out; have hnc84 := NB111_101.out; have hnb85 := NB101_112.out; have hnc85 := NB112_101.out; have hcz86_0 : wr.cell? ⟨gb101, 0, none⟩ = some (.int .i64 a0_0) := (blk_cell BK101.out 0).trans rfl; have hcz86_1 : wr.cell? ⟨gb101, 1, none⟩ = some (.slice A0_1 l0_1.length c0_1) := (blk_cell BK101.out 1).trans rfl; have hfz86_0 := blk_frozen BK101.out 0; have hfz86_1 := blk_frozen BK101.out 1; have hnb87 := NB112_102.out; have hnc87 := NB102_112.out; have hnb88 := NB112_111.out; have hnc88 := NB111_112.out; have hcz89_0 : wr.cell? ⟨gb112, 0, none⟩ = some (.int .i64 a0_0) := (blk_cell BK112.out 0).trans rfl; have hcz89_1 : wr.cell? ⟨gb112, 1, none⟩ = some (u113001) := (blk_cell BK112.out 1).trans rfl; have hfz89_0 := blk_frozen BK112.out 0; have hfz89_1 := blk_frozen BK112.out 1; obtain ⟨Ao90, co90, eo90⟩ := Kd.R_slice HO_113001.out; subst eo90; have hnb91 := NB102_111.out; have hnc91 := NB111_102.out; have hcz92_0 : wr.cell? ⟨gb102, 0, none⟩ = some (.int .i64 0) := (blk_cell BK102.out 0).trans rfl; have hcz92_1 : wr.cell? ⟨gb102, 1, none⟩ = some (.slice none 0 0) := (blk_cell BK102.out 1).trans rfl; have hfz92_0 := blk_frozen BK102.out 0; have hfz92_1 := blk_frozen BK102.out 1
        go_wp2
        refine bodyPost_ret (results_ct rfl _ _ gb102 29 #[.int .i64 a0_0, .slice Ao90 x113001_2.length co90] (0, 0) _ rfl (Q45 BK102) Try.underlying29 rfl (by kernel_rfl)) rfl ?_; exact ⟨_, Q9, by (with_reducible repeat (first | apply Kd.R_alloc | apply Kd.R_drewN | apply Kd.R_drew)); exact Kd.R_mono (Kd.R_far (p := ⟨gb102, 1, none⟩) (Kd.R_far (p := ⟨gb102, 0, none⟩) (Kd.R_types HO_113001.out BK102.out (by decide)) (fun _ hk => hk.2) (.int .i64 a0_0)) (fun _ hk => hk.2) (.slice Ao90 x113001_2.length co90)) (fun _ hk => trivial), Q6 HB GE102⟩
end Go.Proofs.Yteepmbpmhaaonaa.P
