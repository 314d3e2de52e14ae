/- Functions of the program as Lean functions, that each call comes to what they say, and what holds of them; part 10 of 14; no conditions beyond those that each theorem names. -/
import Derived.Test.YtcjddikalgnhpaaK1
import Derived.Test.YtcjddikalgnhpaaK9
namespace Go.Proofs.Ytcjddikalgnhpaa.P
open Go.RowKit Go.Proofs.YtcjddikalgnhpaaW.PrintWords Go.Proofs.YtcjddikalgnhpaaW.PrintLast Go.Proofs.YtcjddikalgnhpaaW.PrintMore
attribute [local go_sem] max2_int min2_int max_two min_two max_three min_three max_four min_four   -- for this text's walks alone
set_option linter.unusedVariables false
set_option linter.unusedSimpArgs false
/-! ### spec_PutBeside: function 33 -/
mutual
def spec_PutBeside.j0 : Nat → Bool → Int → List (S71) → Int → List (S71) → Option (Int × (List (S71)) × Bool)
 | 0, _, _, _, _, _ => none
 | k + 1, x23, x102000, x102001, x103000, x103001 => if x23 = true then (some (0, ([] : List (S71)), false)) else ((some (([] : List (S71)) : List (S71))).bind fun y106 => (if y106.length + x102001.length < 8796093022208 then (spec_PutBeside.l0 k 0 x102000 x102001 x103000 x103001 (wrap64 (x102000 + x103000)) (y106 ++ x102001)) else (none)))
def spec_PutBeside.l0 : Nat → Int → Int → List (S71) → Int → List (S71) → Int → List (S71) → Option (Int × (List (S71)) × Bool)
 | 0, _, _, _, _, _, _, _ => none
 | k + 1, x7, x102000, x102001, x103000, x103001, x113000, x113001 => if x7 < (x103001.length : Int) then (if 0 ≤ x7 then (if x113001.length < 8796093022208 then (spec_PutBeside.l0 k (wrap64 (x7 + 1)) x102000 x102001 x103000 x103001 x113000 (x113001 ++ [(⟨wrap64 (((rd_T71 x103001 x7).f0) + x102000), wrap64 (((rd_T71 x103001 x7).f1) + x102000)⟩ : S71)])) else (none)) else (none)) else (some (x113000, x113001, true))
end
def spec_PutBeside.f (k : Nat) (a0_0 : Int) (l0_1 : List (S71)) (a1_0 : Int) (l1_1 : List (S71)) : Option (Int × (List (S71)) × Bool) := (spec_l2Good.f k a0_0 l0_1).bind fun t104 => (if t104 = true then ((spec_l2Good.f k a1_0 l1_1).bind fun t105 => (if t105 = true then (spec_PutBeside.j0 k (decide ((wrap64 (a0_0 + a1_0)) > 8)) a0_0 l0_1 a1_0 l1_1) else (spec_PutBeside.j0 k true a0_0 l0_1 a1_0 l1_1))) else (spec_PutBeside.j0 k true a0_0 l0_1 a1_0 l1_1))
theorem spec_PutBeside.mono_l : ∀ k, (∀ y0 y1 y2 y3 y4, LeO (spec_PutBeside.j0 k y0 y1 y2 y3 y4) (spec_PutBeside.j0 (k + 1) y0 y1 y2 y3 y4)) ∧ (∀ y0 y1 y2 y3 y4 y5 y6, LeO (spec_PutBeside.l0 k y0 y1 y2 y3 y4 y5 y6) (spec_PutBeside.l0 (k + 1) y0 y1 y2 y3 y4 y5 y6))
 | 0 => ⟨fun _ _ _ _ _ r h => by simp [spec_PutBeside.j0] at h, fun _ _ _ _ _ _ _ r h => by simp [spec_PutBeside.l0] at h⟩
 | k + 1 => by
  obtain ⟨ih0, ih1⟩ := spec_PutBeside.mono_l k; refine ⟨?_, ?_⟩
  all_goals
   intros
   first | unfold spec_PutBeside.j0 | unfold spec_PutBeside.l0
   repeat' first | (with_reducible first | exact ih0 _ _ _ _ _ | exact ih1 _ _ _ _ _ _ _ | exact spec_l2Good.mono _ _ _ | exact LeO.refl _ | exact LeO.none _ | refine LeO.ite ?_ ?_ | refine LeO.bind ?_ (fun _ => ?_))
theorem spec_PutBeside.mono : ∀ a0 a1 a2 a3 k, LeO (spec_PutBeside.f k a0 a1 a2 a3) (spec_PutBeside.f (k + 1) a0 a1 a2 a3) := by
 intro a0 a1 a2 a3 k
 obtain ⟨ih0, ih1⟩ := spec_PutBeside.mono_l k
 unfold spec_PutBeside.f
 repeat' first | (with_reducible first | exact ih0 _ _ _ _ _ | exact ih1 _ _ _ _ _ _ _ | exact spec_l2Good.mono _ _ _ | exact LeO.refl _ | exact LeO.none _ | refine LeO.ite ?_ ?_ | refine LeO.bind ?_ (fun _ => ?_))
def spec_PutBeside.T3 : Bool × List (List Nat × List Nat) := (true, [([], []), ([0], [0]), ([], []), ([2], [2]), ([1, 3], [1, 3]), ([], []), ([], []), ([6], [6]), ([5, 7], [5, 7]), ([4, 8], [4, 8]), ([], []), ([10, 9, 8, 0, 1, 2, 3, 4, 5, 6, 7, 8, 9, 10], [9, 10])])
def spec_PutBeside.B3 : List Nat := [0, 1, 0, 4, 15, 0, 0, 64, 224, 511, 0, 2047]
theorem spec_PutBeside.tab3 : rtab .any (opsOf Try.f33 3) = spec_PutBeside.T3 := by kernel_rfl
theorem spec_PutBeside.bits3 : waitsOk spec_PutBeside.T3.2 spec_PutBeside.B3 = true := by kernel_rfl
def spec_PutBeside.T7 : Bool × List (List Nat × List Nat) := (true, [([], []), ([0], [0]), ([], []), ([2], [2]), ([], []), ([3, 4], [3, 4]), ([5], [5]), ([6], [6]), ([], []), ([8], [8]), ([7, 9], [7, 9]), ([], []), ([11], [11]), ([], []), ([12, 13], [12, 13]), ([14], [14]), ([15], [15]), ([], []), ([17], [17]), ([16, 18], [16, 18]), ([10, 19], [10, 19]), ([20], [20]), ([1, 21], [1, 21]), ([0, 1, 2, 3, 4, 5, 6, 7, 8, 9, 10, 11, 12, 13, 14, 15, 16, 17, 18, 19, 20, 21, 22], []), ([23, 22, 22, 0, 1, 2, 3, 4, 5, 6, 7, 8, 9, 10, 11, 12, 13, 14, 15, 16, 17, 18, 19, 20, 21, 22], [22, 23])])
def spec_PutBeside.B7 : List Nat := [0, 1, 0, 4, 0, 28, 60, 124, 0, 256, 1020, 0, 2048, 0, 14336, 30720, 63488, 0, 131072, 522240, 1048572, 2097148, 4194303, 8388607, 16777215]
theorem spec_PutBeside.tab7 : rtab .any (opsOf Try.f33 7) = spec_PutBeside.T7 := by kernel_rfl
theorem spec_PutBeside.bits7 : waitsOk spec_PutBeside.T7.2 spec_PutBeside.B7 = true := by kernel_rfl
set_option maxHeartbeats 8000000 in
set_option maxRecDepth 100000 in
theorem spec_PutBeside.calls (k : Nat) (a0_0 : Int) (A0_1 : Option Addr) (c0_1 : Nat) (l0_1 : List (S71)) (a1_0 : Int) (A1_1 : Option Addr) (c1_1 : Nat) (l1_1 : List (S71)) (r1 : Int) (r2 : List (S71)) (r3 : Bool) (w : World) (hr0_1 : Kd.C k71 w A0_1 l0_1.length l0_1) (hc0_1 : l0_1.length ≤ c0_1) (hr1_1 : Kd.C k71 w A1_1 l1_1.length l1_1) (hc1_1 : l1_1.length ≤ c1_1) (h : spec_PutBeside.f k a0_0 l0_1 a1_0 l1_1 = some (r1, r2, r3)) :
  Calls Try.prog 33 #[.agg #[.int .i64 a0_0, .slice A0_1 l0_1.length c0_1], .agg #[.int .i64 a1_0, .slice A1_1 l1_1.length c1_1]] w fun e w' => ∃ v1_ : Value, e = .returned (.tuple #[.agg #[.int .i64 r1, v1_], .bool r3]) ∧ Kd.R k71 71 w' w.heap.size (fun _ => True) v1_ r2 ∧ Below w.heap.size w w' := by
 have hu30 := Try.underlying30
 have hu71 := Try.underlying71
 have HR0_1 := Aside0.mk hr0_1
 have HC0_1 := Aside0.mk hc0_1
 clear hr0_1 hc0_1
 have HR1_1 := Aside0.mk hr1_1
 have HC1_1 := Aside0.mk hc1_1
 clear hr1_1 hc1_1
 have HB := am (Below.refl w.heap.size w)
 have H : ((spec_l2Good.f k a0_0 l0_1).bind fun t104 => (if t104 = true then ((spec_l2Good.f k a1_0 l1_1).bind fun t105 => (if t105 = true then (spec_PutBeside.j0 k (decide ((wrap64 (a0_0 + a1_0)) > 8)) a0_0 l0_1 a1_0 l1_1) else (spec_PutBeside.j0 k true a0_0 l0_1 a1_0 l1_1))) else (spec_PutBeside.j0 k true a0_0 l0_1 a1_0 l1_1))) = some (r1, r2, r3) := h
 clear h
 have HU3 := Aside0.mk H
 clear H
 go_enter Try.func33, Try.ntmps33
 go_upto_region 1 with (first | ((with_reducible refine gate_dst (N := 2) rfl ?_); refine box_event ?hg (N := 2) ?hd (cs := #[.int .i64 a0_0, .slice A0_1 l0_1.length c0_1]) (t := 30) ?hr ?_; (case hd => rfl); (case hg => rfl); (case hr => first | (go_simp; done) | (go_simp; rfl)); intro gb101 hg w4 hbox hb; have BK101 := am (hbox); have GW101 := am ((Q25 : w.heap.size ≤ gb101)); have GE101 := am ((Q25 : w.heap.size ≤ gb101)); replace HB := am (below_step (Q1 HB) hb); clear hb hbox hg) | ((with_reducible refine gate_dst (N := 3) rfl ?_); refine box_event ?hg (N := 3) ?hd (cs := #[.int .i64 a1_0, .slice A1_1 l1_1.length c1_1]) (t := 30) ?hr ?_; (case hd => rfl); (case hg => rfl); (case hr => first | (go_simp; done) | (go_simp; rfl)); intro gb102 hg w5 hbox hb; have BK102 := am (hbox); have GW102 := am ((Q25 : w.heap.size ≤ gb102)); have GE102 := am ((Q25 : w.heap.size ≤ gb102)); replace HB := am (below_step (Q1 HB) hb); have NB101_102 := am ((Q28 : gb101 ≠ gb102)); have NB102_101 := am ((Q29 : gb102 ≠ gb101)); replace BK101 := am (blk_below (g := gb101) (o := .cells #[.int .i64 a0_0, .slice A0_1 l0_1.length c0_1] 30 (0, 0)) (Q0 BK101) hb); clear hb hbox hg) | ((with_reducible refine gate_dst (N := 4) rfl ?_); refine box_event ?hg (N := 4) ?hd (cs := #[.int .i64 0, .slice none 0 0]) (t := 30) ?hr ?_; (case hd => rfl); (case hg => rfl); (case hr => first | (go_simp; done) | (go_simp; rfl)); intro gb103 hg w6 hbox hb; have BK103 := am (hbox); have GW103 := am ((Q25 : w.heap.size ≤ gb103)); have GE103 := am ((Q25 : w.heap.size ≤ gb103)); replace HB := am (below_step (Q1 HB) hb); have NB101_103 := am ((Q28 : gb101 ≠ gb103)); have NB103_101 := am ((Q29 : gb103 ≠ gb101)); replace BK101 := am (blk_below (g := gb101) (o := .cells #[.int .i64 a0_0, .slice A0_1 l0_1.length c0_1] 30 (0, 0)) (Q0 BK101) hb); have NB102_103 := am ((Q63 : gb102 ≠ gb103)); have NB103_102 := am ((Q64 : gb103 ≠ gb102)); replace BK102 := am (blk_below (g := gb102) (o := .cells #[.int .i64 a1_0, .slice A1_1 l1_1.length c1_1] 30 (0, 0)) (Q0 BK102) hb); clear hb hbox hg))
 (try simp only [Act.put, List.setIfInBounds_toArray, List.set_cons_zero, List.set_cons_succ])
 have H := HU3.out
 clear HU3
 have HC7 := Aside0.mk H
 clear H
 go_upto_region 1 with (fail)
 go_cut [23] (fun v23 wc => ∃ (kq : Nat) (x23_6 : Bool), v23 = .bool x23_6 ∧ Aside0 (spec_PutBeside.j0 kq x23_6 a0_0 l0_1 a1_0 l1_1 = some (r1, r2, r3)) ∧ Aside0 (kq ≤ k) ∧ Aside0 (wc.heap[gb101]? = some (.cells #[.int .i64 a0_0, (.slice A0_1 l0_1.length c0_1)] 30 (0, 0))) ∧ Aside0 (wc.heap[gb102]? = some (.cells #[.int .i64 a1_0, (.slice A1_1 l1_1.length c1_1)] 30 (0, 0))) ∧ Aside0 (wc.heap[gb103]? = some (.cells #[.int .i64 0, (.slice none 0 0)] 30 (0, 0))) ∧ Aside0 (Below w.heap.size w wc))
 case first =>
  have H := HC7.out; clear HC7; replace H := (ob H); obtain ⟨t104, A80, H⟩ := H; (try dsimp only at H); have A8 := Aside0.mk A80; clear A80
  by_cases c9 : t104 = true
  ·subst c9
   have H1 : ((spec_l2Good.f k a1_0 l1_1).bind fun t105 => (if t105 = true then (spec_PutBeside.j0 k (decide ((wrap64 (a0_0 + a1_0)) > 8)) a0_0 l0_1 a1_0 l1_1) else (spec_PutBeside.j0 k true a0_0 l0_1 a1_0 l1_1))) = some (r1, r2, r3) := by rw [if_pos rfl] at H; exact H
   clear H; have H := H1; clear H1; replace H := (ob H); obtain ⟨t105, A100, H⟩ := H; (try dsimp only at H); have A10 := Aside0.mk A100; clear A100
   by_cases c11 : t105 = true
   ·subst c11
    have H1 : (spec_PutBeside.j0 k (decide ((wrap64 (a0_0 + a1_0)) > 8)) a0_0 l0_1 a1_0 l1_1) = some (r1, r2, r3) := by rw [if_pos rfl] at H; exact H
    clear H; have H := H1; clear H1; have H' := Aside0.mk H; clear H; have hnb12 := NB101_102.out; have hnc12 := NB102_101.out; have hnb13 := NB101_103.out; have hnc13 := NB103_101.out; have hcz14_0 : w6.cell? ⟨gb101, 0, none⟩ = some (.int .i64 a0_0) := (blk_cell BK101.out 0).trans rfl; have hcz14_1 : w6.cell? ⟨gb101, 1, none⟩ = some (.slice A0_1 l0_1.length c0_1) := (blk_cell BK101.out 1).trans rfl; have hfz14_0 := blk_frozen BK101.out 0; have hfz14_1 := blk_frozen BK101.out 1
    go_wp2_with (first | ((with_reducible refine gate_callee (f := 120) rfl ?_); refine goesL_ (some 9) rfl rfl Try.func120 (by kernel_rfl) rfl #[.agg #[.int .i64 a0_0, .slice A0_1 l0_1.length c0_1]] rfl Q3 ?_; (with_reducible refine (spec_l2Good.calls k a0_0 _ _ l0_1 true _ ?side1 ?side2 A8.out).mono ?_); (case side1 => exact (Q9 HR0_1 HB)); (case side2 => exact HC0_1.out); rintro e w15 ⟨rfl, hb⟩; refine ⟨_, rfl, ?_⟩; replace BK101 := am (blk_below (g := gb101) (o := .cells #[.int .i64 a0_0, .slice A0_1 l0_1.length c0_1] 30 (0, 0)) (Q0 BK101) hb); replace BK102 := am (blk_below (g := gb102) (o := .cells #[.int .i64 a1_0, .slice A1_1 l1_1.length c1_1] 30 (0, 0)) (Q0 BK102) hb); replace BK103 := am (blk_below (g := gb103) (o := .cells #[.int .i64 0, .slice none 0 0] 30 (0, 0)) (Q0 BK103) hb); replace HB := am (below_step (Q1 HB) hb); (try clear hb); (try clear hb2); (try clear hk); (try clear hi); have hnb16 := NB102_103.out; have hnc16 := NB103_102.out; have hcz17_0 : w15.cell? ⟨gb102, 0, none⟩ = some (.int .i64 a1_0) := (blk_cell BK102.out 0).trans rfl; have hcz17_1 : w15.cell? ⟨gb102, 1, none⟩ = some (.slice A1_1 l1_1.length c1_1) := (blk_cell BK102.out 1).trans rfl; have hfz17_0 := blk_frozen BK102.out 0; have hfz17_1 := blk_frozen BK102.out 1) | (go_at_call 120; (with_reducible refine (spec_l2Good.calls k a1_0 _ _ l1_1 true _ ?side1 ?side2 A10.out).mono ?_); (case side1 => exact (Q9 HR1_1 HB)); (case side2 => exact HC1_1.out); rintro e w18 ⟨rfl, hb⟩; replace BK101 := am (blk_below (g := gb101) (o := .cells #[.int .i64 a0_0, .slice A0_1 l0_1.length c0_1] 30 (0, 0)) (Q0 BK101) hb); replace BK102 := am (blk_below (g := gb102) (o := .cells #[.int .i64 a1_0, .slice A1_1 l1_1.length c1_1] 30 (0, 0)) (Q0 BK102) hb); replace BK103 := am (blk_below (g := gb103) (o := .cells #[.int .i64 0, .slice none 0 0] 30 (0, 0)) (Q0 BK103) hb); replace HB := am (below_step (Q1 HB) hb); (try clear hb); (try clear hb2); (try clear hk); (try clear hi); have hcz19_0 : w18.cell? ⟨gb101, 0, none⟩ = some (.int .i64 a0_0) := (blk_cell BK101.out 0).trans rfl; have hcz19_1 : w18.cell? ⟨gb101, 1, none⟩ = some (.slice A0_1 l0_1.length c0_1) := (blk_cell BK101.out 1).trans rfl; have hfz19_0 := blk_frozen BK101.out 0; have hfz19_1 := blk_frozen BK101.out 1; have hcz20_0 : w18.cell? ⟨gb102, 0, none⟩ = some (.int .i64 a1_0) := (blk_cell BK102.out 0).trans rfl; have hcz20_1 : w18.cell? ⟨gb102, 1, none⟩ = some (.slice A1_1 l1_1.length c1_1) := (blk_cell BK102.out 1).trans rfl; have hfz20_0 := blk_frozen BK102.out 0; have hfz20_1 := blk_frozen BK102.out 1))
    go_meet
    case rel => exact ⟨_, (decide ((wrap64 (a0_0 + a1_0)) > 8)), Q11, H', ⟨Q94⟩, ⟨Q0 BK101⟩, ⟨Q0 BK102⟩, ⟨Q0 BK103⟩, ⟨Q1 HB⟩⟩
   ·replace c11 := Bool.eq_false_iff.mpr c11
    subst c11; have H1 : (spec_PutBeside.j0 k true a0_0 l0_1 a1_0 l1_1) = some (r1, r2, r3) := by rw [if_neg (show ¬ (false = true) by decide)] at H; exact H
    clear H; have H := H1; clear H1; have H' := Aside0.mk H; clear H; have hnb21 := NB101_102.out; have hnc21 := NB102_101.out; have hnb22 := NB101_103.out; have hnc22 := NB103_101.out; have hcz23_0 : w6.cell? ⟨gb101, 0, none⟩ = some (.int .i64 a0_0) := (blk_cell BK101.out 0).trans rfl; have hcz23_1 : w6.cell? ⟨gb101, 1, none⟩ = some (.slice A0_1 l0_1.length c0_1) := (blk_cell BK101.out 1).trans rfl; have hfz23_0 := blk_frozen BK101.out 0; have hfz23_1 := blk_frozen BK101.out 1
    go_wp2_with (first | ((with_reducible refine gate_callee (f := 120) rfl ?_); refine goesL_ (some 9) rfl rfl Try.func120 (by kernel_rfl) rfl #[.agg #[.int .i64 a0_0, .slice A0_1 l0_1.length c0_1]] rfl Q3 ?_; (with_reducible refine (spec_l2Good.calls k a0_0 _ _ l0_1 true _ ?side1 ?side2 A8.out).mono ?_); (case side1 => exact (Q9 HR0_1 HB)); (case side2 => exact HC0_1.out); rintro e w24 ⟨rfl, hb⟩; refine ⟨_, rfl, ?_⟩; replace BK101 := am (blk_below (g := gb101) (o := .cells #[.int .i64 a0_0, .slice A0_1 l0_1.length c0_1] 30 (0, 0)) (Q0 BK101) hb); replace BK102 := am (blk_below (g := gb102) (o := .cells #[.int .i64 a1_0, .slice A1_1 l1_1.length c1_1] 30 (0, 0)) (Q0 BK102) hb); replace BK103 := am (blk_below (g := gb103) (o := .cells #[.int .i64 0, .slice none 0 0] 30 (0, 0)) (Q0 BK103) hb); replace HB := am (below_step (Q1 HB) hb); (try clear hb); (try clear hb2); (try clear hk); (try clear hi); have hnb25 := NB102_103.out; have hnc25 := NB103_102.out; have hcz26_0 : w24.cell? ⟨gb102, 0, none⟩ = some (.int .i64 a1_0) := (blk_cell BK102.out 0).trans rfl; have hcz26_1 : w24.cell? ⟨gb102, 1, none⟩ = some (.slice A1_1 l1_1.length c1_1) := (blk_cell BK102.out 1).trans rfl; have hfz26_0 := blk_frozen BK102.out 0; have hfz26_1 := blk_frozen BK102.out 1) | (go_at_call 120; (with_reducible refine (spec_l2Good.calls k a1_0 _ _ l1_1 false _ ?side1 ?side2 A10.out).mono ?_); (case side1 => exact (Q9 HR1_1 HB)); (case side2 => exact HC1_1.out); rintro e w27 ⟨rfl, hb⟩; replace BK101 := am (blk_below (g := gb101) (o := .cells #[.int .i64 a0_0, .slice A0_1 l0_1.length c0_1] 30 (0, 0)) (Q0 BK101) hb); replace BK102 := am (blk_below (g := gb102) (o := .cells #[.int .i64 a1_0, .slice A1_1 l1_1.length c1_1] 30 (0, 0)) (Q0 BK102) hb); replace BK103 := am (blk_below (g := gb103) (o := .cells #[.int .i64 0, .slice none 0 0] 30 (0, 0)) (Q0 BK103) hb); replace HB := am (below_step (Q1 HB) hb); (try clear hb); (try clear hb2); (try clear hk); (try clear hi)))
    go_meet
    case rel => exact ⟨_, (true), Q11, H', ⟨Q94⟩, ⟨Q0 BK101⟩, ⟨Q0 BK102⟩, ⟨Q0 BK103⟩, ⟨Q1 HB⟩⟩
  ·replace c9 := Bool.eq_false_iff.mpr c9
   subst c9; have H1 : (spec_PutBeside.j0 k true a0_0 l0_1 a1_0 l1_1) = some (r1, r2, r3) := by rw [if_neg (show ¬ (false = true) by decide)] at H; exact H
   clear H; have H := H1; clear H1; have H' := Aside0.mk H; clear H; have hnb28 := NB101_102.out; have hnc28 := NB102_101.out; have hnb29 := NB101_103.out; have hnc29 := NB103_101.out; have hcz30_0 : w6.cell? ⟨gb101, 0, none⟩ = some (.int .i64 a0_0) := (blk_cell BK101.out 0).trans rfl; have hcz30_1 : w6.cell? ⟨gb101, 1, none⟩ = some (.slice A0_1 l0_1.length c0_1) := (blk_cell BK101.out 1).trans rfl; have hfz30_0 := blk_frozen BK101.out 0; have hfz30_1 := blk_frozen BK101.out 1
   go_wp2_with (first | ((with_reducible refine gate_callee (f := 120) rfl ?_); refine goesL_ (some 9) rfl rfl Try.func120 (by kernel_rfl) rfl #[.agg #[.int .i64 a0_0, .slice A0_1 l0_1.length c0_1]] rfl Q3 ?_; (with_reducible refine (spec_l2Good.calls k a0_0 _ _ l0_1 false _ ?side1 ?side2 A8.out).mono ?_); (case side1 => exact (Q9 HR0_1 HB)); (case side2 => exact HC0_1.out); rintro e w31 ⟨rfl, hb⟩; refine ⟨_, rfl, ?_⟩; replace BK101 := am (blk_below (g := gb101) (o := .cells #[.int .i64 a0_0, .slice A0_1 l0_1.length c0_1] 30 (0, 0)) (Q0 BK101) hb); replace BK102 := am (blk_below (g := gb102) (o := .cells #[.int .i64 a1_0, .slice A1_1 l1_1.length c1_1] 30 (0, 0)) (Q0 BK102) hb); replace BK103 := am (blk_below (g := gb103) (o := .cells #[.int .i64 0, .slice none 0 0] 30 (0, 0)) (Q0 BK103) hb); replace HB := am (below_step (Q1 HB) hb); (try clear hb); (try clear hb2); (try clear hk); (try clear hi)))
   go_meet
   case rel => exact ⟨_, (true), Q11, H', ⟨Q94⟩, ⟨Q0 BK101⟩, ⟨Q0 BK102⟩, ⟨Q0 BK103⟩, ⟨Q1 HB⟩⟩
 case rest =>
  clear HC7
  try clear c1
  try clear c2
  try clear p2
  try clear c3
  try clear p6
  try clear c9
  try clear c11
  try clear c12
  try clear c13
  try clear c16
  try clear c21
  try clear c22
  try clear c25
  try clear c28
  try clear c29
  try clear hcz14_0
  try clear hcz14_1
  try clear hcz17_0
  try clear hcz17_1
  try clear hcz19_0
  try clear hcz19_1
  try clear hcz20_0
  try clear hcz20_1
  try clear hcz23_0
  try clear hcz23_1
  try clear hcz26_0
  try clear hcz26_1
  try clear hcz30_0
  try clear hcz30_1
  try clear hfz14_0
  try clear hfz14_1
  try clear hfz17_0
  try clear hfz17_1
  try clear hfz19_0
  try clear hfz19_1
  try clear hfz20_0
  try clear hfz20_1
  try clear hfz23_0
  try clear hfz23_1
  try clear hfz26_0
  try clear hfz26_1
  try clear hfz30_0
  try clear hfz30_1
  obtain ⟨kq, x23_6, rfl, HA, HJ6, BK101, BK102, BK103, HB⟩ := hcut
  cases kq with
  | zero => exact absurd HA.out (by simp [spec_PutBeside.j0])
  | succ kj6 =>
   have H := HA.out; clear HA
   simp only [spec_PutBeside.j0] at H
   by_cases c32 : x23_6 = true
   ·subst c32
    have H1 : (some (0, ([] : List (S71)), false)) = some (r1, r2, r3) := by rw [if_pos rfl] at H; exact H
    clear H; have H := H1; clear H1
    simp only [Option.some.injEq, Prod.mk.injEq] at H
    obtain ⟨rfl, rfl, rfl⟩ := H; have hnb33 := NB103_101.out; have hnc33 := NB101_103.out; have hnb34 := NB103_102.out; have hnc34 := NB102_103.out; have hcz35_0 : wc.cell? ⟨gb103, 0, none⟩ = some (.int .i64 0) := (blk_cell BK103.out 0).trans rfl; have hcz35_1 : wc.cell? ⟨gb103, 1, none⟩ = some (.slice none 0 0) := (blk_cell BK103.out 1).trans rfl; have hfz35_0 := blk_frozen BK103.out 0; have hfz35_1 := blk_frozen BK103.out 1
    go_wp2
    refine bodyPost_ret (results_ct rfl _ _ gb103 30 #[.int .i64 0, .slice none 0 0] (0, 0) _ rfl (Q26 BK103) Try.underlying30 rfl (by kernel_rfl)) rfl ?_; exact ⟨_, Q10, Q43, Q5 HB GE103⟩
   ·replace c32 := Bool.eq_false_iff.mpr c32
    subst c32; have H1 : ((some (([] : List (S71)) : List (S71))).bind fun y106 => (if y106.length + l0_1.length < 8796093022208 then (spec_PutBeside.l0 kj6 0 a0_0 l0_1 a1_0 l1_1 (wrap64 (a0_0 + a1_0)) (y106 ++ l0_1)) else (none))) = some (r1, r2, r3) := by rw [if_neg (show ¬ (false = true) by decide)] at H; exact H
    clear H; have H := H1; clear H1; obtain ⟨y106, hy106⟩ : ∃ y_ : List (S71), y_ = (([] : List (S71))) := ⟨_, rfl⟩; replace H : (if y106.length + l0_1.length < 8796093022208 then (spec_PutBeside.l0 kj6 0 a0_0 l0_1 a1_0 l1_1 (wrap64 (a0_0 + a1_0)) (y106 ++ l0_1)) else (none)) = some (r1, r2, r3) := RH hy106 H; have Ny106 := Aside0.mk hy106; clear hy106
    by_cases c36 : y106.length + l0_1.length < 8796093022208
    ·rw [if_pos c36] at H
     have LMc36 := Aside0.mk c36; clear c36; obtain ⟨y109, hy109⟩ : ∃ y_ : List (S71), y_ = (y106 ++ l0_1) := ⟨_, rfl⟩; replace H : (spec_PutBeside.l0 kj6 0 a0_0 l0_1 a1_0 l1_1 (wrap64 (a0_0 + a1_0)) y109) = some (r1, r2, r3) := RH hy109 H; have Ny109 := Aside0.mk hy109; clear hy109; have H' := Aside0.mk H; clear H
     try go_wp2
     replace BK101 := am (blk_drew BK101.out); replace BK102 := am (blk_drew BK102.out); replace BK103 := am (blk_drew BK103.out); replace HB := am (below_drew1 HB.out); refine start_ (n := 12) (S := fun w' => w'.cell? ⟨gb101, 0, none⟩ = some (.int .i64 a0_0) ∧ w'.cell? ⟨gb101, 1, none⟩ = some (.slice A0_1 l0_1.length c0_1) ∧ w'.cell? ⟨gb102, 0, none⟩ = some (.int .i64 a1_0) ∧ w'.cell? ⟨gb102, 1, none⟩ = some (.slice A1_1 l1_1.length c1_1)) (ds := []) #[false, false, false, false, false, false, false, false, false, false, false, false] (by kernel_rfl) rfl rfl ⟨(blk_cell BK101.out 0).trans rfl, (blk_cell BK101.out 1).trans rfl, (blk_cell BK102.out 0).trans rfl, (blk_cell BK102.out 1).trans rfl⟩ (fun hHeld => ?_); refine with_tabW spec_PutBeside.tab3 spec_PutBeside.bits3 (fun HT_ HW_ => ?_); generalize wc.drew = w37 at BK101 BK102 BK103 HB hHeld ⊢; refine pq 0 25 rfl rfl HT_ ?_; refine pq 2 27 rfl rfl HT_ ?_; refine pq 6 31 rfl rfl HT_ ?_; refine tq4 1 26 rfl rfl HT_ HW_ hHeld ?_; refine tq4 3 28 rfl rfl HT_ HW_ hHeld ?_; refine pq 4 29 rfl rfl HT_ ?_; refine tq4 7 32 rfl rfl HT_ HW_ hHeld ?_; refine join_ (σ := Value × Value × Nat) 1 #[true, true, true, true, true, true, true, true, true, true, true, false] (fun s_ => [(30, s_.1), (33, s_.2.1), (6, .pointer (some ⟨s_.2.2, 0, none⟩)), (34, .agg #[.int .i64 (wrap64 (a0_0 + a1_0)), s_.2.1])]) (fun s_ w' => (w'.cell? ⟨gb101, 0, none⟩ = some (.int .i64 a0_0) ∧ w'.cell? ⟨gb101, 1, none⟩ = some (.slice A0_1 l0_1.length c0_1) ∧ w'.cell? ⟨gb102, 0, none⟩ = some (.int .i64 a1_0) ∧ w'.cell? ⟨gb102, 1, none⟩ = some (.slice A1_1 l1_1.length c1_1)) ∧ (Kd.R k71 71 w' w.heap.size (fun _ => True) s_.2.1 y109) ∧ (w'.heap[gb101]? = some (.cells #[.int .i64 a0_0, .slice A0_1 l0_1.length c0_1] 30 (0, 0))) ∧ (w'.heap[gb102]? = some (.cells #[.int .i64 a1_0, .slice A1_1 l1_1.length c1_1] 30 (0, 0))) ∧ (w'.heap[gb103]? = some (.cells #[.int .i64 0, .slice none 0 0] 30 (0, 0))) ∧ (w'.heap[s_.2.2]? = some (.cells #[.int .i64 0, .slice none 0 0] 30 (0, 0))) ∧ (w.heap.size ≤ s_.2.2) ∧ (w.heap.size ≤ s_.2.2) ∧ (gb101 ≠ s_.2.2) ∧ (s_.2.2 ≠ gb101) ∧ (gb102 ≠ s_.2.2) ∧ (s_.2.2 ≠ gb102) ∧ (gb103 ≠ s_.2.2) ∧ (s_.2.2 ≠ gb103) ∧ (Below w.heap.size w w')) ?_ ?_
     rotate_left
     ·intro hCont
      refine two_ (i := 5) (j := 10) (Ni := some 30) (Nj := some 6) #[true, true, true, true, true, true, true, true, false, false, false, false] #[true, true, true, true, true, false, true, true, false, false, true, false] rfl rfl rfl rfl (two_of HT_.out (by kernel_rfl)) (by decide) (by decide) (fun K hK => ?_) (fun K hK => ?_)
      ·skip
       refine Kd.R_lit_step k71 _ 71 ?hg (N := 30) ?hd (xs := ([] : List (S71))) (inner := []) (ok := fun _ => True) (okp := fun _ => True) ?hr ?hp (fun _ hk => hk) trivial (Below.refl _ _) (Nat.le_refl _) (by simp) ?_; (case hd => rfl); (case hg => rfl); (case hr => first | (go_simp; done) | (go_simp; rfl)); (case hp => exact (Reps.none _ _)); intro v107 w38 ho39 hb hg_ hnew_; clear hg_ hnew_
       (first | rw [← Ny106.out] at ho39 | (simp only [Int.reduceToNat] at ho39; rw [← Ny106.out] at ho39))
       have HO108 := am (Kd.R_lower ho39 (below_size (Q1 HB))); replace BK101 := am (blk_below (g := gb101) (o := .cells #[.int .i64 a0_0, .slice A0_1 l0_1.length c0_1] 30 (0, 0)) (Q0 BK101) hb); replace BK102 := am (blk_below (g := gb102) (o := .cells #[.int .i64 a1_0, .slice A1_1 l1_1.length c1_1] 30 (0, 0)) (Q0 BK102) hb); replace BK103 := am (blk_below (g := gb103) (o := .cells #[.int .i64 0, .slice none 0 0] 30 (0, 0)) (Q0 BK103) hb); replace HB := am (below_step (Q1 HB) hb); clear hb ho39; refine hK.out _ _ ⟨(blk_cell BK101.out 0).trans rfl, (blk_cell BK101.out 1).trans rfl, (blk_cell BK102.out 0).trans rfl, (blk_cell BK102.out 1).trans rfl⟩ (fun hHeld => ?_); clear hK K; refine norm_ (a' := ?_) ?_ ?_
       rotate_left
       ·show Act.put _ (some 30) _ = _
        simp only [Act.put, List.setIfInBounds_toArray, List.set_cons_zero, List.set_cons_succ, i64_w, i32_w]
        rfl
       refine two_ (i := 8) (j := 10) (Ni := some 33) (Nj := some 6) #[true, true, true, true, true, true, true, true, true, false, false, false] #[true, true, true, true, true, true, true, true, false, false, true, false] rfl rfl rfl rfl (two_of HT_.out (by kernel_rfl)) (by decide) (by decide) (fun K hK => ?_) (fun K hK => ?_)
       ·skip
        refine Kd.R_append_rows_step k71 (w0 := w) w.heap.size (by rfl) (.tmp 30) (.tmp 32) 22 71 (.agg #[(.int .i64 0), (.int .i64 0)]) 16 rfl Try.underlying22 info71 rfl (by decide) (by omega) v107 y106 l0_1 _ _ _ (fun _ => True) (fun _ => False) rfl rfl ?aO ?aR (fun _ _ h => h) (fun _ h => h.elim) ?aF ?aB ?aS ?aL ?_
        (case aR => exact (Q9 HR0_1 HB))
        (case aB => exact (Q1 HB))
        (case aF => exact (fun _ _ => trivial))
        (case aO => exact (Q6 HO108))
        (case aS => exact (below_size (Q1 HB)))
        (case aL => have := LMc36.out; omega)
        intro v110 w40 ho hb hg hat; rw [← Ny109.out] at ho; replace BK101 := am (blk_grown (g := gb101) (o := .cells #[.int .i64 a0_0, .slice A0_1 l0_1.length c0_1] 30 (0, 0)) (Q0 BK101) hg (Kd.R_ne HO108.out BK101.out (by decide))); replace BK102 := am (blk_grown (g := gb102) (o := .cells #[.int .i64 a1_0, .slice A1_1 l1_1.length c1_1] 30 (0, 0)) (Q0 BK102) hg (Kd.R_ne HO108.out BK102.out (by decide))); replace BK103 := am (blk_grown (g := gb103) (o := .cells #[.int .i64 0, .slice none 0 0] 30 (0, 0)) (Q0 BK103) hg (Kd.R_ne HO108.out BK103.out (by decide))); replace HB := am (hb); have HO111 := am (ho); clear HO108; clear ho hb hg hat; obtain ⟨Ao41, co41, eo41⟩ := Kd.R_slice HO111.out
        (first | subst eo41 | (injection eo41 with f1_ f2_ f3_; have f4_ := f1_.symm; have f5_ := f3_.symm; clear f1_ f2_ f3_; subst f4_; subst f5_))
        refine hK.out _ _ ⟨(blk_cell BK101.out 0).trans rfl, (blk_cell BK101.out 1).trans rfl, (blk_cell BK102.out 0).trans rfl, (blk_cell BK102.out 1).trans rfl⟩ (fun hHeld => ?_); clear hK K; refine norm_ (a' := ?_) ?_ ?_
        rotate_left
        ·show Act.put _ (some 33) _ = _
         simp only [Act.put, List.setIfInBounds_toArray, List.set_cons_zero, List.set_cons_succ, i64_w, i32_w]
         rfl
        refine pq 9 34 rfl rfl HT_ ?_; refine oq 10 6 rfl rfl HT_ (fun K hK => ?_); refine box_step ?hg (N := 6) ?hd (cs := #[.int .i64 0, .slice none 0 0]) (t := 30) ?hr ?_; (case hd => rfl); (case hg => rfl); (case hr => first | (go_simp; done) | (go_simp; rfl)); intro gb112 hg w42 hbox hb; replace HO111 := am (Kd.R_below (Q6 HO111) hb); have BK112 := am (hbox); have GW112 := am ((Q25 : w.heap.size ≤ gb112)); have GE112 := am ((Q25 : w.heap.size ≤ gb112)); replace HB := am (below_step (Q1 HB) hb); have NB101_112 := am ((Q28 : gb101 ≠ gb112)); have NB112_101 := am ((Q29 : gb112 ≠ gb101)); replace BK101 := am (blk_below (g := gb101) (o := .cells #[.int .i64 a0_0, .slice A0_1 l0_1.length c0_1] 30 (0, 0)) (Q0 BK101) hb); have NB102_112 := am ((Q63 : gb102 ≠ gb112)); have NB112_102 := am ((Q64 : gb112 ≠ gb102)); replace BK102 := am (blk_below (g := gb102) (o := .cells #[.int .i64 a1_0, .slice A1_1 l1_1.length c1_1] 30 (0, 0)) (Q0 BK102) hb); have NB103_112 := am ((Q78 : gb103 ≠ gb112)); have NB112_103 := am ((Q79 : gb112 ≠ gb103)); replace BK103 := am (blk_below (g := gb103) (o := .cells #[.int .i64 0, .slice none 0 0] 30 (0, 0)) (Q0 BK103) hb); clear hb hbox hg; refine hK.out _ _ ⟨(blk_cell BK101.out 0).trans rfl, (blk_cell BK101.out 1).trans rfl, (blk_cell BK102.out 0).trans rfl, (blk_cell BK102.out 1).trans rfl⟩ (fun hHeld => ?_); clear hK K; refine norm_ (a' := ?_) ?_ ?_
        rotate_left
        ·show Act.put _ (some 6) _ = _
         simp only [Act.put, List.setIfInBounds_toArray, List.set_cons_zero, List.set_cons_succ, i64_w, i32_w]
         rfl
        exact norm_ Q56 (hCont (v107, .slice Ao41 y109.length co41, gb112) _ ⟨hHeld, (Q6 HO111), (Q0 BK101), (Q0 BK102), (Q0 BK103), (Q0 BK112), GW112.out, GE112.out, NB101_112.out, NB112_101.out, NB102_112.out, NB112_102.out, NB103_112.out, NB112_103.out, (Q1 HB)⟩)
       ·skip
        refine box_step ?hg (N := 6) ?hd (cs := #[.int .i64 0, .slice none 0 0]) (t := 30) ?hr ?_; (case hd => rfl); (case hg => rfl); (case hr => first | (go_simp; done) | (go_simp; rfl)); intro gb112 hg w40 hbox hb; replace HO108 := am (Kd.R_below (Q6 HO108) hb); have BK112 := am (hbox); have GW112 := am ((Q25 : w.heap.size ≤ gb112)); have GE112 := am ((Q25 : w.heap.size ≤ gb112)); replace HB := am (below_step (Q1 HB) hb); have NB101_112 := am ((Q28 : gb101 ≠ gb112)); have NB112_101 := am ((Q29 : gb112 ≠ gb101)); replace BK101 := am (blk_below (g := gb101) (o := .cells #[.int .i64 a0_0, .slice A0_1 l0_1.length c0_1] 30 (0, 0)) (Q0 BK101) hb); have NB102_112 := am ((Q63 : gb102 ≠ gb112)); have NB112_102 := am ((Q64 : gb112 ≠ gb102)); replace BK102 := am (blk_below (g := gb102) (o := .cells #[.int .i64 a1_0, .slice A1_1 l1_1.length c1_1] 30 (0, 0)) (Q0 BK102) hb); have NB103_112 := am ((Q78 : gb103 ≠ gb112)); have NB112_103 := am ((Q79 : gb112 ≠ gb103)); replace BK103 := am (blk_below (g := gb103) (o := .cells #[.int .i64 0, .slice none 0 0] 30 (0, 0)) (Q0 BK103) hb); clear hb hbox hg; refine hK.out _ _ ⟨(blk_cell BK101.out 0).trans rfl, (blk_cell BK101.out 1).trans rfl, (blk_cell BK102.out 0).trans rfl, (blk_cell BK102.out 1).trans rfl⟩ (fun hHeld => ?_); clear hK K; refine norm_ (a' := ?_) ?_ ?_
        rotate_left
        ·show Act.put _ (some 6) _ = _
         simp only [Act.put, List.setIfInBounds_toArray, List.set_cons_zero, List.set_cons_succ, i64_w, i32_w]
         rfl
        refine oq 8 33 rfl rfl HT_ (fun K hK => ?_); refine Kd.R_append_rows_step k71 (w0 := w) w.heap.size (by rfl) (.tmp 30) (.tmp 32) 22 71 (.agg #[(.int .i64 0), (.int .i64 0)]) 16 rfl Try.underlying22 info71 rfl (by decide) (by omega) v107 y106 l0_1 _ _ _ (fun _ => True) (fun _ => False) rfl rfl ?aO ?aR (fun _ _ h => h) (fun _ h => h.elim) ?aF ?aB ?aS ?aL ?_
        (case aR => exact (Q9 HR0_1 HB))
        (case aB => exact (Q1 HB))
        (case aF => exact (fun _ _ => trivial))
        (case aO => exact (Q6 HO108))
        (case aS => exact (below_size (Q1 HB)))
        (case aL => have := LMc36.out; omega)
        intro v110 w41 ho hb hg hat; rw [← Ny109.out] at ho; replace BK101 := am (blk_grown (g := gb101) (o := .cells #[.int .i64 a0_0, .slice A0_1 l0_1.length c0_1] 30 (0, 0)) (Q0 BK101) hg (Kd.R_ne HO108.out BK101.out (by decide))); replace BK102 := am (blk_grown (g := gb102) (o := .cells #[.int .i64 a1_0, .slice A1_1 l1_1.length c1_1] 30 (0, 0)) (Q0 BK102) hg (Kd.R_ne HO108.out BK102.out (by decide))); replace BK103 := am (blk_grown (g := gb103) (o := .cells #[.int .i64 0, .slice none 0 0] 30 (0, 0)) (Q0 BK103) hg (Kd.R_ne HO108.out BK103.out (by decide))); replace BK112 := am (blk_grown (g := gb112) (o := .cells #[.int .i64 0, .slice none 0 0] 30 (0, 0)) (Q0 BK112) hg (Kd.R_ne HO108.out BK112.out (by decide))); replace HB := am (hb); have HO111 := am (ho); clear HO108; clear ho hb hg hat; obtain ⟨Ao42, co42, eo42⟩ := Kd.R_slice HO111.out
        (first | subst eo42 | (injection eo42 with f1_ f2_ f3_; have f4_ := f1_.symm; have f5_ := f3_.symm; clear f1_ f2_ f3_; subst f4_; subst f5_))
        refine hK.out _ _ ⟨(blk_cell BK101.out 0).trans rfl, (blk_cell BK101.out 1).trans rfl, (blk_cell BK102.out 0).trans rfl, (blk_cell BK102.out 1).trans rfl⟩ (fun hHeld => ?_); clear hK K; refine norm_ (a' := ?_) ?_ ?_
        rotate_left
        ·show Act.put _ (some 33) _ = _
         simp only [Act.put, List.setIfInBounds_toArray, List.set_cons_zero, List.set_cons_succ, i64_w, i32_w]
         rfl
        refine pq 9 34 rfl rfl HT_ ?_; exact norm_ Q56 (hCont (v107, .slice Ao42 y109.length co42, gb112) _ ⟨hHeld, (Q6 HO111), (Q0 BK101), (Q0 BK102), (Q0 BK103), (Q0 BK112), GW112.out, GE112.out, NB101_112.out, NB112_101.out, NB102_112.out, NB112_102.out, NB103_112.out, NB112_103.out, (Q1 HB)⟩)
      ·skip
       refine box_step ?hg (N := 6) ?hd (cs := #[.int .i64 0, .slice none 0 0]) (t := 30) ?hr ?_; (case hd => rfl); (case hg => rfl); (case hr => first | (go_simp; done) | (go_simp; rfl)); intro gb112 hg w38 hbox hb; have BK112 := am (hbox); have GW112 := am ((Q25 : w.heap.size ≤ gb112)); have GE112 := am ((Q25 : w.heap.size ≤ gb112)); replace HB := am (below_step (Q1 HB) hb); have NB101_112 := am ((Q28 : gb101 ≠ gb112)); have NB112_101 := am ((Q29 : gb112 ≠ gb101)); replace BK101 := am (blk_below (g := gb101) (o := .cells #[.int .i64 a0_0, .slice A0_1 l0_1.length c0_1] 30 (0, 0)) (Q0 BK101) hb); have NB102_112 := am ((Q63 : gb102 ≠ gb112)); have NB112_102 := am ((Q64 : gb112 ≠ gb102)); replace BK102 := am (blk_below (g := gb102) (o := .cells #[.int .i64 a1_0, .slice A1_1 l1_1.length c1_1] 30 (0, 0)) (Q0 BK102) hb); have NB103_112 := am ((Q78 : gb103 ≠ gb112)); have NB112_103 := am ((Q79 : gb112 ≠ gb103)); replace BK103 := am (blk_below (g := gb103) (o := .cells #[.int .i64 0, .slice none 0 0] 30 (0, 0)) (Q0 BK103) hb); clear hb hbox hg; refine hK.out _ _ ⟨(blk_cell BK101.out 0).trans rfl, (blk_cell BK101.out 1).trans rfl, (blk_cell BK102.out 0).trans rfl, (blk_cell BK102.out 1).trans rfl⟩ (fun hHeld => ?_); clear hK K; refine norm_ (a' := ?_) ?_ ?_
       rotate_left
       ·show Act.put _ (some 6) _ = _
        simp only [Act.put, List.setIfInBounds_toArray, List.set_cons_zero, List.set_cons_succ, i64_w, i32_w]
        rfl
       refine oq 5 30 rfl rfl HT_ (fun K hK => ?_); refine Kd.R_lit_step k71 _ 71 ?hg (N := 30) ?hd (xs := ([] : List (S71))) (inner := []) (ok := fun _ => True) (okp := fun _ => True) ?hr ?hp (fun _ hk => hk) trivial (Below.refl _ _) (Nat.le_refl _) (by simp) ?_; (case hd => rfl); (case hg => rfl); (case hr => first | (go_simp; done) | (go_simp; rfl)); (case hp => exact (Reps.none _ _)); intro v107 w39 ho40 hb hg_ hnew_; clear hg_ hnew_
       (first | rw [← Ny106.out] at ho40 | (simp only [Int.reduceToNat] at ho40; rw [← Ny106.out] at ho40))
       have HO108 := am (Kd.R_lower ho40 (below_size (Q1 HB))); replace BK101 := am (blk_below (g := gb101) (o := .cells #[.int .i64 a0_0, .slice A0_1 l0_1.length c0_1] 30 (0, 0)) (Q0 BK101) hb); replace BK102 := am (blk_below (g := gb102) (o := .cells #[.int .i64 a1_0, .slice A1_1 l1_1.length c1_1] 30 (0, 0)) (Q0 BK102) hb); replace BK103 := am (blk_below (g := gb103) (o := .cells #[.int .i64 0, .slice none 0 0] 30 (0, 0)) (Q0 BK103) hb); replace BK112 := am (blk_below (g := gb112) (o := .cells #[.int .i64 0, .slice none 0 0] 30 (0, 0)) (Q0 BK112) hb); replace HB := am (below_step (Q1 HB) hb); clear hb ho40; refine hK.out _ _ ⟨(blk_cell BK101.out 0).trans rfl, (blk_cell BK101.out 1).trans rfl, (blk_cell BK102.out 0).trans rfl, (blk_cell BK102.out 1).trans rfl⟩ (fun hHeld => ?_); clear hK K; refine norm_ (a' := ?_) ?_ ?_
       rotate_left
       ·show Act.put _ (some 30) _ = _
        simp only [Act.put, List.setIfInBounds_toArray, List.set_cons_zero, List.set_cons_succ, i64_w, i32_w]
        rfl
       refine oq 8 33 rfl rfl HT_ (fun K hK => ?_); refine Kd.R_append_rows_step k71 (w0 := w) w.heap.size (by rfl) (.tmp 30) (.tmp 32) 22 71 (.agg #[(.int .i64 0), (.int .i64 0)]) 16 rfl Try.underlying22 info71 rfl (by decide) (by omega) v107 y106 l0_1 _ _ _ (fun _ => True) (fun _ => False) rfl rfl ?aO ?aR (fun _ _ h => h) (fun _ h => h.elim) ?aF ?aB ?aS ?aL ?_
       (case aR => exact (Q9 HR0_1 HB))
       (case aB => exact (Q1 HB))
       (case aF => exact (fun _ _ => trivial))
       (case aO => exact (Q6 HO108))
       (case aS => exact (below_size (Q1 HB)))
       (case aL => have := LMc36.out; omega)
       intro v110 w41 ho hb hg hat; rw [← Ny109.out] at ho; replace BK101 := am (blk_grown (g := gb101) (o := .cells #[.int .i64 a0_0, .slice A0_1 l0_1.length c0_1] 30 (0, 0)) (Q0 BK101) hg (Kd.R_ne HO108.out BK101.out (by decide))); replace BK102 := am (blk_grown (g := gb102) (o := .cells #[.int .i64 a1_0, .slice A1_1 l1_1.length c1_1] 30 (0, 0)) (Q0 BK102) hg (Kd.R_ne HO108.out BK102.out (by decide))); replace BK103 := am (blk_grown (g := gb103) (o := .cells #[.int .i64 0, .slice none 0 0] 30 (0, 0)) (Q0 BK103) hg (Kd.R_ne HO108.out BK103.out (by decide))); replace BK112 := am (blk_grown (g := gb112) (o := .cells #[.int .i64 0, .slice none 0 0] 30 (0, 0)) (Q0 BK112) hg (Kd.R_ne HO108.out BK112.out (by decide))); replace HB := am (hb); have HO111 := am (ho); clear HO108; clear ho hb hg hat; obtain ⟨Ao42, co42, eo42⟩ := Kd.R_slice HO111.out
       (first | subst eo42 | (injection eo42 with f1_ f2_ f3_; have f4_ := f1_.symm; have f5_ := f3_.symm; clear f1_ f2_ f3_; subst f4_; subst f5_))
       refine hK.out _ _ ⟨(blk_cell BK101.out 0).trans rfl, (blk_cell BK101.out 1).trans rfl, (blk_cell BK102.out 0).trans rfl, (blk_cell BK102.out 1).trans rfl⟩ (fun hHeld => ?_); clear hK K; refine norm_ (a' := ?_) ?_ ?_
       rotate_left
       ·show Act.put _ (some 33) _ = _
        simp only [Act.put, List.setIfInBounds_toArray, List.set_cons_zero, List.set_cons_succ, i64_w, i32_w]
        rfl
       refine pq 9 34 rfl rfl HT_ ?_; exact norm_ Q56 (hCont (v107, .slice Ao42 y109.length co42, gb112) _ ⟨hHeld, (Q6 HO111), (Q0 BK101), (Q0 BK102), (Q0 BK103), (Q0 BK112), GW112.out, GE112.out, NB101_112.out, NB112_101.out, NB102_112.out, NB112_102.out, NB103_112.out, NB112_103.out, (Q1 HB)⟩)
     rintro ⟨v107, v110, gb112⟩ w43 ⟨hS_, h0_, h1_, h2_, h3_, h4_, h5_, h6_, h7_, h8_, h9_, h10_, h11_, h12_, h13_⟩; have HO111 : Aside0 (Kd.R k71 71 w43 w.heap.size (fun _ => True) v110 y109) := ⟨h0_⟩; replace BK101 : Aside0 (w43.heap[gb101]? = some (.cells #[.int .i64 a0_0, .slice A0_1 l0_1.length c0_1] 30 (0, 0))) := ⟨h1_⟩; replace BK102 : Aside0 (w43.heap[gb102]? = some (.cells #[.int .i64 a1_0, .slice A1_1 l1_1.length c1_1] 30 (0, 0))) := ⟨h2_⟩; replace BK103 : Aside0 (w43.heap[gb103]? = some (.cells #[.int .i64 0, .slice none 0 0] 30 (0, 0))) := ⟨h3_⟩; have BK112 : Aside0 (w43.heap[gb112]? = some (.cells #[.int .i64 0, .slice none 0 0] 30 (0, 0))) := ⟨h4_⟩; have GW112 : Aside0 (w.heap.size ≤ gb112) := ⟨h5_⟩; have GE112 : Aside0 (w.heap.size ≤ gb112) := ⟨h6_⟩; have NB101_112 : Aside0 (gb101 ≠ gb112) := ⟨h7_⟩; have NB112_101 : Aside0 (gb112 ≠ gb101) := ⟨h8_⟩; have NB102_112 : Aside0 (gb102 ≠ gb112) := ⟨h9_⟩; have NB112_102 : Aside0 (gb112 ≠ gb102) := ⟨h10_⟩; have NB103_112 : Aside0 (gb103 ≠ gb112) := ⟨h11_⟩; have NB112_103 : Aside0 (gb112 ≠ gb103) := ⟨h12_⟩; replace HB : Aside0 (Below w.heap.size w w43) := ⟨h13_⟩; clear h0_ h1_ h2_ h3_ h4_ h5_ h6_ h7_ h8_ h9_ h10_ h11_ h12_ h13_; have hHeld : w43.cell? ⟨gb101, 0, none⟩ = some (.int .i64 a0_0) ∧ w43.cell? ⟨gb101, 1, none⟩ = some (.slice A0_1 l0_1.length c0_1) ∧ w43.cell? ⟨gb102, 0, none⟩ = some (.int .i64 a1_0) ∧ w43.cell? ⟨gb102, 1, none⟩ = some (.slice A1_1 l1_1.length c1_1) := hS_; obtain ⟨Ao44, co44, eo44⟩ := Kd.R_slice HO111.out
     (first | subst eo44 | (injection eo44 with f1_ f2_ f3_; have f4_ := f1_.symm; have f5_ := f3_.symm; clear f1_ f2_ f3_; subst f4_; subst f5_))
     refine norm_ (a' := ?_) ?_ ?_
     rotate_left
     ·simp only [putAll, Act.put, List.setIfInBounds_toArray, List.set_cons_zero, List.set_cons_succ]
      rfl
     refine one_ (i := 11) (N := none) #[true, true, true, true, true, true, true, true, true, true, true, true] rfl rfl (one_of HT_.out (by kernel_rfl)) (by decide) (fun K hK => ?_); have hs45 : w43.cell? ⟨gb112, 0, none⟩ = some (.int .i64 0) := (blk_cell BK112.out 0).trans rfl; have hfs45 := blk_frozen BK112.out 0; have hns45_0 := NB101_112.out; have hns45_1 := NB102_112.out; have hns45_2 := NB103_112.out; have hms45_0 := NB112_101.out; have hms45_1 := NB112_102.out; have hms45_2 := NB112_103.out; have hs46 : w43.cell? ⟨gb112, 1, none⟩ = some (.slice none 0 0) := (blk_cell BK112.out 1).trans rfl; have hfs46 := blk_frozen BK112.out 1; have hns46_0 := NB101_112.out; have hns46_1 := NB102_112.out; have hns46_2 := NB103_112.out; have hms46_0 := NB112_101.out; have hms46_1 := NB112_102.out; have hms46_2 := NB112_103.out; refine skip_ (w1 := ?_) (by rfl) rfl ?_ ?_
     rotate_left
     ·go_simp
      rfl
     refine hK.out _ _ ⟨((cell_far (p := ⟨gb112, _, none⟩) NB101_112.out _).trans (((cell_far (p := ⟨gb112, _, none⟩) NB101_112.out _).trans (hHeld.1)))), ((cell_far (p := ⟨gb112, _, none⟩) NB101_112.out _).trans (((cell_far (p := ⟨gb112, _, none⟩) NB101_112.out _).trans (hHeld.2.1)))), ((cell_far (p := ⟨gb112, _, none⟩) NB102_112.out _).trans (((cell_far (p := ⟨gb112, _, none⟩) NB102_112.out _).trans (hHeld.2.2.1)))), ((cell_far (p := ⟨gb112, _, none⟩) NB102_112.out _).trans (((cell_far (p := ⟨gb112, _, none⟩) NB102_112.out _).trans (hHeld.2.2.2))))⟩ (fun hHeld => ?_); clear hK K; refine done_ (done_of HT_.out (by kernel_rfl)) ?_
     try go_wp2
     go_loopg [7] kj6 (fun kq v7 w' => ∃ (x7_2 : Int) (x113001_2 : List (S71)) (u113001 : Value), v7 = .int .i64 x7_2 ∧ Aside0 (spec_PutBeside.l0 kq x7_2 a0_0 l0_1 a1_0 l1_1 (wrap64 (a0_0 + a1_0)) x113001_2 = some (r1, r2, r3)) ∧ Aside0 (kq ≤ kj6) ∧ Aside0 (Kd.R k71 71 w' w.heap.size (fun _ => True) u113001 x113001_2) ∧ Aside0 (w'.heap[gb101]? = some (.cells #[.int .i64 a0_0, (.slice A0_1 l0_1.length c0_1)] 30 (0, 0))) ∧ Aside0 (w'.heap[gb102]? = some (.cells #[.int .i64 a1_0, (.slice A1_1 l1_1.length c1_1)] 30 (0, 0))) ∧ Aside0 (w'.heap[gb103]? = some (.cells #[.int .i64 0, (.slice none 0 0)] 30 (0, 0))) ∧ Aside0 (w'.heap[gb112]? = some (.cells #[.int .i64 (wrap64 (a0_0 + a1_0)), u113001] 30 (0, 0))) ∧ Aside0 (Below w.heap.size w w'))
     case atStart => exact ⟨(0), (y109), (.slice Ao44 y109.length co44), Q11, H', ⟨Nat.le_refl _⟩, ⟨by (with_reducible repeat (first | apply Kd.R_alloc | apply Kd.R_drewN | apply Kd.R_drew)); exact Kd.R_mono (Kd.R_far (p := ⟨gb112, 1, none⟩) (Kd.R_far (p := ⟨gb112, 0, none⟩) (Kd.R_types HO111.out BK112.out (by decide)) (fun _ hk => hk.2) (.int .i64 (wrap64 (a0_0 + a1_0)))) (fun _ hk => hk.2) (.slice Ao44 y109.length co44)) (fun _ hk => trivial)⟩, ⟨Q2 NB101_112 BK101⟩, ⟨Q2 NB102_112 BK102⟩, ⟨Q2 NB103_112 BK103⟩, ⟨Q45 BK112⟩, ⟨Q5 HB GE112⟩⟩
     case round =>
      clear H'
      try clear c1
      try clear c2
      try clear p2
      try clear c3
      try clear p6
      try clear c9
      try clear c11
      try clear c12
      try clear c13
      try clear c16
      try clear c21
      try clear c22
      try clear c25
      try clear c28
      try clear c29
      try clear c32
      try clear c33
      try clear c34
      try clear c36
      try clear hcz14_0
      try clear hcz14_1
      try clear hcz17_0
      try clear hcz17_1
      try clear hcz19_0
      try clear hcz19_1
      try clear hcz20_0
      try clear hcz20_1
      try clear hcz23_0
      try clear hcz23_1
      try clear hcz26_0
      try clear hcz26_1
      try clear hcz30_0
      try clear hcz30_1
      try clear hcz35_0
      try clear hcz35_1
      try clear hfz14_0
      try clear hfz14_1
      try clear hfz17_0
      try clear hfz17_1
      try clear hfz19_0
      try clear hfz19_1
      try clear hfz20_0
      try clear hfz20_1
      try clear hfz23_0
      try clear hfz23_1
      try clear hfz26_0
      try clear hfz26_1
      try clear hfz30_0
      try clear hfz30_1
      try clear hfz35_0
      try clear hfz35_1
      try clear p2
      try clear p6
      obtain ⟨x7_2, x113001_2, u113001, rfl, HA, HK2, HO_113001, BK101, BK102, BK103, BK112, HB⟩ := hrel
      cases gk with
      | zero => exact absurd HA.out (by simp [spec_PutBeside.l0])
      | succ k2 =>
       have H := HA.out; clear HA
       simp only [spec_PutBeside.l0] at H
       by_cases c47 : x7_2 < (l1_1.length : Int)
       ·rw [if_pos c47] at H
        have c47b0 := decide_eq_true c47; clear c47
        by_cases c48 : 0 ≤ x7_2
        ·rw [if_pos c48] at H
         have c48b0 := decide_eq_true c48; clear c48
         by_cases c49 : x113001_2.length < 8796093022208
         ·rw [if_pos c49] at H
          have LMc49 := Aside0.mk c49; clear c49; obtain ⟨y115, hy115⟩ : ∃ y_ : List (S71), y_ = (x113001_2 ++ [(⟨wrap64 (((rd_T71 l1_1 x7_2).f0) + a0_0), wrap64 (((rd_T71 l1_1 x7_2).f1) + a0_0)⟩ : S71)]) := ⟨_, rfl⟩; replace H : (spec_PutBeside.l0 k2 (wrap64 (x7_2 + 1)) a0_0 l0_1 a1_0 l1_1 (wrap64 (a0_0 + a1_0)) y115) = some (r1, r2, r3) := RH hy115 H; have Ny115 := Aside0.mk hy115; clear hy115; have H' := Aside0.mk H; clear H; have hnb50 := NB102_101.out; have hnc50 := NB101_102.out; have hnb51 := NB102_103.out; have hnc51 := NB103_102.out; have hnb52 := NB102_112.out; have hnc52 := NB112_102.out; have hcz53_0 : wr.cell? ⟨gb102, 0, none⟩ = some (.int .i64 a1_0) := (blk_cell BK102.out 0).trans rfl; have hcz53_1 : wr.cell? ⟨gb102, 1, none⟩ = some (.slice A1_1 l1_1.length c1_1) := (blk_cell BK102.out 1).trans rfl; have hfz53_0 := blk_frozen BK102.out 0; have hfz53_1 := blk_frozen BK102.out 1
          try go_wp2
          replace HO_113001 := am (Kd.R_drew HO_113001.out); replace BK101 := am (blk_drew BK101.out); replace BK102 := am (blk_drew BK102.out); replace BK103 := am (blk_drew BK103.out); replace BK112 := am (blk_drew BK112.out); replace HB := am (below_drew1 HB.out); have p113 : 0 ≤ (x7_2 : Int) := of_decide_eq_true Q12; have q113 : x7_2 < (l1_1.length : Int) := of_decide_eq_true Q12; obtain ⟨ad113, e113, hx113_0, hx113_1⟩ := at_T71 HR1_1.out x7_2 p113 q113; have hw113_1 := hx113_1; have hw113_0 := hx113_0
          cases e113
          replace hx113_0 := (HB.out.cell (World.block_lt_of_cell? w _ hx113_0)).trans hx113_0; replace hx113_1 := (HB.out.cell (World.block_lt_of_cell? w _ hx113_1)).trans hx113_1; replace p113 := eq_true p113; replace q113 := eq_true q113; have p114 : 0 ≤ (x7_2 : Int) := of_decide_eq_true Q12; have q114 : x7_2 < (l1_1.length : Int) := of_decide_eq_true Q12; obtain ⟨ad114, e114, hx114_0, hx114_1⟩ := at_T71 HR1_1.out x7_2 p114 q114; have hw114_1 := hx114_1; have hw114_0 := hx114_0; obtain rfl : ad113 = ad114 := (by injection e114); replace hx114_0 := (HB.out.cell (World.block_lt_of_cell? w _ hx114_0)).trans hx114_0; replace hx114_1 := (HB.out.cell (World.block_lt_of_cell? w _ hx114_1)).trans hx114_1; replace p114 := eq_true p114; replace q114 := eq_true q114; refine start_ (n := 25) (S := fun w' => w'.cell? ⟨gb112, 0, none⟩ = some (.int .i64 (wrap64 (a0_0 + a1_0))) ∧ w'.cell? ⟨gb112, 1, none⟩ = some (u113001) ∧ w'.cell? ⟨gb102, 0, none⟩ = some (.int .i64 a1_0) ∧ w'.cell? ⟨gb102, 1, none⟩ = some (.slice (some ad113) l1_1.length c1_1) ∧ w'.cell? ⟨gb101, 0, none⟩ = some (.int .i64 a0_0) ∧ w'.cell? ⟨gb101, 1, none⟩ = some (.slice A0_1 l0_1.length c0_1) ∧ w'.cell? (ad113.add ((x7_2).toNat * 2)) = some (.int .i64 ((rd_T71 l1_1 x7_2).f0)) ∧ w'.cell? ⟨(ad113.add ((x7_2).toNat * 2)).block, (ad113.add ((x7_2).toNat * 2)).off + 1, none⟩ = some (.int .i64 ((rd_T71 l1_1 x7_2).f1)) ∧ w'.cell? (ad113.add ((x7_2).toNat * 2)) = some (.int .i64 ((rd_T71 l1_1 x7_2).f0)) ∧ w'.cell? ⟨(ad113.add ((x7_2).toNat * 2)).block, (ad113.add ((x7_2).toNat * 2)).off + 1, none⟩ = some (.int .i64 ((rd_T71 l1_1 x7_2).f1))) (ds := [24]) #[false, false, false, false, false, false, false, false, false, false, false, false, false, false, false, false, false, false, false, false, false, false, false, false, false] (by kernel_rfl) rfl rfl ⟨(blk_cell BK112.out 0).trans rfl, (blk_cell BK112.out 1).trans rfl, (blk_cell BK102.out 0).trans rfl, (blk_cell BK102.out 1).trans rfl, (blk_cell BK101.out 0).trans rfl, (blk_cell BK101.out 1).trans rfl, ((HB.out.cell (World.block_lt_of_cell? w _ hw113_0)).trans hw113_0), ((HB.out.cell (World.block_lt_of_cell? w _ hw113_1)).trans hw113_1), ((HB.out.cell (World.block_lt_of_cell? w _ hw114_0)).trans hw114_0), ((HB.out.cell (World.block_lt_of_cell? w _ hw114_1)).trans hw114_1)⟩ (fun hHeld => ?_); refine with_tabW spec_PutBeside.tab7 spec_PutBeside.bits7 (fun HT_ HW_ => ?_); generalize wr.drew = w54 at HO_113001 BK101 BK102 BK103 BK112 HB hx113_0 hx113_1 hx114_0 hx114_1 hHeld ⊢; refine pq 0 42 rfl rfl HT_ ?_; refine pq 2 44 rfl rfl HT_ ?_; refine pq 4 46 rfl rfl HT_ ?_; refine pq 8 50 rfl rfl HT_ ?_; refine pq 11 53 rfl rfl HT_ ?_; refine pq 13 55 rfl rfl HT_ ?_; refine pq 17 59 rfl rfl HT_ ?_; refine tq10 1 43 rfl rfl HT_ HW_ hHeld ?_; refine tq10 3 45 rfl rfl HT_ HW_ hHeld ?_; refine pq 5 47 rfl rfl HT_ ?_; refine pq 6 48 rfl rfl HT_ ?_; refine tq10 7 49 rfl rfl HT_ HW_ hHeld ?_; refine tq10 9 51 rfl rfl HT_ HW_ hHeld ?_; refine pq 10 52 rfl rfl HT_ ?_; refine tq10 12 54 rfl rfl HT_ HW_ hHeld ?_; refine pq 14 56 rfl rfl HT_ ?_; refine pq 15 57 rfl rfl HT_ ?_; refine tq10 16 58 rfl rfl HT_ HW_ hHeld ?_; refine tq10 18 60 rfl rfl HT_ HW_ hHeld ?_; refine pq 19 61 rfl rfl HT_ ?_; refine pq 20 62 rfl rfl HT_ ?_; refine oq 21 63 rfl rfl HT_ (fun K hK => ?_); refine value_ (w1 := ?_) (v := ?_) (by rfl) rfl ?_ ?_
          rotate_left 2
          ·go_simp
           constructor
           ·rfl
           ·rfl
          refine hK.out _ _ ⟨(blk_cell (blk_alloc BK112.out _) 0).trans rfl, (blk_cell (blk_alloc BK112.out _) 1).trans rfl, (blk_cell (blk_alloc BK102.out _) 0).trans rfl, (blk_cell (blk_alloc BK102.out _) 1).trans rfl, (blk_cell (blk_alloc BK101.out _) 0).trans rfl, (blk_cell (blk_alloc BK101.out _) 1).trans rfl, (World.cell?_alloc_lt _ _ _ (World.block_lt_of_cell? _ _ (((HB.out.cell (World.block_lt_of_cell? w _ hw113_0)).trans hw113_0)))).trans (((HB.out.cell (World.block_lt_of_cell? w _ hw113_0)).trans hw113_0)), (World.cell?_alloc_lt _ _ _ (World.block_lt_of_cell? _ _ (((HB.out.cell (World.block_lt_of_cell? w _ hw113_1)).trans hw113_1)))).trans (((HB.out.cell (World.block_lt_of_cell? w _ hw113_1)).trans hw113_1)), (World.cell?_alloc_lt _ _ _ (World.block_lt_of_cell? _ _ (((HB.out.cell (World.block_lt_of_cell? w _ hw114_0)).trans hw114_0)))).trans (((HB.out.cell (World.block_lt_of_cell? w _ hw114_0)).trans hw114_0)), (World.cell?_alloc_lt _ _ _ (World.block_lt_of_cell? _ _ (((HB.out.cell (World.block_lt_of_cell? w _ hw114_1)).trans hw114_1)))).trans (((HB.out.cell (World.block_lt_of_cell? w _ hw114_1)).trans hw114_1))⟩ (fun hHeld => ?_); clear hK K; refine norm_ (a' := ?_) ?_ ?_
          rotate_left
          ·show Act.put _ (some 63) _ = _
           simp only [Act.put, List.setIfInBounds_toArray, List.set_cons_zero, List.set_cons_succ, i64_w, i32_w]
           rfl
          refine oq 22 64 rfl rfl HT_ (fun K hK => ?_); refine Kd.R_append_step k71 (w0 := w) w.heap.size (by rfl) (.tmp 43) (.tmp 63) 22 71 (.agg #[(.int .i64 0), (.int .i64 0)]) 16 rfl Try.underlying22 info71 rfl (by decide) (by omega) u113001 x113001_2 (⟨wrap64 (((rd_T71 l1_1 x7_2).f0) + a0_0), wrap64 (((rd_T71 l1_1 x7_2).f1) + a0_0)⟩ : S71) [.int .i64 (wrap64 (((rd_T71 l1_1 x7_2).f0) + a0_0)), .int .i64 (wrap64 (((rd_T71 l1_1 x7_2).f1) + a0_0))] (fun _ => True) (fun _ => False) rfl rfl ?aP (fun _ hk => hk.elim) ?aF ?aO ?aB ?aS ?aL ?_
          (case aP => exact k71_mkM _ _ _ (⟨wrap64 (((rd_T71 l1_1 x7_2).f0) + a0_0), wrap64 (((rd_T71 l1_1 x7_2).f1) + a0_0)⟩ : S71))
          (case aB => exact (Q1 HB))
          (case aF => exact (fun _ _ => trivial))
          (case aO => exact (by (with_reducible repeat (first | apply Kd.R_alloc | apply Kd.R_drewN | apply Kd.R_drew)); exact HO_113001.out))
          (case aS => exact (below_size (Q1 HB)))
          (case aL => have := LMc49.out; omega)
          intro v116 w55 ho hb hg hat; rw [← Ny115.out] at ho; replace BK101 := am (blk_grown (g := gb101) (o := .cells #[.int .i64 a0_0, .slice A0_1 l0_1.length c0_1] 30 (0, 0)) (Q0 BK101) hg (Kd.R_ne HO_113001.out BK101.out (by decide))); replace BK102 := am (blk_grown (g := gb102) (o := .cells #[.int .i64 a1_0, .slice (some ad113) l1_1.length c1_1] 30 (0, 0)) (Q0 BK102) hg (Kd.R_ne HO_113001.out BK102.out (by decide))); replace BK103 := am (blk_grown (g := gb103) (o := .cells #[.int .i64 0, .slice none 0 0] 30 (0, 0)) (Q0 BK103) hg (Kd.R_ne HO_113001.out BK103.out (by decide))); replace BK112 := am (blk_grown (g := gb112) (o := .cells #[.int .i64 (wrap64 (a0_0 + a1_0)), u113001] 30 (0, 0)) (Q0 BK112) hg (Kd.R_ne HO_113001.out BK112.out (by decide))); replace HB := am (hb); have HO117 := am (ho); clear HO_113001; clear ho hb hg hat; obtain ⟨Ao56, co56, eo56⟩ := Kd.R_slice HO117.out
          (first | subst eo56 | (injection eo56 with f1_ f2_ f3_; have f4_ := f1_.symm; have f5_ := f3_.symm; clear f1_ f2_ f3_; subst f4_; subst f5_))
          refine hK.out _ _ ⟨(blk_cell BK112.out 0).trans rfl, (blk_cell BK112.out 1).trans rfl, (blk_cell BK102.out 0).trans rfl, (blk_cell BK102.out 1).trans rfl, (blk_cell BK101.out 0).trans rfl, (blk_cell BK101.out 1).trans rfl, ((HB.out.cell (World.block_lt_of_cell? w _ hw113_0)).trans hw113_0), ((HB.out.cell (World.block_lt_of_cell? w _ hw113_1)).trans hw113_1), ((HB.out.cell (World.block_lt_of_cell? w _ hw114_0)).trans hw114_0), ((HB.out.cell (World.block_lt_of_cell? w _ hw114_1)).trans hw114_1)⟩ (fun hHeld => ?_); clear hK K; refine norm_ (a' := ?_) ?_ ?_
          rotate_left
          ·show Act.put _ (some 64) _ = _
           simp only [Act.put, List.setIfInBounds_toArray, List.set_cons_zero, List.set_cons_succ, i64_w, i32_w]
           rfl
          refine pq 23 65 rfl rfl HT_ ?_; refine last_ (i := 24) (N := none) #[true, true, true, true, true, true, true, true, true, true, true, true, true, true, true, true, true, true, true, true, true, true, true, true, true] rfl rfl (one_of HT_.out (by kernel_rfl)) (by decide) (fun K hK => ?_); have hs57 : w55.cell? ⟨gb112, 1, none⟩ = some (u113001) := (blk_cell BK112.out 1).trans rfl; have hfs57 := blk_frozen BK112.out 1; have hns57_0 := NB101_112.out; have hns57_1 := NB102_112.out; have hns57_2 := NB103_112.out; have hms57_0 := NB112_101.out; have hms57_1 := NB112_102.out; have hms57_2 := NB112_103.out; refine skip_ (w1 := ?_) (by rfl) rfl ?_ ?_
          rotate_left
          ·go_simp
           rfl
          refine hK.out _ _ ?_; clear hK K; refine done_ (done_of HT_.out (by kernel_rfl)) ?_
          try go_wp2
          go_roundg k2
          case measure => have := HJ6.out; have := HK2.out; omega
          case rel => exact ⟨(wrap64 (x7_2 + 1)), (y115), (.slice Ao56 y115.length co56), Q11, H', ⟨by have := HJ6.out; have := HK2.out; omega⟩, ⟨by (with_reducible repeat (first | apply Kd.R_alloc | apply Kd.R_drewN | apply Kd.R_drew)); exact Kd.R_mono (Kd.R_far (p := ⟨gb112, 1, none⟩) (Kd.R_types HO117.out BK112.out (by decide)) (fun _ hk => hk.2) (.slice Ao56 y115.length co56)) (fun _ hk => trivial)⟩, ⟨Q27 NB101_112 BK101⟩, ⟨Q27 NB102_112 BK102⟩, ⟨Q27 NB103_112 BK103⟩, ⟨by (with_reducible repeat (first | refine blk_drewN ?_ _ | refine blk_drew ?_ | refine blk_alloc ?_ _)); refine blk_put (cs := #[.int .i64 (wrap64 (a0_0 + a1_0)), u113001]) ?_ 1 _ rfl; (with_reducible repeat (first | refine blk_drewN ?_ _ | refine blk_drew ?_ | refine blk_alloc ?_ _)); exact BK112.out⟩, ⟨Q5 HB GE112⟩⟩
         ·rw [if_neg c49] at H
          exact absurd H (by simp)
        ·rw [if_neg c48] at H
         exact absurd H (by simp)
       ·rw [if_neg c47] at H
        have c47b0 := decide_eq_false c47; clear c47
        simp only [Option.some.injEq, Prod.mk.injEq] at H
        obtain ⟨rfl, rfl, rfl⟩ := H; have hnb58 := NB102_101.out; have hnc58 := NB101_102.out; have hnb59 := NB102_103.out; have hnc59 := NB103_102.out; have hnb60 := NB102_112.out; have hnc60 := NB112_102.out; have hcz61_0 : wr.cell? ⟨gb102, 0, none⟩ = some (.int .i64 a1_0) := (blk_cell BK102.out 0).trans rfl; have hcz61_1 : wr.cell? ⟨gb102, 1, none⟩ = some (.slice A1_1 l1_1.length c1_1) := (blk_cell BK102.out 1).trans rfl; have hfz61_0 := blk_frozen BK102.out 0; have hfz61_1 := blk_frozen BK102.out 1; have hnb62 := NB112_101.out; have hnc62 := NB101_112.out; have hnb63 := NB112_103.out; have hnc63 := NB103_112.out; have hcz64_0 : wr.cell? ⟨gb112, 0, none⟩ = some (.int .i64 (wrap64 (a0_0 + a1_0))) := (blk_cell BK112.out 0).trans rfl; have hcz64_1 : wr.cell? ⟨gb112, 1, none⟩ = some (u113001) := (blk_cell BK112.out 1).trans rfl; have hfz64_0 := blk_frozen BK112.out 0; have hfz64_1 := blk_frozen BK112.out 1; have hnb65 := NB103_101.out; have hnc65 := NB101_103.out; have hcz66_0 : wr.cell? ⟨gb103, 0, none⟩ = some (.int .i64 0) := (blk_cell BK103.out 0).trans rfl; have hcz66_1 : wr.cell? ⟨gb103, 1, none⟩ = some (.slice none 0 0) := (blk_cell BK103.out 1).trans rfl; have hfz66_0 := blk_frozen BK103.out 0; have hfz66_1 := blk_frozen BK103.out 1; obtain ⟨Ao67, co67, eo67⟩ := Kd.R_slice HO_113001.out; subst eo67
        go_wp2
        refine bodyPost_ret (results_ct rfl _ _ gb103 30 #[.int .i64 (wrap64 (a0_0 + a1_0)), .slice Ao67 x113001_2.length co67] (0, 0) _ rfl (Q45 BK103) Try.underlying30 rfl (by kernel_rfl)) rfl ?_; exact ⟨_, Q10, by (with_reducible repeat (first | apply Kd.R_alloc | apply Kd.R_drewN | apply Kd.R_drew)); exact Kd.R_mono (Kd.R_far (p := ⟨gb103, 1, none⟩) (Kd.R_far (p := ⟨gb103, 0, none⟩) (Kd.R_types HO_113001.out BK103.out (by decide)) (fun _ hk => hk.2) (.int .i64 (wrap64 (a0_0 + a1_0)))) (fun _ hk => hk.2) (.slice Ao67 x113001_2.length co67)) (fun _ hk => trivial), Q5 HB GE103⟩
    ·rw [if_neg c36] at H
     exact absurd H (by simp)
/-! ### spec_l2Bits: function 192 -/
def spec_l2Bits.l0 : Nat → Int → Int → List Int → Int → Option (List Int)
 | 0, _, _, _, _ => none
 | k + 1, x0, x1, x5, x6 => if x6 < x0 then (if 0 ≤ x6 then (if (Go.bits .and .i64 (shr .i64 x1 x6) 1) = 1 then (if x5.length < 17592186044416 then (spec_l2Bits.l0 k x0 x1 (x5 ++ [x6]) (wrap64 (x6 + 1))) else (none)) else (spec_l2Bits.l0 k x0 x1 x5 (wrap64 (x6 + 1)))) else (none)) else (some x5)
def spec_l2Bits.f (k : Nat) (a0 : Int) (a1 : Int) : Option (List Int) := spec_l2Bits.l0 k a0 a1 (([] : List Int)) 0
theorem spec_l2Bits.mono_l : ∀ k, (∀ y0 y1 y2 y3, LeO (spec_l2Bits.l0 k y0 y1 y2 y3) (spec_l2Bits.l0 (k + 1) y0 y1 y2 y3))
 | 0 => fun _ _ _ _ r h => by simp [spec_l2Bits.l0] at h
 | k + 1 => by
  have ih0 := spec_l2Bits.mono_l k
  all_goals
   intros
   first | unfold spec_l2Bits.l0
   repeat' first | (with_reducible first | exact ih0 _ _ _ _ | exact LeO.refl _ | exact LeO.none _ | refine LeO.ite ?_ ?_ | refine LeO.bind ?_ (fun _ => ?_))
theorem spec_l2Bits.mono : ∀ a0 a1 k, LeO (spec_l2Bits.f k a0 a1) (spec_l2Bits.f (k + 1) a0 a1) := by
 intro a0 a1 k
 have ih0 := spec_l2Bits.mono_l k
 unfold spec_l2Bits.f
 repeat' first | (with_reducible first | exact ih0 _ _ _ _ | exact LeO.refl _ | exact LeO.none _ | refine LeO.ite ?_ ?_ | refine LeO.bind ?_ (fun _ => ?_))
set_option maxHeartbeats 8000000 in
set_option maxRecDepth 100000 in
theorem spec_l2Bits.calls (k : Nat) (a0 : Int) (a1 : Int) (r : List Int) (w : World) (h : spec_l2Bits.f k a0 a1 = some r) :
  Calls Try.prog 192 #[.int .i64 a0, .int .i64 a1] w fun e w' => ∃ v0_ : Value, e = .returned (v0_) ∧ Kd.R (Kd.int .i64) 3 w' w.heap.size (fun _ => True) v0_ r ∧ Below w.heap.size w w' := by
 have HB := am (Below.refl w.heap.size w)
 have H : (spec_l2Bits.l0 k a0 a1 (([] : List Int)) 0) = some r := h
 clear h
 obtain ⟨y101, hy101⟩ : ∃ y_ : List Int, y_ = (([] : List Int)) := ⟨_, rfl⟩
 replace H : (spec_l2Bits.l0 k a0 a1 y101 0) = some r := RH hy101 H
 have Ny101 := Aside0.mk hy101
 clear hy101
 have H' := Aside0.mk H
 clear H
 go_enter Try.func192, Try.ntmps192
 go_wp2_with (first | ((with_reducible refine gate_dst (N := 7) rfl ?_); refine Kd.R_lit (Kd.int .i64) _ 3 ?hg (N := 7) ?hd (xs := ([] : List Int)) (inner := []) (ok := fun _ => True) (okp := fun _ => True) ?hr ?hp (fun _ hk => hk) trivial (Below.refl _ _) (Nat.le_refl _) (by simp) ?_; (case hd => rfl); (case hg => rfl); (case hr => first | (go_simp; done) | (go_simp; rfl)); (case hp => exact (Reps.none _ _)); intro v102 w3 ho4 hb hg_ hnew_; clear hg_ hnew_; (first | rw [← Ny101.out] at ho4 | (simp only [Int.reduceToNat] at ho4; rw [← Ny101.out] at ho4)); have HO103 := am (Kd.R_lower ho4 (below_size (Q1 HB))); replace HB := am (below_step (Q1 HB) hb); clear hb ho4))
 go_loopg [5, 6] k (fun kq v5 v6 w' => ∃ (x5_1 : List Int) (x6_1 : Int), v6 = .int .i64 x6_1 ∧ Aside0 (spec_l2Bits.l0 kq a0 a1 x5_1 x6_1 = some r) ∧ Aside0 (kq ≤ k) ∧ Aside0 (Kd.R (Kd.int .i64) 3 w' w.heap.size (fun _ => True) v5 x5_1) ∧ Aside0 (Below w.heap.size w w'))
 case atStart => exact ⟨(y101), (0), Q11, H', ⟨Nat.le_refl _⟩, ⟨Q6 HO103⟩, ⟨Q1 HB⟩⟩
 case round =>
  clear H'
  try clear c1
  try clear p2
  obtain ⟨x5_1, x6_1, rfl, HA, HK1, HO_5, HB⟩ := hrel
  cases gk with
  | zero => exact absurd HA.out (by simp [spec_l2Bits.l0])
  | succ k1 =>
   have H := HA.out; clear HA
   simp only [spec_l2Bits.l0] at H
   by_cases c5 : x6_1 < a0
   ·rw [if_pos c5] at H
    have c5b0 := decide_eq_true c5; clear c5
    by_cases c6 : 0 ≤ x6_1
    ·rw [if_pos c6] at H
     have c6b0 := eq_true c6; have c6b1 := decide_eq_true c6; clear c6; obtain ⟨ji7, hji7⟩ : ∃ j_ : Int, (shr .i64 a1 x6_1) = j_ := ⟨_, rfl⟩; replace H : (if (Go.bits .and .i64 (ji7) 1) = 1 then (if x5_1.length < 17592186044416 then (spec_l2Bits.l0 k1 a0 a1 (x5_1 ++ [x6_1]) (wrap64 (x6_1 + 1))) else (none)) else (spec_l2Bits.l0 k1 a0 a1 x5_1 (wrap64 (x6_1 + 1)))) = some r := by first | (rw [hji7] at H; exact H) | (simp only [hji7] at H ⊢; exact H)
     have hji7_ : (a1 / 2 ^ min x6_1.toNat 64) = ji7 := hji7; have hji7z : x6_1 ≤ 64 → (a1 / 2 ^ x6_1.toNat) = ji7 := shr_small hji7
     by_cases c8 : (Go.bits .and .i64 (ji7) 1) = 1
     ·rw [if_pos c8] at H
      have c8b0 := beq_iff_eq.mpr c8; have c8b1 := bne_eq_false_iff_eq.mpr c8; clear c8
      by_cases c9 : x5_1.length < 17592186044416
      ·rw [if_pos c9] at H
       have LMc9 := Aside0.mk c9; clear c9; obtain ⟨y104, hy104⟩ : ∃ y_ : List Int, y_ = (x5_1 ++ [x6_1]) := ⟨_, rfl⟩; replace H : (spec_l2Bits.l0 k1 a0 a1 y104 (wrap64 (x6_1 + 1))) = some r := RH hy104 H; have Ny104 := Aside0.mk hy104; clear hy104; have H' := Aside0.mk H; clear H
       go_wp2_with (first | ((with_reducible refine gate_builtin (b := .append) (xs := #[.tmp 18, .tmp 20]) rfl ?_); at_builtin; refine Kd.R_append (Kd.int .i64) (w0 := w) w.heap.size rfl (.tmp 18) (.tmp 20) 25 3 (.int .i64 0) 8 rfl Try.underlying25 info3 rfl (by decide) (by omega) u5 x5_1 x6_1 [.int .i64 x6_1] (fun _ => True) (fun _ => False) rfl rfl ?aP (fun _ hk => hk.elim) ?aF ?aO ?aB ?aS ?aL ?_; (case aP => exact rfl); (case aB => exact (Q1 HB)); (case aF => exact (fun _ _ => trivial)); (case aO => exact Q55); (case aS => exact (below_size (Q1 HB))); (case aL => have := LMc9.out; omega); intro v105 w10 ho hb hg hat; rw [← Ny104.out] at ho; replace HB := am (hb); have HO106 := am (ho); clear HO_5; clear ho hb hg hat))
       go_roundg k1
       case measure => have := HK1.out; omega
       case rel => exact ⟨(y104), (wrap64 (x6_1 + 1)), Q11, H', ⟨Q95⟩, ⟨Q6 HO106⟩, ⟨Q1 HB⟩⟩
      ·rw [if_neg c9] at H
       exact absurd H (by simp)
     ·rw [if_neg c8] at H
      have c8b0 := beq_eq_false_iff_ne.mpr c8; have c8b1 := bne_iff_ne.mpr c8; have H' := Aside0.mk H; clear H
      go_wp2
      go_roundg k1
      case measure => have := HK1.out; omega
      case rel => exact ⟨(x5_1), (wrap64 (x6_1 + 1)), Q11, H', ⟨Q95⟩, ⟨Q55⟩, ⟨Q1 HB⟩⟩
    ·rw [if_neg c6] at H
     exact absurd H (by simp)
   ·rw [if_neg c5] at H
    have c5b0 := decide_eq_false c5; clear c5; obtain rfl := Option.some.inj H
    go_wp2
    go_ret
    exact ⟨_, Q10, Q55, Q1 HB⟩
/-! ### spec_l2All: function 128 -/
def spec_l2All.f (k : Nat) (a0_0 : Int) (l0_1 : List (S71)) : Option (List Int) := if 0 ≤ a0_0 then ((spec_l2Bits.f k a0_0 (wrap64 ((shl .i64 1 a0_0) - 1))).bind fun t102 => (some t102)) else (none)
theorem spec_l2All.mono : ∀ a0 a1 k, LeO (spec_l2All.f k a0 a1) (spec_l2All.f (k + 1) a0 a1) := by
 intro a0 a1 k
 unfold spec_l2All.f
 repeat' first | (with_reducible first | exact spec_l2Bits.mono _ _ _ | exact LeO.refl _ | exact LeO.none _ | refine LeO.ite ?_ ?_ | refine LeO.bind ?_ (fun _ => ?_))
def spec_l2All.T1 : Bool × List (List Nat × List Nat) := (true, [([], []), ([0], [0]), ([], []), ([2], [2]), ([3], [3]), ([4], [4]), ([1, 5], [1, 5]), ([6, 6, 0, 1, 2, 3, 4, 5, 6], [6])])
def spec_l2All.B1 : List Nat := [0, 1, 0, 4, 12, 28, 63, 127]
theorem spec_l2All.tab1 : rtab .any (opsOf Try.f128 1) = spec_l2All.T1 := by kernel_rfl
theorem spec_l2All.bits1 : waitsOk spec_l2All.T1.2 spec_l2All.B1 = true := by kernel_rfl
set_option maxHeartbeats 8000000 in
set_option maxRecDepth 100000 in
theorem spec_l2All.calls (k : Nat) (a0_0 : Int) (A0_1 : Option Addr) (c0_1 : Nat) (l0_1 : List (S71)) (r : List Int) (w : World) (hr0_1 : Kd.C k71 w A0_1 l0_1.length l0_1) (hc0_1 : l0_1.length ≤ c0_1) (h : spec_l2All.f k a0_0 l0_1 = some r) :
  Calls Try.prog 128 #[.agg #[.int .i64 a0_0, .slice A0_1 l0_1.length c0_1]] w fun e w' => ∃ v0_ : Value, e = .returned (v0_) ∧ Kd.R (Kd.int .i64) 3 w' w.heap.size (fun _ => True) v0_ r ∧ Below w.heap.size w w' := by
 have hu30 := Try.underlying30
 have HR0_1 := Aside0.mk hr0_1
 have HC0_1 := Aside0.mk hc0_1
 clear hr0_1 hc0_1
 have HB := am (Below.refl w.heap.size w)
 have H : (if 0 ≤ a0_0 then ((spec_l2Bits.f k a0_0 (wrap64 ((shl .i64 1 a0_0) - 1))).bind fun t102 => (some t102)) else (none)) = some r := h
 clear h
 by_cases c2 : 0 ≤ a0_0
 ·rw [if_pos c2] at H
  have c2b0 := eq_true c2; have c2b1 := decide_eq_true c2; clear c2; obtain ⟨ji3, hji3⟩ : ∃ j_ : Int, (shl .i64 1 a0_0) = j_ := ⟨_, rfl⟩; replace H : ((spec_l2Bits.f k a0_0 (wrap64 ((ji3) - 1))).bind fun t102 => (some t102)) = some r := by first | (rw [hji3] at H; exact H) | (simp only [hji3] at H ⊢; exact H)
  have hji3_ : (IntKind.i64.wrap (1 * 2 ^ min a0_0.toNat 64)) = ji3 := hji3; have hji3z : a0_0 ≤ 64 → (IntKind.i64.wrap (1 * 2 ^ a0_0.toNat)) = ji3 := shl_small hji3; have hji3u : (IntKind.i64.wrap (2 ^ min a0_0.toNat 64)) = ji3 := by have h_ := hji3_; rw [Int.one_mul] at h_; exact h_
  have hji3v : a0_0 ≤ 64 → (IntKind.i64.wrap (2 ^ a0_0.toNat)) = ji3 := fun hle_ => by have h_ := hji3z hle_; rw [Int.one_mul] at h_; exact h_
  have hji3y : (wrap64 (1 * 2 ^ min a0_0.toNat 64)) = ji3 := (i64_w _).symm.trans hji3_; have hji3x : a0_0 ≤ 64 → (wrap64 (1 * 2 ^ a0_0.toNat)) = ji3 := fun h_ => (i64_w _).symm.trans (hji3z h_)
  replace H := (ob H); obtain ⟨t102, A40, H⟩ := H; (try dsimp only at H); have A4 := Aside0.mk A40; clear A40; obtain rfl := Option.some.inj H
  go_enter Try.func128, Try.ntmps128
  try go_wp2_with (first | ((with_reducible refine gate_dst (N := 1) rfl ?_); refine box_event ?hg (N := 1) ?hd (cs := #[.int .i64 a0_0, .slice A0_1 l0_1.length c0_1]) (t := 30) ?hr ?_; (case hd => rfl); (case hg => rfl); (case hr => first | (go_simp; done) | (go_simp; rfl)); intro gb101 hg w5 hbox hb; have BK101 := am (hbox); have GW101 := am ((Q25 : w.heap.size ≤ gb101)); have GE101 := am ((Q25 : w.heap.size ≤ gb101)); replace HB := am (below_step (Q1 HB) hb); clear hb hbox hg))
  replace BK101 := am (blk_drew BK101.out); replace HB := am (below_drew1 HB.out); refine start_ (n := 8) (S := fun w' => w'.cell? ⟨gb101, 0, none⟩ = some (.int .i64 a0_0) ∧ w'.cell? ⟨gb101, 1, none⟩ = some (.slice A0_1 l0_1.length c0_1)) (ds := []) #[false, false, false, false, false, false, false, false] (by kernel_rfl) rfl rfl ⟨(blk_cell BK101.out 0).trans rfl, (blk_cell BK101.out 1).trans rfl⟩ (fun hHeld => ?_); refine with_tabW spec_l2All.tab1 spec_l2All.bits1 (fun HT_ HW_ => ?_); generalize w5.drew = w6 at BK101 HB hHeld ⊢; refine pq 0 3 rfl rfl HT_ ?_; refine pq 2 5 rfl rfl HT_ ?_; refine tq2 1 4 rfl rfl HT_ HW_ hHeld ?_; refine tq2 3 6 rfl rfl HT_ HW_ hHeld ?_; refine pq 4 7 rfl rfl HT_ ?_; refine pq 5 8 rfl rfl HT_ ?_; refine oq 6 9 rfl rfl HT_ (fun K hK => ?_); refine goes_ Try.func192 (by kernel_rfl) rfl #[.int .i64 a0_0, .int .i64 (wrap64 ((ji3) - 1))] (by rfl) rfl rfl (by (try simp only [List.map_toArray, List.map_cons, List.map_nil]); first | done | (simp only [hji3]; rfl) | rfl | (simp only [List.length_drop, List.length_take]; rfl)) ?_
  with_reducible refine (spec_l2Bits.calls k a0_0 (wrap64 ((ji3) - 1)) t102 _ A4.out).mono ?_
  rintro e w7 ⟨v103, rfl, ho0, hb⟩; refine ⟨_, rfl, ?_⟩; have HO104 := am (Kd.R_lower ho0 (below_size (Q1 HB))); replace BK101 := am (blk_below (g := gb101) (o := .cells #[.int .i64 a0_0, .slice A0_1 l0_1.length c0_1] 30 (0, 0)) (Q0 BK101) hb); replace HB := am (below_step (Q1 HB) hb); (try clear hb); (try clear hb2); (try clear hk); (try clear hi); (try clear ho0); refine hK.out _ _ ⟨(blk_cell BK101.out 0).trans rfl, (blk_cell BK101.out 1).trans rfl⟩ (fun hHeld => ?_); clear hK K; refine norm_ (a' := ?_) ?_ ?_
  rotate_left
  ·show Act.put _ (some 9) _ = _
   simp only [Act.put, List.setIfInBounds_toArray, List.set_cons_zero, List.set_cons_succ, i64_w, i32_w]
   rfl
  refine pq 7 2 rfl rfl HT_ ?_; refine done_ (done_of HT_.out (by kernel_rfl)) ?_
  try go_wp2
  go_ret
  exact ⟨_, Q170, Q6 HO104, Q1 HB⟩
 ·rw [if_neg c2] at H
  exact absurd H (by simp)
end Go.Proofs.Ytcjddikalgnhpaa.P
