/- Functions of the program as Lean functions, that each call comes to what they say, and what holds of them; part 4 of 14; no conditions beyond those that each theorem names. -/
import Derived.Test.YtcjddikalgnhpaaK1
import Derived.Test.YtcjddikalgnhpaaK2
import Derived.Test.YtcjddikalgnhpaaK3
namespace Go.Proofs.Ytcjddikalgnhpaa.P
open Go.RowKit Go.Proofs.YtcjddikalgnhpaaW.PrintWords Go.Proofs.YtcjddikalgnhpaaW.PrintLast Go.Proofs.YtcjddikalgnhpaaW.PrintMore
attribute [local go_sem] max2_int min2_int max_two min_two max_three min_three max_four min_four   -- for this text's walks alone
set_option linter.unusedVariables false
set_option linter.unusedSimpArgs false
/-! ### impl_PutBeside: function 32 -/
mutual
def impl_PutBeside.j0 : Nat → Bool → Int → List (S71) → Int → List (S71) → Option (Int × (List (S71)) × Bool)
 | 0, _, _, _, _, _ => none
 | k + 1, x24, x102000, x102001, x103000, x103001 => if x24 = true then (some (0, ([] : List (S71)), false)) else ((slices_Clone_2_int_2_int.f x102001).bind fun t106 => (impl_PutBeside.l0 k x103001 (x103001.length : Int) 0 x102000 x102001 (wrap64 (x102000 + x103000)) t106))
def impl_PutBeside.l0 : Nat → List (S71) → Int → Int → Int → List (S71) → Int → List (S71) → Option (Int × (List (S71)) × Bool)
 | 0, _, _, _, _, _, _, _ => none
 | k + 1, x36, x37, x38, x102000, x102001, x110000, x110001 => if x38 < x37 then (if 0 ≤ x38 then (if x38 < (x36.length : Int) then (if x110001.length < 8796093022208 then (impl_PutBeside.l0 k x36 x37 (wrap64 (x38 + 1)) x102000 x102001 x110000 (x110001 ++ [(⟨wrap64 (((rd_T71 x36 x38).f0) + x102000), wrap64 (((rd_T71 x36 x38).f1) + x102000)⟩ : S71)])) else (none)) else (none)) else (none)) else (some (x110000, x110001, true))
end
def impl_PutBeside.f (k : Nat) (a0_0 : Int) (l0_1 : List (S71)) (a1_0 : Int) (l1_1 : List (S71)) : Option (Int × (List (S71)) × Bool) := (impl_IsGraph.f k a0_0 l0_1).bind fun t104 => (if t104 = true then ((impl_IsGraph.f k a1_0 l1_1).bind fun t105 => (if t105 = true then (impl_PutBeside.j0 k (decide ((wrap64 (a0_0 + a1_0)) > 8)) a0_0 l0_1 a1_0 l1_1) else (impl_PutBeside.j0 k true a0_0 l0_1 a1_0 l1_1))) else (impl_PutBeside.j0 k true a0_0 l0_1 a1_0 l1_1))
theorem impl_PutBeside.mono_l : ∀ k, (∀ y0 y1 y2 y3 y4, LeO (impl_PutBeside.j0 k y0 y1 y2 y3 y4) (impl_PutBeside.j0 (k + 1) y0 y1 y2 y3 y4)) ∧ (∀ y0 y1 y2 y3 y4 y5 y6, LeO (impl_PutBeside.l0 k y0 y1 y2 y3 y4 y5 y6) (impl_PutBeside.l0 (k + 1) y0 y1 y2 y3 y4 y5 y6))
 | 0 => ⟨fun _ _ _ _ _ r h => by simp [impl_PutBeside.j0] at h, fun _ _ _ _ _ _ _ r h => by simp [impl_PutBeside.l0] at h⟩
 | k + 1 => by
  obtain ⟨ih0, ih1⟩ := impl_PutBeside.mono_l k; refine ⟨?_, ?_⟩
  all_goals
   intros
   first | unfold impl_PutBeside.j0 | unfold impl_PutBeside.l0
   repeat' first | (with_reducible first | exact ih0 _ _ _ _ _ | exact ih1 _ _ _ _ _ _ _ | exact impl_IsGraph.mono _ _ _ | exact LeO.refl _ | exact LeO.none _ | refine LeO.ite ?_ ?_ | refine LeO.bind ?_ (fun _ => ?_))
theorem impl_PutBeside.mono : ∀ a0 a1 a2 a3 k, LeO (impl_PutBeside.f k a0 a1 a2 a3) (impl_PutBeside.f (k + 1) a0 a1 a2 a3) := by
 intro a0 a1 a2 a3 k
 obtain ⟨ih0, ih1⟩ := impl_PutBeside.mono_l k
 unfold impl_PutBeside.f
 repeat' first | (with_reducible first | exact ih0 _ _ _ _ _ | exact ih1 _ _ _ _ _ _ _ | exact impl_IsGraph.mono _ _ _ | exact LeO.refl _ | exact LeO.none _ | refine LeO.ite ?_ ?_ | refine LeO.bind ?_ (fun _ => ?_))
def impl_PutBeside.T3 : Bool × List (List Nat × List Nat) := (true, [([], []), ([0], [0]), ([], []), ([2], [2]), ([1, 3], [1, 3]), ([], []), ([5], [5]), ([6], [6]), ([4, 7], [4, 7]), ([], []), ([9, 8, 7, 0, 1, 2, 3, 4, 5, 6, 7, 8, 9], [8, 9])])
def impl_PutBeside.B3 : List Nat := [0, 1, 0, 4, 15, 0, 32, 96, 255, 0, 1023]
theorem impl_PutBeside.tab3 : rtab .any (opsOf Try.f32 3) = impl_PutBeside.T3 := by kernel_rfl
theorem impl_PutBeside.bits3 : waitsOk impl_PutBeside.T3.2 impl_PutBeside.B3 = true := by kernel_rfl
set_option maxHeartbeats 8000000 in
set_option maxRecDepth 100000 in
theorem impl_PutBeside.calls (k : Nat) (a0_0 : Int) (A0_1 : Option Addr) (c0_1 : Nat) (l0_1 : List (S71)) (a1_0 : Int) (A1_1 : Option Addr) (c1_1 : Nat) (l1_1 : List (S71)) (r1 : Int) (r2 : List (S71)) (r3 : Bool) (w : World) (hr0_1 : Kd.C k71 w A0_1 l0_1.length l0_1) (hc0_1 : l0_1.length ≤ c0_1) (hr1_1 : Kd.C k71 w A1_1 l1_1.length l1_1) (hc1_1 : l1_1.length ≤ c1_1) (h : impl_PutBeside.f k a0_0 l0_1 a1_0 l1_1 = some (r1, r2, r3)) :
  Calls Try.prog 32 #[.agg #[.int .i64 a0_0, .slice A0_1 l0_1.length c0_1], .agg #[.int .i64 a1_0, .slice A1_1 l1_1.length c1_1]] w fun e w' => ∃ v1_ : Value, e = .returned (.tuple #[.agg #[.int .i64 r1, v1_], .bool r3]) ∧ Kd.R k71 71 w' w.heap.size (fun _ => True) v1_ r2 ∧ Below w.heap.size w w' := by
 have hu30 := Try.underlying30
 have hu71 := Try.underlying71
 have HR0_1 := Aside0.mk hr0_1
 have HC0_1 := Aside0.mk hc0_1
 clear hr0_1 hc0_1
 have HR1_1 := Aside0.mk hr1_1
 have HC1_1 := Aside0.mk hc1_1
 clear hr1_1 hc1_1
 have HB := am (Below.refl w.heap.size w)
 have H : ((impl_IsGraph.f k a0_0 l0_1).bind fun t104 => (if t104 = true then ((impl_IsGraph.f k a1_0 l1_1).bind fun t105 => (if t105 = true then (impl_PutBeside.j0 k (decide ((wrap64 (a0_0 + a1_0)) > 8)) a0_0 l0_1 a1_0 l1_1) else (impl_PutBeside.j0 k true a0_0 l0_1 a1_0 l1_1))) else (impl_PutBeside.j0 k true a0_0 l0_1 a1_0 l1_1))) = some (r1, r2, r3) := h
 clear h
 have HU3 := Aside0.mk H
 clear H
 go_enter Try.func32, Try.ntmps32
 go_upto_region 1 with (first | ((with_reducible refine gate_dst (N := 2) rfl ?_); refine box_event ?hg (N := 2) ?hd (cs := #[.int .i64 a0_0, .slice A0_1 l0_1.length c0_1]) (t := 30) ?hr ?_; (case hd => rfl); (case hg => rfl); (case hr => first | (go_simp; done) | (go_simp; rfl)); intro gb101 hg w4 hbox hb; have BK101 := am (hbox); have GW101 := am ((Q25 : w.heap.size ≤ gb101)); have GE101 := am ((Q25 : w.heap.size ≤ gb101)); replace HB := am (below_step (Q1 HB) hb); clear hb hbox hg) | ((with_reducible refine gate_dst (N := 3) rfl ?_); refine box_event ?hg (N := 3) ?hd (cs := #[.int .i64 a1_0, .slice A1_1 l1_1.length c1_1]) (t := 30) ?hr ?_; (case hd => rfl); (case hg => rfl); (case hr => first | (go_simp; done) | (go_simp; rfl)); intro gb102 hg w5 hbox hb; have BK102 := am (hbox); have GW102 := am ((Q25 : w.heap.size ≤ gb102)); have GE102 := am ((Q25 : w.heap.size ≤ gb102)); replace HB := am (below_step (Q1 HB) hb); have NB101_102 := am ((Q28 : gb101 ≠ gb102)); have NB102_101 := am ((Q29 : gb102 ≠ gb101)); replace BK101 := am (blk_below (g := gb101) (o := .cells #[.int .i64 a0_0, .slice A0_1 l0_1.length c0_1] 30 (0, 0)) (Q0 BK101) hb); clear hb hbox hg) | ((with_reducible refine gate_dst (N := 4) rfl ?_); refine box_event ?hg (N := 4) ?hd (cs := #[.int .i64 0, .slice none 0 0]) (t := 30) ?hr ?_; (case hd => rfl); (case hg => rfl); (case hr => first | (go_simp; done) | (go_simp; rfl)); intro gb103 hg w6 hbox hb; have BK103 := am (hbox); have GW103 := am ((Q25 : w.heap.size ≤ gb103)); have GE103 := am ((Q25 : w.heap.size ≤ gb103)); replace HB := am (below_step (Q1 HB) hb); have NB101_103 := am ((Q28 : gb101 ≠ gb103)); have NB103_101 := am ((Q29 : gb103 ≠ gb101)); replace BK101 := am (blk_below (g := gb101) (o := .cells #[.int .i64 a0_0, .slice A0_1 l0_1.length c0_1] 30 (0, 0)) (Q0 BK101) hb); have NB102_103 := am ((Q63 : gb102 ≠ gb103)); have NB103_102 := am ((Q64 : gb103 ≠ gb102)); replace BK102 := am (blk_below (g := gb102) (o := .cells #[.int .i64 a1_0, .slice A1_1 l1_1.length c1_1] 30 (0, 0)) (Q0 BK102) hb); clear hb hbox hg))
 (try simp only [Act.put, List.setIfInBounds_toArray, List.set_cons_zero, List.set_cons_succ])
 have H := HU3.out
 clear HU3
 have HC7 := Aside0.mk H
 clear H
 go_upto_region 1 with (fail)
 go_cut [24] (fun v24 wc => ∃ (kq : Nat) (x24_6 : Bool), v24 = .bool x24_6 ∧ Aside0 (impl_PutBeside.j0 kq x24_6 a0_0 l0_1 a1_0 l1_1 = some (r1, r2, r3)) ∧ Aside0 (kq ≤ k) ∧ Aside0 (wc.heap[gb101]? = some (.cells #[.int .i64 a0_0, (.slice A0_1 l0_1.length c0_1)] 30 (0, 0))) ∧ Aside0 (wc.heap[gb102]? = some (.cells #[.int .i64 a1_0, (.slice A1_1 l1_1.length c1_1)] 30 (0, 0))) ∧ Aside0 (wc.heap[gb103]? = some (.cells #[.int .i64 0, (.slice none 0 0)] 30 (0, 0))) ∧ Aside0 (Below w.heap.size w wc))
 case first =>
  have H := HC7.out; clear HC7; replace H := (ob H); obtain ⟨t104, A80, H⟩ := H; (try dsimp only at H); have A8 := Aside0.mk A80; clear A80
  by_cases c9 : t104 = true
  ·subst c9
   have H1 : ((impl_IsGraph.f k a1_0 l1_1).bind fun t105 => (if t105 = true then (impl_PutBeside.j0 k (decide ((wrap64 (a0_0 + a1_0)) > 8)) a0_0 l0_1 a1_0 l1_1) else (impl_PutBeside.j0 k true a0_0 l0_1 a1_0 l1_1))) = some (r1, r2, r3) := by rw [if_pos rfl] at H; exact H
   clear H; have H := H1; clear H1; replace H := (ob H); obtain ⟨t105, A100, H⟩ := H; (try dsimp only at H); have A10 := Aside0.mk A100; clear A100
   by_cases c11 : t105 = true
   ·subst c11
    have H1 : (impl_PutBeside.j0 k (decide ((wrap64 (a0_0 + a1_0)) > 8)) a0_0 l0_1 a1_0 l1_1) = some (r1, r2, r3) := by rw [if_pos rfl] at H; exact H
    clear H; have H := H1; clear H1; have H' := Aside0.mk H; clear H; have hnb12 := NB101_102.out; have hnc12 := NB102_101.out; have hnb13 := NB101_103.out; have hnc13 := NB103_101.out; have hcz14_0 : w6.cell? ⟨gb101, 0, none⟩ = some (.int .i64 a0_0) := (blk_cell BK101.out 0).trans rfl; have hcz14_1 : w6.cell? ⟨gb101, 1, none⟩ = some (.slice A0_1 l0_1.length c0_1) := (blk_cell BK101.out 1).trans rfl; have hfz14_0 := blk_frozen BK101.out 0; have hfz14_1 := blk_frozen BK101.out 1
    go_wp2_with (first | ((with_reducible refine gate_callee (f := 71) rfl ?_); refine goesL_ (some 10) rfl rfl Try.func71 (by kernel_rfl) rfl #[.agg #[.int .i64 a0_0, .slice A0_1 l0_1.length c0_1]] rfl Q3 ?_; (with_reducible refine (impl_IsGraph.calls k a0_0 _ _ l0_1 true _ ?side1 ?side2 A8.out).mono ?_); (case side1 => exact (Q9 HR0_1 HB)); (case side2 => exact HC0_1.out); rintro e w15 ⟨rfl, hb⟩; refine ⟨_, rfl, ?_⟩; replace BK101 := am (blk_below (g := gb101) (o := .cells #[.int .i64 a0_0, .slice A0_1 l0_1.length c0_1] 30 (0, 0)) (Q0 BK101) hb); replace BK102 := am (blk_below (g := gb102) (o := .cells #[.int .i64 a1_0, .slice A1_1 l1_1.length c1_1] 30 (0, 0)) (Q0 BK102) hb); replace BK103 := am (blk_below (g := gb103) (o := .cells #[.int .i64 0, .slice none 0 0] 30 (0, 0)) (Q0 BK103) hb); replace HB := am (below_step (Q1 HB) hb); (try clear hb); (try clear hb2); (try clear hk); (try clear hi); have hnb16 := NB102_103.out; have hnc16 := NB103_102.out; have hcz17_0 : w15.cell? ⟨gb102, 0, none⟩ = some (.int .i64 a1_0) := (blk_cell BK102.out 0).trans rfl; have hcz17_1 : w15.cell? ⟨gb102, 1, none⟩ = some (.slice A1_1 l1_1.length c1_1) := (blk_cell BK102.out 1).trans rfl; have hfz17_0 := blk_frozen BK102.out 0; have hfz17_1 := blk_frozen BK102.out 1) | (go_at_call 71; (with_reducible refine (impl_IsGraph.calls k a1_0 _ _ l1_1 true _ ?side1 ?side2 A10.out).mono ?_); (case side1 => exact (Q9 HR1_1 HB)); (case side2 => exact HC1_1.out); rintro e w18 ⟨rfl, hb⟩; replace BK101 := am (blk_below (g := gb101) (o := .cells #[.int .i64 a0_0, .slice A0_1 l0_1.length c0_1] 30 (0, 0)) (Q0 BK101) hb); replace BK102 := am (blk_below (g := gb102) (o := .cells #[.int .i64 a1_0, .slice A1_1 l1_1.length c1_1] 30 (0, 0)) (Q0 BK102) hb); replace BK103 := am (blk_below (g := gb103) (o := .cells #[.int .i64 0, .slice none 0 0] 30 (0, 0)) (Q0 BK103) hb); replace HB := am (below_step (Q1 HB) hb); (try clear hb); (try clear hb2); (try clear hk); (try clear hi); have hcz19_0 : w18.cell? ⟨gb101, 0, none⟩ = some (.int .i64 a0_0) := (blk_cell BK101.out 0).trans rfl; have hcz19_1 : w18.cell? ⟨gb101, 1, none⟩ = some (.slice A0_1 l0_1.length c0_1) := (blk_cell BK101.out 1).trans rfl; have hfz19_0 := blk_frozen BK101.out 0; have hfz19_1 := blk_frozen BK101.out 1; have hcz20_0 : w18.cell? ⟨gb102, 0, none⟩ = some (.int .i64 a1_0) := (blk_cell BK102.out 0).trans rfl; have hcz20_1 : w18.cell? ⟨gb102, 1, none⟩ = some (.slice A1_1 l1_1.length c1_1) := (blk_cell BK102.out 1).trans rfl; have hfz20_0 := blk_frozen BK102.out 0; have hfz20_1 := blk_frozen BK102.out 1))
    go_meet
    case rel => exact ⟨_, (decide ((wrap64 (a0_0 + a1_0)) > 8)), Q11, H', ⟨Q94⟩, ⟨Q0 BK101⟩, ⟨Q0 BK102⟩, ⟨Q0 BK103⟩, ⟨Q1 HB⟩⟩
   ·replace c11 := Bool.eq_false_iff.mpr c11
    subst c11; have H1 : (impl_PutBeside.j0 k true a0_0 l0_1 a1_0 l1_1) = some (r1, r2, r3) := by rw [if_neg (show ¬ (false = true) by decide)] at H; exact H
    clear H; have H := H1; clear H1; have H' := Aside0.mk H; clear H; have hnb21 := NB101_102.out; have hnc21 := NB102_101.out; have hnb22 := NB101_103.out; have hnc22 := NB103_101.out; have hcz23_0 : w6.cell? ⟨gb101, 0, none⟩ = some (.int .i64 a0_0) := (blk_cell BK101.out 0).trans rfl; have hcz23_1 : w6.cell? ⟨gb101, 1, none⟩ = some (.slice A0_1 l0_1.length c0_1) := (blk_cell BK101.out 1).trans rfl; have hfz23_0 := blk_frozen BK101.out 0; have hfz23_1 := blk_frozen BK101.out 1
    go_wp2_with (first | ((with_reducible refine gate_callee (f := 71) rfl ?_); refine goesL_ (some 10) rfl rfl Try.func71 (by kernel_rfl) rfl #[.agg #[.int .i64 a0_0, .slice A0_1 l0_1.length c0_1]] rfl Q3 ?_; (with_reducible refine (impl_IsGraph.calls k a0_0 _ _ l0_1 true _ ?side1 ?side2 A8.out).mono ?_); (case side1 => exact (Q9 HR0_1 HB)); (case side2 => exact HC0_1.out); rintro e w24 ⟨rfl, hb⟩; refine ⟨_, rfl, ?_⟩; replace BK101 := am (blk_below (g := gb101) (o := .cells #[.int .i64 a0_0, .slice A0_1 l0_1.length c0_1] 30 (0, 0)) (Q0 BK101) hb); replace BK102 := am (blk_below (g := gb102) (o := .cells #[.int .i64 a1_0, .slice A1_1 l1_1.length c1_1] 30 (0, 0)) (Q0 BK102) hb); replace BK103 := am (blk_below (g := gb103) (o := .cells #[.int .i64 0, .slice none 0 0] 30 (0, 0)) (Q0 BK103) hb); replace HB := am (below_step (Q1 HB) hb); (try clear hb); (try clear hb2); (try clear hk); (try clear hi); have hnb25 := NB102_103.out; have hnc25 := NB103_102.out; have hcz26_0 : w24.cell? ⟨gb102, 0, none⟩ = some (.int .i64 a1_0) := (blk_cell BK102.out 0).trans rfl; have hcz26_1 : w24.cell? ⟨gb102, 1, none⟩ = some (.slice A1_1 l1_1.length c1_1) := (blk_cell BK102.out 1).trans rfl; have hfz26_0 := blk_frozen BK102.out 0; have hfz26_1 := blk_frozen BK102.out 1) | (go_at_call 71; (with_reducible refine (impl_IsGraph.calls k a1_0 _ _ l1_1 false _ ?side1 ?side2 A10.out).mono ?_); (case side1 => exact (Q9 HR1_1 HB)); (case side2 => exact HC1_1.out); rintro e w27 ⟨rfl, hb⟩; replace BK101 := am (blk_below (g := gb101) (o := .cells #[.int .i64 a0_0, .slice A0_1 l0_1.length c0_1] 30 (0, 0)) (Q0 BK101) hb); replace BK102 := am (blk_below (g := gb102) (o := .cells #[.int .i64 a1_0, .slice A1_1 l1_1.length c1_1] 30 (0, 0)) (Q0 BK102) hb); replace BK103 := am (blk_below (g := gb103) (o := .cells #[.int .i64 0, .slice none 0 0] 30 (0, 0)) (Q0 BK103) hb); replace HB := am (below_step (Q1 HB) hb); (try clear hb); (try clear hb2); (try clear hk); (try clear hi)))
    go_meet
    case rel => exact ⟨_, (true), Q11, H', ⟨Q94⟩, ⟨Q0 BK101⟩, ⟨Q0 BK102⟩, ⟨Q0 BK103⟩, ⟨Q1 HB⟩⟩
  ·replace c9 := Bool.eq_false_iff.mpr c9
   subst c9; have H1 : (impl_PutBeside.j0 k true a0_0 l0_1 a1_0 l1_1) = some (r1, r2, r3) := by rw [if_neg (show ¬ (false = true) by decide)] at H; exact H
   clear H; have H := H1; clear H1; have H' := Aside0.mk H; clear H; have hnb28 := NB101_102.out; have hnc28 := NB102_101.out; have hnb29 := NB101_103.out; have hnc29 := NB103_101.out; have hcz30_0 : w6.cell? ⟨gb101, 0, none⟩ = some (.int .i64 a0_0) := (blk_cell BK101.out 0).trans rfl; have hcz30_1 : w6.cell? ⟨gb101, 1, none⟩ = some (.slice A0_1 l0_1.length c0_1) := (blk_cell BK101.out 1).trans rfl; have hfz30_0 := blk_frozen BK101.out 0; have hfz30_1 := blk_frozen BK101.out 1
   go_wp2_with (first | ((with_reducible refine gate_callee (f := 71) rfl ?_); refine goesL_ (some 10) rfl rfl Try.func71 (by kernel_rfl) rfl #[.agg #[.int .i64 a0_0, .slice A0_1 l0_1.length c0_1]] rfl Q3 ?_; (with_reducible refine (impl_IsGraph.calls k a0_0 _ _ l0_1 false _ ?side1 ?side2 A8.out).mono ?_); (case side1 => exact (Q9 HR0_1 HB)); (case side2 => exact HC0_1.out); rintro e w31 ⟨rfl, hb⟩; refine ⟨_, rfl, ?_⟩; replace BK101 := am (blk_below (g := gb101) (o := .cells #[.int .i64 a0_0, .slice A0_1 l0_1.length c0_1] 30 (0, 0)) (Q0 BK101) hb); replace BK102 := am (blk_below (g := gb102) (o := .cells #[.int .i64 a1_0, .slice A1_1 l1_1.length c1_1] 30 (0, 0)) (Q0 BK102) hb); replace BK103 := am (blk_below (g := gb103) (o := .cells #[.int .i64 0, .slice none 0 0] 30 (0, 0)) (Q0 BK103) hb); replace HB := am (below_step (Q1 HB) hb); (try clear hb); (try clear hb2); (try clear hk); (try clear hi)))
   go_meet
   case rel => exact ⟨_, (true), Q11, H', ⟨Q94⟩, ⟨Q0 BK101⟩, ⟨Q0 BK102⟩, ⟨Q0 BK103⟩, ⟨Q1 HB⟩⟩
 case rest =>
  clear HC7
  try clear c1
  try clear c2
  try clear p2
  try clear c3
  try clear p6
  try clear c7
  try clear c9
  try clear c11
  try clear c12
  try clear c13
  try clear c16
  try clear c21
  try clear c22
  try clear c25
  try clear c28
  try clear c29
  try clear hcz14_0
  try clear hcz14_1
  try clear hcz17_0
  try clear hcz17_1
  try clear hcz19_0
  try clear hcz19_1
  try clear hcz20_0
  try clear hcz20_1
  try clear hcz23_0
  try clear hcz23_1
  try clear hcz26_0
  try clear hcz26_1
  try clear hcz30_0
  try clear hcz30_1
  try clear hfz14_0
  try clear hfz14_1
  try clear hfz17_0
  try clear hfz17_1
  try clear hfz19_0
  try clear hfz19_1
  try clear hfz20_0
  try clear hfz20_1
  try clear hfz23_0
  try clear hfz23_1
  try clear hfz26_0
  try clear hfz26_1
  try clear hfz30_0
  try clear hfz30_1
  obtain ⟨kq, x24_6, rfl, HA, HJ6, BK101, BK102, BK103, HB⟩ := hcut
  cases kq with
  | zero => exact absurd HA.out (by simp [impl_PutBeside.j0])
  | succ kj6 =>
   have H := HA.out; clear HA
   simp only [impl_PutBeside.j0] at H
   by_cases c32 : x24_6 = true
   ·subst c32
    have H1 : (some (0, ([] : List (S71)), false)) = some (r1, r2, r3) := by rw [if_pos rfl] at H; exact H
    clear H; have H := H1; clear H1
    simp only [Option.some.injEq, Prod.mk.injEq] at H
    obtain ⟨rfl, rfl, rfl⟩ := H; have hnb33 := NB103_101.out; have hnc33 := NB101_103.out; have hnb34 := NB103_102.out; have hnc34 := NB102_103.out; have hcz35_0 : wc.cell? ⟨gb103, 0, none⟩ = some (.int .i64 0) := (blk_cell BK103.out 0).trans rfl; have hcz35_1 : wc.cell? ⟨gb103, 1, none⟩ = some (.slice none 0 0) := (blk_cell BK103.out 1).trans rfl; have hfz35_0 := blk_frozen BK103.out 0; have hfz35_1 := blk_frozen BK103.out 1
    go_wp2
    refine bodyPost_ret (results_ct rfl _ _ gb103 30 #[.int .i64 0, .slice none 0 0] (0, 0) _ rfl (Q26 BK103) Try.underlying30 rfl (by kernel_rfl)) rfl ?_; exact ⟨_, Q10, Q43, Q5 HB GE103⟩
   ·replace c32 := Bool.eq_false_iff.mpr c32
    subst c32; have H1 : ((slices_Clone_2_int_2_int.f l0_1).bind fun t106 => (impl_PutBeside.l0 kj6 l1_1 (l1_1.length : Int) 0 a0_0 l0_1 (wrap64 (a0_0 + a1_0)) t106)) = some (r1, r2, r3) := by rw [if_neg (show ¬ (false = true) by decide)] at H; exact H
    clear H; have H := H1; clear H1; replace H := (ob H); obtain ⟨t106, A360, H⟩ := H; (try dsimp only at H); have A36 := Aside0.mk A360; clear A360; have H' := Aside0.mk H; clear H
    try go_wp2
    replace BK101 := am (blk_drew BK101.out); replace BK102 := am (blk_drew BK102.out); replace BK103 := am (blk_drew BK103.out); replace HB := am (below_drew1 HB.out); refine start_ (n := 11) (S := fun w' => w'.cell? ⟨gb101, 0, none⟩ = some (.int .i64 a0_0) ∧ w'.cell? ⟨gb101, 1, none⟩ = some (.slice A0_1 l0_1.length c0_1) ∧ w'.cell? ⟨gb102, 0, none⟩ = some (.int .i64 a1_0) ∧ w'.cell? ⟨gb102, 1, none⟩ = some (.slice A1_1 l1_1.length c1_1)) (ds := []) #[false, false, false, false, false, false, false, false, false, false, false] (by kernel_rfl) rfl rfl ⟨(blk_cell BK101.out 0).trans rfl, (blk_cell BK101.out 1).trans rfl, (blk_cell BK102.out 0).trans rfl, (blk_cell BK102.out 1).trans rfl⟩ (fun hHeld => ?_); refine with_tabW impl_PutBeside.tab3 impl_PutBeside.bits3 (fun HT_ HW_ => ?_); generalize wc.drew = w37 at BK101 BK102 BK103 HB hHeld ⊢; refine pq 0 26 rfl rfl HT_ ?_; refine pq 2 28 rfl rfl HT_ ?_; refine pq 5 31 rfl rfl HT_ ?_; refine tq4 1 27 rfl rfl HT_ HW_ hHeld ?_; refine tq4 3 29 rfl rfl HT_ HW_ hHeld ?_; refine pq 4 30 rfl rfl HT_ ?_; refine tq4 6 32 rfl rfl HT_ HW_ hHeld ?_; refine join_ (σ := Value × Nat) 1 #[true, true, true, true, true, true, true, true, true, true, false] (fun s_ => [(33, s_.1), (6, .pointer (some ⟨s_.2, 0, none⟩)), (34, .agg #[.int .i64 (wrap64 (a0_0 + a1_0)), s_.1])]) (fun s_ w' => (w'.cell? ⟨gb101, 0, none⟩ = some (.int .i64 a0_0) ∧ w'.cell? ⟨gb101, 1, none⟩ = some (.slice A0_1 l0_1.length c0_1) ∧ w'.cell? ⟨gb102, 0, none⟩ = some (.int .i64 a1_0) ∧ w'.cell? ⟨gb102, 1, none⟩ = some (.slice A1_1 l1_1.length c1_1)) ∧ (Kd.R k71 71 w' w.heap.size (fun _ => True) s_.1 t106) ∧ (w'.heap[gb101]? = some (.cells #[.int .i64 a0_0, .slice A0_1 l0_1.length c0_1] 30 (0, 0))) ∧ (w'.heap[gb102]? = some (.cells #[.int .i64 a1_0, .slice A1_1 l1_1.length c1_1] 30 (0, 0))) ∧ (w'.heap[gb103]? = some (.cells #[.int .i64 0, .slice none 0 0] 30 (0, 0))) ∧ (w'.heap[s_.2]? = some (.cells #[.int .i64 0, .slice none 0 0] 30 (0, 0))) ∧ (w.heap.size ≤ s_.2) ∧ (w.heap.size ≤ s_.2) ∧ (gb101 ≠ s_.2) ∧ (s_.2 ≠ gb101) ∧ (gb102 ≠ s_.2) ∧ (s_.2 ≠ gb102) ∧ (gb103 ≠ s_.2) ∧ (s_.2 ≠ gb103) ∧ (Below w.heap.size w w')) ?_ ?_
    rotate_left
    ·intro hCont
     refine two_ (i := 7) (j := 9) (Ni := some 33) (Nj := some 6) #[true, true, true, true, true, true, true, true, false, false, false] #[true, true, true, true, true, true, true, false, false, true, false] rfl rfl rfl rfl (two_of HT_.out (by kernel_rfl)) (by decide) (by decide) (fun K hK => ?_) (fun K hK => ?_)
     ·skip
      refine goes_ Try.func119 (by kernel_rfl) rfl #[.slice A0_1 l0_1.length c0_1] (by rfl) rfl rfl Q3 ?_
      with_reducible refine (slices_Clone_2_int_2_int.calls _ _ l0_1 t106 _ ?side1 ?side2 A36.out).mono ?_
      (case side1 => exact (Q9 HR0_1 HB))
      (case side2 => exact HC0_1.out)
      rintro e w38 ⟨v107, rfl, ho0, hb⟩; refine ⟨_, rfl, ?_⟩; have HO108 := am (Kd.R_lower ho0 (below_size (Q1 HB))); replace BK101 := am (blk_below (g := gb101) (o := .cells #[.int .i64 a0_0, .slice A0_1 l0_1.length c0_1] 30 (0, 0)) (Q0 BK101) hb); replace BK102 := am (blk_below (g := gb102) (o := .cells #[.int .i64 a1_0, .slice A1_1 l1_1.length c1_1] 30 (0, 0)) (Q0 BK102) hb); replace BK103 := am (blk_below (g := gb103) (o := .cells #[.int .i64 0, .slice none 0 0] 30 (0, 0)) (Q0 BK103) hb); replace HB := am (below_step (Q1 HB) hb); (try clear hb); (try clear hb2); (try clear hk); (try clear hi); (try clear ho0); obtain ⟨Ao39, co39, eo39⟩ := Kd.R_slice HO108.out
      (first | subst eo39 | (injection eo39 with f1_ f2_ f3_; have f4_ := f1_.symm; have f5_ := f3_.symm; clear f1_ f2_ f3_; subst f4_; subst f5_))
      refine hK.out _ _ ⟨(blk_cell BK101.out 0).trans rfl, (blk_cell BK101.out 1).trans rfl, (blk_cell BK102.out 0).trans rfl, (blk_cell BK102.out 1).trans rfl⟩ (fun hHeld => ?_); clear hK K; refine norm_ (a' := ?_) ?_ ?_
      rotate_left
      ·show Act.put _ (some 33) _ = _
       simp only [Act.put, List.setIfInBounds_toArray, List.set_cons_zero, List.set_cons_succ, i64_w, i32_w]
       rfl
      refine pq 8 34 rfl rfl HT_ ?_; refine oq 9 6 rfl rfl HT_ (fun K hK => ?_); refine box_step ?hg (N := 6) ?hd (cs := #[.int .i64 0, .slice none 0 0]) (t := 30) ?hr ?_; (case hd => rfl); (case hg => rfl); (case hr => first | (go_simp; done) | (go_simp; rfl)); intro gb109 hg w40 hbox hb; replace HO108 := am (Kd.R_below (Q6 HO108) hb); have BK109 := am (hbox); have GW109 := am ((Q25 : w.heap.size ≤ gb109)); have GE109 := am ((Q25 : w.heap.size ≤ gb109)); replace HB := am (below_step (Q1 HB) hb); have NB101_109 := am ((Q28 : gb101 ≠ gb109)); have NB109_101 := am ((Q29 : gb109 ≠ gb101)); replace BK101 := am (blk_below (g := gb101) (o := .cells #[.int .i64 a0_0, .slice A0_1 l0_1.length c0_1] 30 (0, 0)) (Q0 BK101) hb); have NB102_109 := am ((Q63 : gb102 ≠ gb109)); have NB109_102 := am ((Q64 : gb109 ≠ gb102)); replace BK102 := am (blk_below (g := gb102) (o := .cells #[.int .i64 a1_0, .slice A1_1 l1_1.length c1_1] 30 (0, 0)) (Q0 BK102) hb); have NB103_109 := am ((Q78 : gb103 ≠ gb109)); have NB109_103 := am ((Q79 : gb109 ≠ gb103)); replace BK103 := am (blk_below (g := gb103) (o := .cells #[.int .i64 0, .slice none 0 0] 30 (0, 0)) (Q0 BK103) hb); clear hb hbox hg; refine hK.out _ _ ⟨(blk_cell BK101.out 0).trans rfl, (blk_cell BK101.out 1).trans rfl, (blk_cell BK102.out 0).trans rfl, (blk_cell BK102.out 1).trans rfl⟩ (fun hHeld => ?_); clear hK K; refine norm_ (a' := ?_) ?_ ?_
      rotate_left
      ·show Act.put _ (some 6) _ = _
       simp only [Act.put, List.setIfInBounds_toArray, List.set_cons_zero, List.set_cons_succ, i64_w, i32_w]
       rfl
      exact norm_ Q56 (hCont (.slice Ao39 t106.length co39, gb109) _ ⟨hHeld, (Q6 HO108), (Q0 BK101), (Q0 BK102), (Q0 BK103), (Q0 BK109), GW109.out, GE109.out, NB101_109.out, NB109_101.out, NB102_109.out, NB109_102.out, NB103_109.out, NB109_103.out, (Q1 HB)⟩)
     ·skip
      refine box_step ?hg (N := 6) ?hd (cs := #[.int .i64 0, .slice none 0 0]) (t := 30) ?hr ?_; (case hd => rfl); (case hg => rfl); (case hr => first | (go_simp; done) | (go_simp; rfl)); intro gb109 hg w38 hbox hb; have BK109 := am (hbox); have GW109 := am ((Q25 : w.heap.size ≤ gb109)); have GE109 := am ((Q25 : w.heap.size ≤ gb109)); replace HB := am (below_step (Q1 HB) hb); have NB101_109 := am ((Q28 : gb101 ≠ gb109)); have NB109_101 := am ((Q29 : gb109 ≠ gb101)); replace BK101 := am (blk_below (g := gb101) (o := .cells #[.int .i64 a0_0, .slice A0_1 l0_1.length c0_1] 30 (0, 0)) (Q0 BK101) hb); have NB102_109 := am ((Q63 : gb102 ≠ gb109)); have NB109_102 := am ((Q64 : gb109 ≠ gb102)); replace BK102 := am (blk_below (g := gb102) (o := .cells #[.int .i64 a1_0, .slice A1_1 l1_1.length c1_1] 30 (0, 0)) (Q0 BK102) hb); have NB103_109 := am ((Q78 : gb103 ≠ gb109)); have NB109_103 := am ((Q79 : gb109 ≠ gb103)); replace BK103 := am (blk_below (g := gb103) (o := .cells #[.int .i64 0, .slice none 0 0] 30 (0, 0)) (Q0 BK103) hb); clear hb hbox hg; refine hK.out _ _ ⟨(blk_cell BK101.out 0).trans rfl, (blk_cell BK101.out 1).trans rfl, (blk_cell BK102.out 0).trans rfl, (blk_cell BK102.out 1).trans rfl⟩ (fun hHeld => ?_); clear hK K; refine norm_ (a' := ?_) ?_ ?_
      rotate_left
      ·show Act.put _ (some 6) _ = _
       simp only [Act.put, List.setIfInBounds_toArray, List.set_cons_zero, List.set_cons_succ, i64_w, i32_w]
       rfl
      refine oq 7 33 rfl rfl HT_ (fun K hK => ?_); refine goes_ Try.func119 (by kernel_rfl) rfl #[.slice A0_1 l0_1.length c0_1] (by rfl) rfl rfl Q3 ?_
      with_reducible refine (slices_Clone_2_int_2_int.calls _ _ l0_1 t106 _ ?side1 ?side2 A36.out).mono ?_
      (case side1 => exact (Q9 HR0_1 HB))
      (case side2 => exact HC0_1.out)
      rintro e w39 ⟨v107, rfl, ho0, hb⟩; refine ⟨_, rfl, ?_⟩; have HO108 := am (Kd.R_lower ho0 (below_size (Q1 HB))); replace BK101 := am (blk_below (g := gb101) (o := .cells #[.int .i64 a0_0, .slice A0_1 l0_1.length c0_1] 30 (0, 0)) (Q0 BK101) hb); replace BK102 := am (blk_below (g := gb102) (o := .cells #[.int .i64 a1_0, .slice A1_1 l1_1.length c1_1] 30 (0, 0)) (Q0 BK102) hb); replace BK103 := am (blk_below (g := gb103) (o := .cells #[.int .i64 0, .slice none 0 0] 30 (0, 0)) (Q0 BK103) hb); replace BK109 := am (blk_below (g := gb109) (o := .cells #[.int .i64 0, .slice none 0 0] 30 (0, 0)) (Q0 BK109) hb); replace HB := am (below_step (Q1 HB) hb); (try clear hb); (try clear hb2); (try clear hk); (try clear hi); (try clear ho0); obtain ⟨Ao40, co40, eo40⟩ := Kd.R_slice HO108.out
      (first | subst eo40 | (injection eo40 with f1_ f2_ f3_; have f4_ := f1_.symm; have f5_ := f3_.symm; clear f1_ f2_ f3_; subst f4_; subst f5_))
      refine hK.out _ _ ⟨(blk_cell BK101.out 0).trans rfl, (blk_cell BK101.out 1).trans rfl, (blk_cell BK102.out 0).trans rfl, (blk_cell BK102.out 1).trans rfl⟩ (fun hHeld => ?_); clear hK K; refine norm_ (a' := ?_) ?_ ?_
      rotate_left
      ·show Act.put _ (some 33) _ = _
       simp only [Act.put, List.setIfInBounds_toArray, List.set_cons_zero, List.set_cons_succ, i64_w, i32_w]
       rfl
      refine pq 8 34 rfl rfl HT_ ?_; exact norm_ Q56 (hCont (.slice Ao40 t106.length co40, gb109) _ ⟨hHeld, (Q6 HO108), (Q0 BK101), (Q0 BK102), (Q0 BK103), (Q0 BK109), GW109.out, GE109.out, NB101_109.out, NB109_101.out, NB102_109.out, NB109_102.out, NB103_109.out, NB109_103.out, (Q1 HB)⟩)
    rintro ⟨v107, gb109⟩ w41 ⟨hS_, h0_, h1_, h2_, h3_, h4_, h5_, h6_, h7_, h8_, h9_, h10_, h11_, h12_, h13_⟩; have HO108 : Aside0 (Kd.R k71 71 w41 w.heap.size (fun _ => True) v107 t106) := ⟨h0_⟩; replace BK101 : Aside0 (w41.heap[gb101]? = some (.cells #[.int .i64 a0_0, .slice A0_1 l0_1.length c0_1] 30 (0, 0))) := ⟨h1_⟩; replace BK102 : Aside0 (w41.heap[gb102]? = some (.cells #[.int .i64 a1_0, .slice A1_1 l1_1.length c1_1] 30 (0, 0))) := ⟨h2_⟩; replace BK103 : Aside0 (w41.heap[gb103]? = some (.cells #[.int .i64 0, .slice none 0 0] 30 (0, 0))) := ⟨h3_⟩; have BK109 : Aside0 (w41.heap[gb109]? = some (.cells #[.int .i64 0, .slice none 0 0] 30 (0, 0))) := ⟨h4_⟩; have GW109 : Aside0 (w.heap.size ≤ gb109) := ⟨h5_⟩; have GE109 : Aside0 (w.heap.size ≤ gb109) := ⟨h6_⟩; have NB101_109 : Aside0 (gb101 ≠ gb109) := ⟨h7_⟩; have NB109_101 : Aside0 (gb109 ≠ gb101) := ⟨h8_⟩; have NB102_109 : Aside0 (gb102 ≠ gb109) := ⟨h9_⟩; have NB109_102 : Aside0 (gb109 ≠ gb102) := ⟨h10_⟩; have NB103_109 : Aside0 (gb103 ≠ gb109) := ⟨h11_⟩; have NB109_103 : Aside0 (gb109 ≠ gb103) := ⟨h12_⟩; replace HB : Aside0 (Below w.heap.size w w41) := ⟨h13_⟩; clear h0_ h1_ h2_ h3_ h4_ h5_ h6_ h7_ h8_ h9_ h10_ h11_ h12_ h13_; have hHeld : w41.cell? ⟨gb101, 0, none⟩ = some (.int .i64 a0_0) ∧ w41.cell? ⟨gb101, 1, none⟩ = some (.slice A0_1 l0_1.length c0_1) ∧ w41.cell? ⟨gb102, 0, none⟩ = some (.int .i64 a1_0) ∧ w41.cell? ⟨gb102, 1, none⟩ = some (.slice A1_1 l1_1.length c1_1) := hS_; obtain ⟨Ao42, co42, eo42⟩ := Kd.R_slice HO108.out
    (first | subst eo42 | (injection eo42 with f1_ f2_ f3_; have f4_ := f1_.symm; have f5_ := f3_.symm; clear f1_ f2_ f3_; subst f4_; subst f5_))
    refine norm_ (a' := ?_) ?_ ?_
    rotate_left
    ·simp only [putAll, Act.put, List.setIfInBounds_toArray, List.set_cons_zero, List.set_cons_succ]
     rfl
    refine one_ (i := 10) (N := none) #[true, true, true, true, true, true, true, true, true, true, true] rfl rfl (one_of HT_.out (by kernel_rfl)) (by decide) (fun K hK => ?_); have hs43 : w41.cell? ⟨gb109, 0, none⟩ = some (.int .i64 0) := (blk_cell BK109.out 0).trans rfl; have hfs43 := blk_frozen BK109.out 0; have hns43_0 := NB101_109.out; have hns43_1 := NB102_109.out; have hns43_2 := NB103_109.out; have hms43_0 := NB109_101.out; have hms43_1 := NB109_102.out; have hms43_2 := NB109_103.out; have hs44 : w41.cell? ⟨gb109, 1, none⟩ = some (.slice none 0 0) := (blk_cell BK109.out 1).trans rfl; have hfs44 := blk_frozen BK109.out 1; have hns44_0 := NB101_109.out; have hns44_1 := NB102_109.out; have hns44_2 := NB103_109.out; have hms44_0 := NB109_101.out; have hms44_1 := NB109_102.out; have hms44_2 := NB109_103.out; refine skip_ (w1 := ?_) (by rfl) rfl ?_ ?_
    rotate_left
    ·go_simp
     rfl
    refine hK.out _ _ ⟨((cell_far (p := ⟨gb109, _, none⟩) NB101_109.out _).trans (((cell_far (p := ⟨gb109, _, none⟩) NB101_109.out _).trans (hHeld.1)))), ((cell_far (p := ⟨gb109, _, none⟩) NB101_109.out _).trans (((cell_far (p := ⟨gb109, _, none⟩) NB101_109.out _).trans (hHeld.2.1)))), ((cell_far (p := ⟨gb109, _, none⟩) NB102_109.out _).trans (((cell_far (p := ⟨gb109, _, none⟩) NB102_109.out _).trans (hHeld.2.2.1)))), ((cell_far (p := ⟨gb109, _, none⟩) NB102_109.out _).trans (((cell_far (p := ⟨gb109, _, none⟩) NB102_109.out _).trans (hHeld.2.2.2))))⟩ (fun hHeld => ?_); clear hK K; refine done_ (done_of HT_.out (by kernel_rfl)) ?_; have hnb45 := NB102_101.out; have hnc45 := NB101_102.out; have hnb46 := NB102_103.out; have hnc46 := NB103_102.out; have hnb47 := NB102_109.out; have hnc47 := NB109_102.out; have hcz48_0 : w41.cell? ⟨gb102, 0, none⟩ = some (.int .i64 a1_0) := (blk_cell BK102.out 0).trans rfl; have hcz48_1 : w41.cell? ⟨gb102, 1, none⟩ = some (.slice A1_1 l1_1.length c1_1) := (blk_cell BK102.out 1).trans rfl; have hfz48_0 := blk_frozen BK102.out 0; have hfz48_1 := blk_frozen BK102.out 1
    try go_wp2
    go_loopg [38] kj6 (fun kq v38 w' => ∃ (x38_2 : Int) (x110001_2 : List (S71)) (u110001 : Value), v38 = .int .i64 x38_2 ∧ Aside0 (impl_PutBeside.l0 kq l1_1 (l1_1.length : Int) x38_2 a0_0 l0_1 (wrap64 (a0_0 + a1_0)) x110001_2 = some (r1, r2, r3)) ∧ Aside0 (kq ≤ kj6) ∧ Aside0 (Kd.R k71 71 w' w.heap.size (fun _ => True) u110001 x110001_2) ∧ Aside0 (w'.heap[gb101]? = some (.cells #[.int .i64 a0_0, (.slice A0_1 l0_1.length c0_1)] 30 (0, 0))) ∧ Aside0 (w'.heap[gb102]? = some (.cells #[.int .i64 a1_0, (.slice A1_1 l1_1.length c1_1)] 30 (0, 0))) ∧ Aside0 (w'.heap[gb103]? = some (.cells #[.int .i64 0, (.slice none 0 0)] 30 (0, 0))) ∧ Aside0 (w'.heap[gb109]? = some (.cells #[.int .i64 (wrap64 (a0_0 + a1_0)), u110001] 30 (0, 0))) ∧ Aside0 (Below w.heap.size w w'))
    case atStart => exact ⟨(0), (t106), (.slice Ao42 t106.length co42), Q11, H', ⟨Nat.le_refl _⟩, ⟨by (with_reducible repeat (first | apply Kd.R_alloc | apply Kd.R_drewN | apply Kd.R_drew)); exact Kd.R_mono (Kd.R_far (p := ⟨gb109, 1, none⟩) (Kd.R_far (p := ⟨gb109, 0, none⟩) (Kd.R_types HO108.out BK109.out (by decide)) (fun _ hk => hk.2) (.int .i64 (wrap64 (a0_0 + a1_0)))) (fun _ hk => hk.2) (.slice Ao42 t106.length co42)) (fun _ hk => trivial)⟩, ⟨Q2 NB101_109 BK101⟩, ⟨Q2 NB102_109 BK102⟩, ⟨Q2 NB103_109 BK103⟩, ⟨Q45 BK109⟩, ⟨Q5 HB GE109⟩⟩
    case round =>
     clear H'
     try clear c1
     try clear c2
     try clear p2
     try clear c3
     try clear c4
     try clear p6
     try clear c7
     try clear c9
     try clear c11
     try clear c12
     try clear c13
     try clear c16
     try clear c21
     try clear c22
     try clear c25
     try clear c28
     try clear c29
     try clear c32
     try clear c33
     try clear c34
     try clear c45
     try clear c46
     try clear c47
     try clear hcz14_0
     try clear hcz14_1
     try clear hcz17_0
     try clear hcz17_1
     try clear hcz19_0
     try clear hcz19_1
     try clear hcz20_0
     try clear hcz20_1
     try clear hcz23_0
     try clear hcz23_1
     try clear hcz26_0
     try clear hcz26_1
     try clear hcz30_0
     try clear hcz30_1
     try clear hcz35_0
     try clear hcz35_1
     try clear hcz48_0
     try clear hcz48_1
     try clear hfz14_0
     try clear hfz14_1
     try clear hfz17_0
     try clear hfz17_1
     try clear hfz19_0
     try clear hfz19_1
     try clear hfz20_0
     try clear hfz20_1
     try clear hfz23_0
     try clear hfz23_1
     try clear hfz26_0
     try clear hfz26_1
     try clear hfz30_0
     try clear hfz30_1
     try clear hfz35_0
     try clear hfz35_1
     try clear hfz48_0
     try clear hfz48_1
     try clear p2
     try clear p6
     obtain ⟨x38_2, x110001_2, u110001, rfl, HA, HK2, HO_110001, BK101, BK102, BK103, BK109, HB⟩ := hrel
     cases gk with
     | zero => exact absurd HA.out (by simp [impl_PutBeside.l0])
     | succ k2 =>
      have H := HA.out; clear HA
      simp only [impl_PutBeside.l0] at H
      by_cases c49 : x38_2 < (l1_1.length : Int)
      ·rw [if_pos c49] at H
       have c49b0 := decide_eq_true c49; clear c49
       by_cases c50 : 0 ≤ x38_2
       ·rw [if_pos c50] at H
        have c50b0 := decide_eq_true c50; clear c50
        by_cases c51 : x38_2 < (l1_1.length : Int)
        ·rw [if_pos c51] at H
         have c51b0 := decide_eq_true c51; clear c51
         by_cases c52 : x110001_2.length < 8796093022208
         ·rw [if_pos c52] at H
          have LMc52 := Aside0.mk c52; clear c52; obtain ⟨y112, hy112⟩ : ∃ y_ : List (S71), y_ = (x110001_2 ++ [(⟨wrap64 (((rd_T71 l1_1 x38_2).f0) + a0_0), wrap64 (((rd_T71 l1_1 x38_2).f1) + a0_0)⟩ : S71)]) := ⟨_, rfl⟩; replace H : (impl_PutBeside.l0 k2 l1_1 (l1_1.length : Int) (wrap64 (x38_2 + 1)) a0_0 l0_1 (wrap64 (a0_0 + a1_0)) y112) = some (r1, r2, r3) := RH hy112 H; have Ny112 := Aside0.mk hy112; clear hy112; have H' := Aside0.mk H; clear H; have p110 : 0 ≤ (x38_2 : Int) := of_decide_eq_true Q12; have q110 : x38_2 < (l1_1.length : Int) := of_decide_eq_true Q12; obtain ⟨ad110, e110, hx110_0, hx110_1⟩ := at_T71 HR1_1.out x38_2 p110 q110
          cases e110
          replace hx110_0 := (HB.out.cell (World.block_lt_of_cell? w _ hx110_0)).trans hx110_0; replace hx110_1 := (HB.out.cell (World.block_lt_of_cell? w _ hx110_1)).trans hx110_1; replace p110 := eq_true p110; replace q110 := eq_true q110
          go_wp2_with (first | ((with_reducible refine gate_dst (N := 8) rfl ?_); refine box_event ?hg (N := 8) ?hd (cs := #[.int .i64 0, .int .i64 0]) (t := 71) ?hr ?_; (case hd => rfl); (case hg => rfl); (case hr => first | (go_simp; done) | (go_simp; rfl)); intro gb111 hg w53 hbox hb; replace HO_110001 := am (Kd.R_below (Kd.R_elderB (by (with_reducible repeat (first | apply Kd.R_alloc | apply Kd.R_drewN | apply Kd.R_drew)); exact HO_110001.out) gb111 (Nat.le_of_eq hg.symm)) hb); have BK111 := am (hbox); have GW111 := am ((Q25 : w.heap.size ≤ gb111)); have GE111 := am ((Q25 : w.heap.size ≤ gb111)); replace HB := am (below_step (Q1 HB) hb); have NB101_111 := am ((Q28 : gb101 ≠ gb111)); have NB111_101 := am ((Q29 : gb111 ≠ gb101)); replace BK101 := am (blk_below (g := gb101) (o := .cells #[.int .i64 a0_0, .slice A0_1 l0_1.length c0_1] 30 (0, 0)) (Q0 BK101) hb); have NB102_111 := am ((by rw [hg]; exact Nat.ne_of_lt (blk_lt (g := gb102) (o := .cells #[.int .i64 a1_0, .slice (some ad110) l1_1.length c1_1] 30 (0, 0)) (Q0 BK102)) : gb102 ≠ gb111)); have NB111_102 := am ((by rw [hg]; exact Nat.ne_of_gt (blk_lt (g := gb102) (o := .cells #[.int .i64 a1_0, .slice (some ad110) l1_1.length c1_1] 30 (0, 0)) (Q0 BK102)) : gb111 ≠ gb102)); replace BK102 := am (blk_below (g := gb102) (o := .cells #[.int .i64 a1_0, .slice (some ad110) l1_1.length c1_1] 30 (0, 0)) (Q0 BK102) hb); have NB103_111 := am ((Q78 : gb103 ≠ gb111)); have NB111_103 := am ((Q79 : gb111 ≠ gb103)); replace BK103 := am (blk_below (g := gb103) (o := .cells #[.int .i64 0, .slice none 0 0] 30 (0, 0)) (Q0 BK103) hb); have NB109_111 := am ((by rw [hg]; exact Nat.ne_of_lt (blk_lt (g := gb109) (o := .cells #[.int .i64 (wrap64 (a0_0 + a1_0)), u110001] 30 (0, 0)) (Q0 BK109)) : gb109 ≠ gb111)); have NB111_109 := am ((by rw [hg]; exact Nat.ne_of_gt (blk_lt (g := gb109) (o := .cells #[.int .i64 (wrap64 (a0_0 + a1_0)), u110001] 30 (0, 0)) (Q0 BK109)) : gb111 ≠ gb109)); replace BK109 := am (blk_below (g := gb109) (o := .cells #[.int .i64 (wrap64 (a0_0 + a1_0)), u110001] 30 (0, 0)) (Q0 BK109) hb); clear hb hbox hg; have hnb54 := NB111_101.out; have hnc54 := NB101_111.out; have hnb55 := NB111_102.out; have hnc55 := NB102_111.out; have hnb56 := NB111_103.out; have hnc56 := NB103_111.out; have hnb57 := NB111_109.out; have hnc57 := NB109_111.out; have hcz58_0 : w53.cell? ⟨gb111, 0, none⟩ = some (.int .i64 0) := (blk_cell BK111.out 0).trans rfl; have hcz58_1 : w53.cell? ⟨gb111, 1, none⟩ = some (.int .i64 0) := (blk_cell BK111.out 1).trans rfl; have hfz58_0 := blk_frozen BK111.out 0; have hfz58_1 := blk_frozen BK111.out 1; have hnb59 := NB109_101.out; have hnc59 := NB101_109.out; have hnb60 := NB109_102.out; have hnc60 := NB102_109.out; have hnb61 := NB109_103.out; have hnc61 := NB103_109.out; have hcz62_0 : w53.cell? ⟨gb109, 0, none⟩ = some (.int .i64 (wrap64 (a0_0 + a1_0))) := (blk_cell BK109.out 0).trans rfl; have hcz62_1 : w53.cell? ⟨gb109, 1, none⟩ = some (u110001) := (blk_cell BK109.out 1).trans rfl; have hfz62_0 := blk_frozen BK109.out 0; have hfz62_1 := blk_frozen BK109.out 1; have hnb63 := NB101_102.out; have hnc63 := NB102_101.out; have hnb64 := NB101_103.out; have hnc64 := NB103_101.out; have hcz65_0 : w53.cell? ⟨gb101, 0, none⟩ = some (.int .i64 a0_0) := (blk_cell BK101.out 0).trans rfl; have hcz65_1 : w53.cell? ⟨gb101, 1, none⟩ = some (.slice A0_1 l0_1.length c0_1) := (blk_cell BK101.out 1).trans rfl; have hfz65_0 := blk_frozen BK101.out 0; have hfz65_1 := blk_frozen BK101.out 1) | ((with_reducible refine gate_builtin (b := .append) (xs := #[.tmp 43, .tmp 55]) rfl ?_); at_builtin; refine Kd.R_append k71 (w0 := w) w.heap.size rfl (.tmp 43) (.tmp 55) 22 71 (.agg #[(.int .i64 0), (.int .i64 0)]) 16 rfl Try.underlying22 info71 rfl (by decide) (by omega) u110001 x110001_2 (⟨wrap64 (((rd_T71 l1_1 x38_2).f0) + a0_0), wrap64 (((rd_T71 l1_1 x38_2).f1) + a0_0)⟩ : S71) [.int .i64 (wrap64 (((rd_T71 l1_1 x38_2).f0) + a0_0)), .int .i64 (wrap64 (((rd_T71 l1_1 x38_2).f1) + a0_0))] (fun k_ => k_ ≠ gb111) (fun _ => False) rfl (by first | (go_simp; done) | (go_simp; rfl)) ?aP (fun _ hk => hk.elim) ?aF ?aO ?aB ?aS ?aL ?_; (case aP => exact k71_mkM _ _ _ (⟨wrap64 (((rd_T71 l1_1 x38_2).f0) + a0_0), wrap64 (((rd_T71 l1_1 x38_2).f1) + a0_0)⟩ : S71)); (case aB => exact (Q5 HB GE111)); (case aF => exact (fun k_ hk => Kd.freshB (g := gb111) (o := .cells #[.int .i64 ((rd_T71 l1_1 x38_2).f0), .int .i64 ((rd_T71 l1_1 x38_2).f1)] 71 (0, 0)) (Q98 BK111) k_ hk)); (case aO => exact (by (with_reducible repeat (first | apply Kd.R_alloc | apply Kd.R_drewN | apply Kd.R_drew)); exact Kd.R_mono (Kd.R_far (p := ⟨gb111, 1, none⟩) (Kd.R_far (p := ⟨gb111, 0, none⟩) (Kd.R_mono HO_110001.out (fun k_ hk => (⟨hk, hk.2⟩ : _ ∧ k_ ≠ gb111))) (fun _ hk => hk.2) (.int .i64 ((rd_T71 l1_1 x38_2).f0))) (fun _ hk => hk.2) (.int .i64 ((rd_T71 l1_1 x38_2).f1))) (fun _ hk => hk.1.2))); (case aS => exact (below_size (Q5 HB GE111))); (case aL => have := LMc52.out; omega); intro v113 w66 ho hb hg hat; rw [← Ny112.out] at ho; replace BK101 := am (blk_grown (g := gb101) (o := .cells #[.int .i64 a0_0, .slice A0_1 l0_1.length c0_1] 30 (0, 0)) (Q2 NB101_111 BK101) hg (Kd.R_ne HO_110001.out BK101.out (by decide))); replace BK102 := am (blk_grown (g := gb102) (o := .cells #[.int .i64 a1_0, .slice (some ad110) l1_1.length c1_1] 30 (0, 0)) (Q2 NB102_111 BK102) hg (Kd.R_ne HO_110001.out BK102.out (by decide))); replace BK103 := am (blk_grown (g := gb103) (o := .cells #[.int .i64 0, .slice none 0 0] 30 (0, 0)) (Q2 NB103_111 BK103) hg (Kd.R_ne HO_110001.out BK103.out (by decide))); replace BK109 := am (blk_grown (g := gb109) (o := .cells #[.int .i64 (wrap64 (a0_0 + a1_0)), u110001] 30 (0, 0)) (Q2 NB109_111 BK109) hg (Kd.R_ne HO_110001.out BK109.out (by decide))); replace BK111 := am (blk_grown (g := gb111) (o := .cells #[.int .i64 ((rd_T71 l1_1 x38_2).f0), .int .i64 ((rd_T71 l1_1 x38_2).f1)] 71 (0, 0)) (Q98 BK111) hg (Kd.R_away HO_110001.out (fun _ hk => hk.2))); replace HB := am (hb); have HO114 := am (ho); clear HO_110001; clear ho hb hg hat; obtain ⟨Ao67, co67, eo67⟩ := Kd.R_slice HO114.out; subst eo67; have hcz68_0 : w66.cell? ⟨gb109, 0, none⟩ = some (.int .i64 (wrap64 (a0_0 + a1_0))) := (blk_cell BK109.out 0).trans rfl; have hcz68_1 : w66.cell? ⟨gb109, 1, none⟩ = some (u110001) := (blk_cell BK109.out 1).trans rfl; have hfz68_0 := blk_frozen BK109.out 0; have hfz68_1 := blk_frozen BK109.out 1))
          go_roundg k2
          case measure => have := HJ6.out; have := HK2.out; omega
          case rel => exact ⟨(wrap64 (x38_2 + 1)), (y112), (.slice Ao67 y112.length co67), Q11, H', ⟨by have := HJ6.out; have := HK2.out; omega⟩, ⟨by (with_reducible repeat (first | apply Kd.R_alloc | apply Kd.R_drewN | apply Kd.R_drew)); exact Kd.R_mono (Kd.R_far (p := ⟨gb109, 1, none⟩) (Kd.R_types HO114.out BK109.out (by decide)) (fun _ hk => hk.2) (.slice Ao67 y112.length co67)) (fun _ hk => trivial)⟩, ⟨Q27 NB101_109 BK101⟩, ⟨Q27 NB102_109 BK102⟩, ⟨Q27 NB103_109 BK103⟩, ⟨by (with_reducible repeat (first | refine blk_drewN ?_ _ | refine blk_drew ?_ | refine blk_alloc ?_ _)); refine blk_put (cs := #[.int .i64 (wrap64 (a0_0 + a1_0)), u110001]) ?_ 1 _ rfl; (with_reducible repeat (first | refine blk_drewN ?_ _ | refine blk_drew ?_ | refine blk_alloc ?_ _)); exact BK109.out⟩, ⟨Q5 HB GE109⟩⟩
         ·rw [if_neg c52] at H
          exact absurd H (by simp)
        ·rw [if_neg c51] at H
         exact absurd H (by simp)
       ·rw [if_neg c50] at H
        exact absurd H (by simp)
      ·rw [if_neg c49] at H
       have c49b0 := decide_eq_false c49; clear c49
       simp only [Option.some.injEq, Prod.mk.injEq] at H
       obtain ⟨rfl, rfl, rfl⟩ := H; have hnb69 := NB109_101.out; have hnc69 := NB101_109.out; have hnb70 := NB109_102.out; have hnc70 := NB102_109.out; have hnb71 := NB109_103.out; have hnc71 := NB103_109.out; have hcz72_0 : wr.cell? ⟨gb109, 0, none⟩ = some (.int .i64 (wrap64 (a0_0 + a1_0))) := (blk_cell BK109.out 0).trans rfl; have hcz72_1 : wr.cell? ⟨gb109, 1, none⟩ = some (u110001) := (blk_cell BK109.out 1).trans rfl; have hfz72_0 := blk_frozen BK109.out 0; have hfz72_1 := blk_frozen BK109.out 1; have hnb73 := NB103_101.out; have hnc73 := NB101_103.out; have hnb74 := NB103_102.out; have hnc74 := NB102_103.out; have hcz75_0 : wr.cell? ⟨gb103, 0, none⟩ = some (.int .i64 0) := (blk_cell BK103.out 0).trans rfl; have hcz75_1 : wr.cell? ⟨gb103, 1, none⟩ = some (.slice none 0 0) := (blk_cell BK103.out 1).trans rfl; have hfz75_0 := blk_frozen BK103.out 0; have hfz75_1 := blk_frozen BK103.out 1; obtain ⟨Ao76, co76, eo76⟩ := Kd.R_slice HO_110001.out; subst eo76
       go_wp2
       refine bodyPost_ret (results_ct rfl _ _ gb103 30 #[.int .i64 (wrap64 (a0_0 + a1_0)), .slice Ao76 x110001_2.length co76] (0, 0) _ rfl (Q45 BK103) Try.underlying30 rfl (by kernel_rfl)) rfl ?_; exact ⟨_, Q10, by (with_reducible repeat (first | apply Kd.R_alloc | apply Kd.R_drewN | apply Kd.R_drew)); exact Kd.R_mono (Kd.R_far (p := ⟨gb103, 1, none⟩) (Kd.R_far (p := ⟨gb103, 0, none⟩) (Kd.R_types HO_110001.out BK103.out (by decide)) (fun _ hk => hk.2) (.int .i64 (wrap64 (a0_0 + a1_0)))) (fun _ hk => hk.2) (.slice Ao76 x110001_2.length co76)) (fun _ hk => trivial), Q5 HB GE103⟩
/-! ### impl_net_ball: function 116 -/
def impl_net_ball.l0 : Nat → Int → Int → List Int → Option (Int)
 | 0, _, _, _ => none
 | k + 1, x2, x7, x102000 => if x2 > 0 then ((impl_net_around.f k x102000 x7).bind fun t102 => (if t102 = x7 then (some x7) else (impl_net_ball.l0 k (wrap64 (x2 - 1)) t102 x102000))) else (some x7)
def impl_net_ball.f (k : Nat) (l0_0 : List Int) (a1 : Int) (a2 : Int) : Option (Int) := if 0 ≤ a1 then (impl_net_ball.l0 k a2 (shl .i64 1 a1) l0_0) else (none)
theorem impl_net_ball.mono_l : ∀ k, (∀ y0 y1 y2, LeO (impl_net_ball.l0 k y0 y1 y2) (impl_net_ball.l0 (k + 1) y0 y1 y2))
 | 0 => fun _ _ _ r h => by simp [impl_net_ball.l0] at h
 | k + 1 => by
  have ih0 := impl_net_ball.mono_l k
  all_goals
   intros
   first | unfold impl_net_ball.l0
   repeat' first | (with_reducible first | exact ih0 _ _ _ | exact impl_net_around.mono _ _ _ | exact LeO.refl _ | exact LeO.none _ | refine LeO.ite ?_ ?_ | refine LeO.bind ?_ (fun _ => ?_))
theorem impl_net_ball.mono : ∀ a0 a1 a2 k, LeO (impl_net_ball.f k a0 a1 a2) (impl_net_ball.f (k + 1) a0 a1 a2) := by
 intro a0 a1 a2 k
 have ih0 := impl_net_ball.mono_l k
 unfold impl_net_ball.f
 repeat' first | (with_reducible first | exact ih0 _ _ _ | exact impl_net_around.mono _ _ _ | exact LeO.refl _ | exact LeO.none _ | refine LeO.ite ?_ ?_ | refine LeO.bind ?_ (fun _ => ?_))
set_option maxHeartbeats 8000000 in
set_option maxRecDepth 100000 in
theorem impl_net_ball.calls (k : Nat) (A0_0 : Option Addr) (c0_0 : Nat) (l0_0 : List Int) (a1 : Int) (a2 : Int) (r : Int) (w : World) (hr0_0 : Kd.C (Kd.int .i64) w A0_0 l0_0.length l0_0) (hc0_0 : l0_0.length ≤ c0_0) (h : impl_net_ball.f k l0_0 a1 a2 = some r) :
  Calls Try.prog 116 #[.agg #[.slice A0_0 l0_0.length c0_0], .int .i64 a1, .int .i64 a2] w fun e w' => e = .returned (.int .i64 r) ∧ Below w.heap.size w w' := by
 have hu90 := Try.underlying90
 have HR0_0 := Aside0.mk hr0_0
 have HC0_0 := Aside0.mk hc0_0
 clear hr0_0 hc0_0
 have HB := am (Below.refl w.heap.size w)
 have H : (if 0 ≤ a1 then (impl_net_ball.l0 k a2 (shl .i64 1 a1) l0_0) else (none)) = some r := h
 clear h
 by_cases c4 : 0 ≤ a1
 ·rw [if_pos c4] at H
  have c4b0 := eq_true c4; have c4b1 := decide_eq_true c4; clear c4; obtain ⟨ji5, hji5⟩ : ∃ j_ : Int, (shl .i64 1 a1) = j_ := ⟨_, rfl⟩; replace H : (impl_net_ball.l0 k a2 ji5 l0_0) = some r := by first | (rw [hji5] at H; exact H) | (simp only [hji5] at H ⊢; exact H)
  have hji5_ : (IntKind.i64.wrap (1 * 2 ^ min a1.toNat 64)) = ji5 := hji5; have hji5z : a1 ≤ 64 → (IntKind.i64.wrap (1 * 2 ^ a1.toNat)) = ji5 := shl_small hji5; have hji5u : (IntKind.i64.wrap (2 ^ min a1.toNat 64)) = ji5 := by have h_ := hji5_; rw [Int.one_mul] at h_; exact h_
  have hji5v : a1 ≤ 64 → (IntKind.i64.wrap (2 ^ a1.toNat)) = ji5 := fun hle_ => by have h_ := hji5z hle_; rw [Int.one_mul] at h_; exact h_
  have hji5y : (wrap64 (1 * 2 ^ min a1.toNat 64)) = ji5 := (i64_w _).symm.trans hji5_; have hji5x : a1 ≤ 64 → (wrap64 (1 * 2 ^ a1.toNat)) = ji5 := fun h_ => (i64_w _).symm.trans (hji5z h_)
  have H' := Aside0.mk H; clear H
  go_enter Try.func116, Try.ntmps116
  go_wp2_with (first | ((with_reducible refine gate_dst (N := 3) rfl ?_); refine box_event ?hg (N := 3) ?hd (cs := #[.slice A0_0 l0_0.length c0_0]) (t := 90) ?hr ?_; (case hd => rfl); (case hg => rfl); (case hr => first | (go_simp; done) | (go_simp; rfl)); intro gb101 hg w6 hbox hb; have BK101 := am (hbox); have GW101 := am ((Q25 : w.heap.size ≤ gb101)); have GE101 := am ((Q25 : w.heap.size ≤ gb101)); replace HB := am (below_step (Q1 HB) hb); clear hb hbox hg))
  go_loopg [2, 7] k (fun kq v2 v7 w' => ∃ (x2_1 : Int) (x7_1 : Int), v2 = .int .i64 x2_1 ∧ v7 = .int .i64 x7_1 ∧ Aside0 (impl_net_ball.l0 kq x2_1 x7_1 l0_0 = some r) ∧ Aside0 (kq ≤ k) ∧ Aside0 (w'.heap[gb101]? = some (.cells #[(.slice A0_0 l0_0.length c0_0)] 90 (0, 0))) ∧ Aside0 (Below w.heap.size w w'))
  case atStart => exact ⟨(a2), (ji5), Q11, (by first | rfl | (simp; done) | (simp only [← hji5] <;> (first | rfl | simp)) | (simp [*]; done)), H', ⟨Nat.le_refl _⟩, ⟨Q0 BK101⟩, ⟨Q1 HB⟩⟩
  case round =>
   clear H'
   try clear c1
   try clear p2
   try clear c4
   try clear c4b0
   try clear c4b1
   try clear p6
   obtain ⟨x2_1, x7_1, rfl, rfl, HA, HK1, BK101, HB⟩ := hrel
   cases gk with
   | zero => exact absurd HA.out (by simp [impl_net_ball.l0])
   | succ k1 =>
    have H := HA.out; clear HA
    simp only [impl_net_ball.l0] at H
    by_cases c7 : x2_1 > 0
    ·rw [if_pos c7] at H
     have c7b0 : decide (0 < x2_1) = true := decide_eq_true c7; clear c7; replace H := (ob H); obtain ⟨t102, A80, H⟩ := H; (try dsimp only at H); have A8 := Aside0.mk A80; clear A80; have HU9 := Aside0.mk H; clear H; have hcz10_0 : wr.cell? ⟨gb101, 0, none⟩ = some (.slice A0_0 l0_0.length c0_0) := (blk_cell BK101.out 0).trans rfl; have hfz10_0 := blk_frozen BK101.out 0
     go_upto_if 20 with (first | ((with_reducible refine gate_callee (f := 185) rfl ?_); refine goesL_ (some 17) rfl rfl Try.func185 (by kernel_rfl) rfl #[.agg #[.slice A0_0 l0_0.length c0_0], .int .i64 x7_1] rfl Q3 ?_; (with_reducible refine (impl_net_around.calls k1 _ _ l0_0 x7_1 t102 _ ?side1 ?side2 A8.out).mono ?_); (case side1 => exact (Q9 HR0_0 HB)); (case side2 => exact HC0_0.out); rintro e w11 ⟨rfl, hb⟩; refine ⟨_, rfl, ?_⟩; replace BK101 := am (blk_below (g := gb101) (o := .cells #[.slice A0_0 l0_0.length c0_0] 90 (0, 0)) (Q0 BK101) hb); replace HB := am (below_step (Q1 HB) hb); (try clear hb); (try clear hb2); (try clear hk); (try clear hi)))
     (try simp only [Act.put, List.setIfInBounds_toArray, List.set_cons_zero, List.set_cons_succ]); have H := HU9.out; clear HU9
     by_cases c12 : t102 = x7_1
     ·rw [if_pos c12] at H
      have c12b0 := beq_iff_eq.mpr c12; have c12b1 := bne_eq_false_iff_eq.mpr c12; clear c12
      (first | rw [c12b0] | (simp only [i64_w, i32_w]; rw [c12b0]) | rw [c12b1] | skip)
      obtain rfl := Option.some.inj H
      go_wp2
      go_ret
      exact ⟨Q171, Q1 HB⟩
     ·rw [if_neg c12] at H
      have c12b0 := beq_eq_false_iff_ne.mpr c12; have c12b1 := bne_iff_ne.mpr c12
      (first | rw [c12b0] | (simp only [i64_w, i32_w]; rw [c12b0]) | rw [c12b1] | skip)
      have H' := Aside0.mk H; clear H
      go_wp2
      go_roundg k1
      case measure => have := HK1.out; omega
      case rel => exact ⟨(wrap64 (x2_1 - 1)), (t102), Q11, Q11, H', ⟨Q95⟩, ⟨Q0 BK101⟩, ⟨Q1 HB⟩⟩
    ·rw [if_neg c7] at H
     have c7b0 : decide (0 < x2_1) = false := decide_eq_false c7; clear c7; obtain rfl := Option.some.inj H
     go_wp2
     go_ret
     exact ⟨Q171, Q1 HB⟩
 ·rw [if_neg c4] at H
  exact absurd H (by simp)
/-! ### impl_RadiusOf: function 30 -/
mutual
def impl_RadiusOf.j0 : Nat → Bool → Int → List (S71) → Option (Int × Bool)
 | 0, _, _, _ => none
 | k + 1, x14, x102000, x102001 => if x14 = true then (some (0, false)) else ((impl_netOf.f k x102000 x102001).bind fun t103 => (impl_RadiusOf.l0 k x102000 0 x102000 x102001 t103))
def impl_RadiusOf.l0 : Nat → Int → Int → Int → List (S71) → List Int → Option (Int × Bool)
 | 0, _, _, _, _, _ => none
 | k + 1, x18, x19, x102000, x102001, x107000 => if x19 < x18 then (impl_RadiusOf.l1 k x19 x18 x19 x102000 0 x102000 x102001 x107000) else (some (0, false))
def impl_RadiusOf.l1 : Nat → Int → Int → Int → Int → Int → Int → List (S71) → List Int → Option (Int × Bool)
 | 0, _, _, _, _, _, _, _, _ => none
 | k + 1, x5, x18, x19, x23, x24, x102000, x102001, x107000 => if x24 < x23 then ((impl_net_ball.f k x107000 x24 x5).bind fun t107 => ((impl_net_all.f x107000).bind fun t108 => (if t107 = t108 then (some (x5, true)) else (impl_RadiusOf.l1 k x5 x18 x19 x23 (wrap64 (x24 + 1)) x102000 x102001 x107000)))) else (impl_RadiusOf.l0 k x18 (wrap64 (x19 + 1)) x102000 x102001 x107000)
end
def impl_RadiusOf.f (k : Nat) (a0_0 : Int) (l0_1 : List (S71)) : Option (Int × Bool) := (impl_IsGraph.f k a0_0 l0_1).bind fun t102 => (if t102 = true then (impl_RadiusOf.j0 k (a0_0 == 0) a0_0 l0_1) else (impl_RadiusOf.j0 k true a0_0 l0_1))
theorem impl_RadiusOf.mono_l : ∀ k, (∀ y0 y1 y2, LeO (impl_RadiusOf.j0 k y0 y1 y2) (impl_RadiusOf.j0 (k + 1) y0 y1 y2)) ∧ (∀ y0 y1 y2 y3 y4, LeO (impl_RadiusOf.l0 k y0 y1 y2 y3 y4) (impl_RadiusOf.l0 (k + 1) y0 y1 y2 y3 y4)) ∧ (∀ y0 y1 y2 y3 y4 y5 y6 y7, LeO (impl_RadiusOf.l1 k y0 y1 y2 y3 y4 y5 y6 y7) (impl_RadiusOf.l1 (k + 1) y0 y1 y2 y3 y4 y5 y6 y7))
 | 0 => ⟨fun _ _ _ r h => by simp [impl_RadiusOf.j0] at h, fun _ _ _ _ _ r h => by simp [impl_RadiusOf.l0] at h, fun _ _ _ _ _ _ _ _ r h => by simp [impl_RadiusOf.l1] at h⟩
 | k + 1 => by
  obtain ⟨ih0, ih1, ih2⟩ := impl_RadiusOf.mono_l k; refine ⟨?_, ?_, ?_⟩
  all_goals
   intros
   first | unfold impl_RadiusOf.j0 | unfold impl_RadiusOf.l0 | unfold impl_RadiusOf.l1
   repeat' first | (with_reducible first | exact ih0 _ _ _ | exact ih1 _ _ _ _ _ | exact ih2 _ _ _ _ _ _ _ _ | exact impl_IsGraph.mono _ _ _ | exact impl_netOf.mono _ _ _ | exact impl_net_ball.mono _ _ _ _ | exact LeO.refl _ | exact LeO.none _ | refine LeO.ite ?_ ?_ | refine LeO.bind ?_ (fun _ => ?_))
theorem impl_RadiusOf.mono : ∀ a0 a1 k, LeO (impl_RadiusOf.f k a0 a1) (impl_RadiusOf.f (k + 1) a0 a1) := by
 intro a0 a1 k
 obtain ⟨ih0, ih1, ih2⟩ := impl_RadiusOf.mono_l k
 unfold impl_RadiusOf.f
 repeat' first | (with_reducible first | exact ih0 _ _ _ | exact ih1 _ _ _ _ _ | exact ih2 _ _ _ _ _ _ _ _ | exact impl_IsGraph.mono _ _ _ | exact impl_netOf.mono _ _ _ | exact impl_net_ball.mono _ _ _ _ | exact LeO.refl _ | exact LeO.none _ | refine LeO.ite ?_ ?_ | refine LeO.bind ?_ (fun _ => ?_))
set_option maxHeartbeats 8000000 in
set_option maxRecDepth 100000 in
theorem impl_RadiusOf.calls (k : Nat) (a0_0 : Int) (A0_1 : Option Addr) (c0_1 : Nat) (l0_1 : List (S71)) (r1 : Int) (r2 : Bool) (w : World) (hr0_1 : Kd.C k71 w A0_1 l0_1.length l0_1) (hc0_1 : l0_1.length ≤ c0_1) (h : impl_RadiusOf.f k a0_0 l0_1 = some (r1, r2)) :
  Calls Try.prog 30 #[.agg #[.int .i64 a0_0, .slice A0_1 l0_1.length c0_1]] w fun e w' => e = .returned (.tuple #[.int .i64 r1, .bool r2]) ∧ Below w.heap.size w w' := by
 have hu30 := Try.underlying30
 have hu90 := Try.underlying90
 have HR0_1 := Aside0.mk hr0_1
 have HC0_1 := Aside0.mk hc0_1
 clear hr0_1 hc0_1
 have HB := am (Below.refl w.heap.size w)
 have H : ((impl_IsGraph.f k a0_0 l0_1).bind fun t102 => (if t102 = true then (impl_RadiusOf.j0 k (a0_0 == 0) a0_0 l0_1) else (impl_RadiusOf.j0 k true a0_0 l0_1))) = some (r1, r2) := h
 clear h
 have HU2 := Aside0.mk H
 clear H
 go_enter Try.func30, Try.ntmps30
 go_upto_region 1 with (first | ((with_reducible refine gate_dst (N := 1) rfl ?_); refine box_event ?hg (N := 1) ?hd (cs := #[.int .i64 a0_0, .slice A0_1 l0_1.length c0_1]) (t := 30) ?hr ?_; (case hd => rfl); (case hg => rfl); (case hr => first | (go_simp; done) | (go_simp; rfl)); intro gb101 hg w3 hbox hb; have BK101 := am (hbox); have GW101 := am ((Q25 : w.heap.size ≤ gb101)); have GE101 := am ((Q25 : w.heap.size ≤ gb101)); replace HB := am (below_step (Q1 HB) hb); clear hb hbox hg))
 (try simp only [Act.put, List.setIfInBounds_toArray, List.set_cons_zero, List.set_cons_succ])
 have H := HU2.out
 clear HU2
 have HC4 := Aside0.mk H
 clear H
 go_upto_region 1 with (fail)
 go_cut [14] (fun v14 wc => ∃ (kq : Nat) (x14_3 : Bool), v14 = .bool x14_3 ∧ Aside0 (impl_RadiusOf.j0 kq x14_3 a0_0 l0_1 = some (r1, r2)) ∧ Aside0 (kq ≤ k) ∧ Aside0 (wc.heap[gb101]? = some (.cells #[.int .i64 a0_0, (.slice A0_1 l0_1.length c0_1)] 30 (0, 0))) ∧ Aside0 (Below w.heap.size w wc))
 case first =>
  have H := HC4.out; clear HC4; replace H := (ob H); obtain ⟨t102, A50, H⟩ := H; (try dsimp only at H); have A5 := Aside0.mk A50; clear A50
  by_cases c6 : t102 = true
  ·subst c6
   have H1 : (impl_RadiusOf.j0 k (a0_0 == 0) a0_0 l0_1) = some (r1, r2) := by rw [if_pos rfl] at H; exact H
   clear H; have H := H1; clear H1; have H' := Aside0.mk H; clear H; have hcz7_0 : w3.cell? ⟨gb101, 0, none⟩ = some (.int .i64 a0_0) := (blk_cell BK101.out 0).trans rfl; have hcz7_1 : w3.cell? ⟨gb101, 1, none⟩ = some (.slice A0_1 l0_1.length c0_1) := (blk_cell BK101.out 1).trans rfl; have hfz7_0 := blk_frozen BK101.out 0; have hfz7_1 := blk_frozen BK101.out 1
   go_wp2_with (first | ((with_reducible refine gate_callee (f := 71) rfl ?_); refine goesL_ (some 8) rfl rfl Try.func71 (by kernel_rfl) rfl #[.agg #[.int .i64 a0_0, .slice A0_1 l0_1.length c0_1]] rfl Q3 ?_; (with_reducible refine (impl_IsGraph.calls k a0_0 _ _ l0_1 true _ ?side1 ?side2 A5.out).mono ?_); (case side1 => exact (Q9 HR0_1 HB)); (case side2 => exact HC0_1.out); rintro e w8 ⟨rfl, hb⟩; refine ⟨_, rfl, ?_⟩; replace BK101 := am (blk_below (g := gb101) (o := .cells #[.int .i64 a0_0, .slice A0_1 l0_1.length c0_1] 30 (0, 0)) (Q0 BK101) hb); replace HB := am (below_step (Q1 HB) hb); (try clear hb); (try clear hb2); (try clear hk); (try clear hi); have hcz9_0 : w8.cell? ⟨gb101, 0, none⟩ = some (.int .i64 a0_0) := (blk_cell BK101.out 0).trans rfl; have hcz9_1 : w8.cell? ⟨gb101, 1, none⟩ = some (.slice A0_1 l0_1.length c0_1) := (blk_cell BK101.out 1).trans rfl; have hfz9_0 := blk_frozen BK101.out 0; have hfz9_1 := blk_frozen BK101.out 1))
   go_meet
   case rel => exact ⟨_, ((a0_0 == 0)), Q11, H', ⟨Q94⟩, ⟨Q0 BK101⟩, ⟨Q1 HB⟩⟩
  ·replace c6 := Bool.eq_false_iff.mpr c6
   subst c6; have H1 : (impl_RadiusOf.j0 k true a0_0 l0_1) = some (r1, r2) := by rw [if_neg (show ¬ (false = true) by decide)] at H; exact H
   clear H; have H := H1; clear H1; have H' := Aside0.mk H; clear H; have hcz10_0 : w3.cell? ⟨gb101, 0, none⟩ = some (.int .i64 a0_0) := (blk_cell BK101.out 0).trans rfl; have hcz10_1 : w3.cell? ⟨gb101, 1, none⟩ = some (.slice A0_1 l0_1.length c0_1) := (blk_cell BK101.out 1).trans rfl; have hfz10_0 := blk_frozen BK101.out 0; have hfz10_1 := blk_frozen BK101.out 1
   go_wp2_with (first | ((with_reducible refine gate_callee (f := 71) rfl ?_); refine goesL_ (some 8) rfl rfl Try.func71 (by kernel_rfl) rfl #[.agg #[.int .i64 a0_0, .slice A0_1 l0_1.length c0_1]] rfl Q3 ?_; (with_reducible refine (impl_IsGraph.calls k a0_0 _ _ l0_1 false _ ?side1 ?side2 A5.out).mono ?_); (case side1 => exact (Q9 HR0_1 HB)); (case side2 => exact HC0_1.out); rintro e w11 ⟨rfl, hb⟩; refine ⟨_, rfl, ?_⟩; replace BK101 := am (blk_below (g := gb101) (o := .cells #[.int .i64 a0_0, .slice A0_1 l0_1.length c0_1] 30 (0, 0)) (Q0 BK101) hb); replace HB := am (below_step (Q1 HB) hb); (try clear hb); (try clear hb2); (try clear hk); (try clear hi)))
   go_meet
   case rel => exact ⟨_, (true), Q11, H', ⟨Q94⟩, ⟨Q0 BK101⟩, ⟨Q1 HB⟩⟩
 case rest =>
  clear HC4
  try clear p2
  try clear c3
  try clear c6
  try clear c7
  try clear hcz10_0
  try clear hcz10_1
  try clear hcz7_0
  try clear hcz7_1
  try clear hcz9_0
  try clear hcz9_1
  try clear hfz10_0
  try clear hfz10_1
  try clear hfz7_0
  try clear hfz7_1
  try clear hfz9_0
  try clear hfz9_1
  obtain ⟨kq, x14_3, rfl, HA, HJ3, BK101, HB⟩ := hcut
  cases kq with
  | zero => exact absurd HA.out (by simp [impl_RadiusOf.j0])
  | succ kj3 =>
   have H := HA.out; clear HA
   simp only [impl_RadiusOf.j0] at H
   by_cases c12 : x14_3 = true
   ·subst c12
    have H1 : (some (0, false)) = some (r1, r2) := by rw [if_pos rfl] at H; exact H
    clear H; have H := H1; clear H1
    simp only [Option.some.injEq, Prod.mk.injEq] at H
    obtain ⟨rfl, rfl⟩ := H
    go_wp2
    go_ret2
    exact ⟨Q10, Q1 HB⟩
   ·replace c12 := Bool.eq_false_iff.mpr c12
    subst c12; have H1 : ((impl_netOf.f kj3 a0_0 l0_1).bind fun t103 => (impl_RadiusOf.l0 kj3 a0_0 0 a0_0 l0_1 t103)) = some (r1, r2) := by rw [if_neg (show ¬ (false = true) by decide)] at H; exact H
    clear H; have H := H1; clear H1; replace H := (ob H); obtain ⟨t103, A130, H⟩ := H; (try dsimp only at H); have A13 := Aside0.mk A130; clear A130; have H' := Aside0.mk H; clear H; have hcz14_0 : wc.cell? ⟨gb101, 0, none⟩ = some (.int .i64 a0_0) := (blk_cell BK101.out 0).trans rfl; have hcz14_1 : wc.cell? ⟨gb101, 1, none⟩ = some (.slice A0_1 l0_1.length c0_1) := (blk_cell BK101.out 1).trans rfl; have hfz14_0 := blk_frozen BK101.out 0; have hfz14_1 := blk_frozen BK101.out 1
    go_wp2_with (first | ((with_reducible refine gate_callee (f := 101) rfl ?_); refine goesL_ (some 16) rfl rfl Try.func101 (by kernel_rfl) rfl #[.agg #[.int .i64 a0_0, .slice A0_1 l0_1.length c0_1]] rfl Q3 ?_; (with_reducible refine (impl_netOf.calls kj3 a0_0 _ _ l0_1 t103 _ ?side1 ?side2 A13.out).mono ?_); (case side1 => exact (Q9 HR0_1 HB)); (case side2 => exact HC0_1.out); rintro e w15 ⟨v104, rfl, ho0, hb⟩; refine ⟨_, rfl, ?_⟩; have HO105 := am (Kd.R_lower ho0 (below_size (Q1 HB))); replace BK101 := am (blk_below (g := gb101) (o := .cells #[.int .i64 a0_0, .slice A0_1 l0_1.length c0_1] 30 (0, 0)) (Q0 BK101) hb); replace HB := am (below_step (Q1 HB) hb); (try clear hb); (try clear hb2); (try clear hk); (try clear hi); (try clear ho0)) | ((with_reducible refine gate_dst (N := 4) rfl ?_); refine box_event ?hg (N := 4) ?hd (cs := #[.slice none 0 0]) (t := 90) ?hr ?_; (case hd => rfl); (case hg => rfl); (case hr => first | (go_simp; done) | (go_simp; rfl)); intro gb106 hg w16 hbox hb; replace HO105 := am (Kd.R_below (Q6 HO105) hb); have BK106 := am (hbox); have GW106 := am ((Q25 : w.heap.size ≤ gb106)); have GE106 := am ((Q25 : w.heap.size ≤ gb106)); replace HB := am (below_step (Q1 HB) hb); have NB101_106 := am ((Q28 : gb101 ≠ gb106)); have NB106_101 := am ((Q29 : gb106 ≠ gb101)); replace BK101 := am (blk_below (g := gb101) (o := .cells #[.int .i64 a0_0, .slice A0_1 l0_1.length c0_1] 30 (0, 0)) (Q0 BK101) hb); clear hb hbox hg; obtain ⟨Ao17, co17, eo17⟩ := Kd.R_slice HO105.out; subst eo17; have hnb18 := NB106_101.out; have hnc18 := NB101_106.out; have hcz19_0 : w16.cell? ⟨gb106, 0, none⟩ = some (.slice none 0 0) := (blk_cell BK106.out 0).trans rfl; have hfz19_0 := blk_frozen BK106.out 0; have hcz20_0 : w16.cell? ⟨gb101, 0, none⟩ = some (.int .i64 a0_0) := (blk_cell BK101.out 0).trans rfl; have hcz20_1 : w16.cell? ⟨gb101, 1, none⟩ = some (.slice A0_1 l0_1.length c0_1) := (blk_cell BK101.out 1).trans rfl; have hfz20_0 := blk_frozen BK101.out 0; have hfz20_1 := blk_frozen BK101.out 1))
    go_loopg [19] kj3 (fun kq v19 w' => ∃ (x19_2 : Int), v19 = .int .i64 x19_2 ∧ Aside0 (impl_RadiusOf.l0 kq a0_0 x19_2 a0_0 l0_1 t103 = some (r1, r2)) ∧ Aside0 (kq ≤ kj3) ∧ Aside0 (Kd.R (Kd.int .i64) 3 w' w.heap.size (fun _ => True) (.slice Ao17 t103.length co17) t103) ∧ Aside0 (w'.heap[gb101]? = some (.cells #[.int .i64 a0_0, (.slice A0_1 l0_1.length c0_1)] 30 (0, 0))) ∧ Aside0 (w'.heap[gb106]? = some (.cells #[(.slice Ao17 t103.length co17)] 90 (0, 0))) ∧ Aside0 (Below w.heap.size w w'))
    case atStart => exact ⟨(0), Q11, H', ⟨Nat.le_refl _⟩, ⟨by (with_reducible repeat (first | apply Kd.R_alloc | apply Kd.R_drewN | apply Kd.R_drew)); exact Kd.R_mono (Kd.R_far (p := ⟨gb106, 0, none⟩) (Kd.R_types HO105.out BK106.out (by decide)) (fun _ hk => hk.2) (.slice Ao17 t103.length co17)) (fun _ hk => trivial)⟩, ⟨Q27 NB101_106 BK101⟩, ⟨Q67 BK106⟩, ⟨Q5 HB GE106⟩⟩
    case round =>
     clear H'
     try clear c1
     try clear p2
     try clear c3
     try clear c6
     try clear c7
     try clear c10
     try clear c12
     try clear c18
     try clear hcz10_0
     try clear hcz10_1
     try clear hcz14_0
     try clear hcz14_1
     try clear hcz19_0
     try clear hcz20_0
     try clear hcz20_1
     try clear hcz7_0
     try clear hcz7_1
     try clear hcz9_0
     try clear hcz9_1
     try clear hfz10_0
     try clear hfz10_1
     try clear hfz14_0
     try clear hfz14_1
     try clear hfz19_0
     try clear hfz20_0
     try clear hfz20_1
     try clear hfz7_0
     try clear hfz7_1
     try clear hfz9_0
     try clear hfz9_1
     try clear p2
     obtain ⟨x19_2, rfl, HA, HK2, HO_107000, BK101, BK106, HB⟩ := hrel
     cases gk with
     | zero => exact absurd HA.out (by simp [impl_RadiusOf.l0])
     | succ k2 =>
      have H := HA.out; clear HA
      simp only [impl_RadiusOf.l0] at H
      by_cases c21 : x19_2 < a0_0
      ·rw [if_pos c21] at H
       have c21b0 := decide_eq_true c21; clear c21; have H' := Aside0.mk H; clear H; have hnb22 := NB101_106.out; have hnc22 := NB106_101.out; have hcz23_0 : wr.cell? ⟨gb101, 0, none⟩ = some (.int .i64 a0_0) := (blk_cell BK101.out 0).trans rfl; have hcz23_1 : wr.cell? ⟨gb101, 1, none⟩ = some (.slice A0_1 l0_1.length c0_1) := (blk_cell BK101.out 1).trans rfl; have hfz23_0 := blk_frozen BK101.out 0; have hfz23_1 := blk_frozen BK101.out 1
       go_wp2
       go_loopg [24] k2 (fun kq v24 w' => ∃ (x24_3 : Int), v24 = .int .i64 x24_3 ∧ Aside0 (impl_RadiusOf.l1 kq x19_2 a0_0 x19_2 a0_0 x24_3 a0_0 l0_1 t103 = some (r1, r2)) ∧ Aside0 (kq ≤ k2) ∧ Aside0 (Kd.R (Kd.int .i64) 3 w' w.heap.size (fun _ => True) (.slice Ao17 t103.length co17) t103) ∧ Aside0 (w'.heap[gb101]? = some (.cells #[.int .i64 a0_0, (.slice A0_1 l0_1.length c0_1)] 30 (0, 0))) ∧ Aside0 (w'.heap[gb106]? = some (.cells #[(.slice Ao17 t103.length co17)] 90 (0, 0))) ∧ Aside0 (Below w.heap.size w w'))
       case atStart => exact ⟨(0), Q11, H', ⟨Nat.le_refl _⟩, ⟨Q85⟩, ⟨Q0 BK101⟩, ⟨Q0 BK106⟩, ⟨Q1 HB⟩⟩
       case round =>
        clear H'
        try clear c1
        try clear c2
        try clear p2
        try clear c3
        try clear c6
        try clear c7
        try clear c10
        try clear c12
        try clear c18
        try clear c21
        try clear c21b0
        try clear c22
        try clear hcz10_0
        try clear hcz10_1
        try clear hcz14_0
        try clear hcz14_1
        try clear hcz19_0
        try clear hcz20_0
        try clear hcz20_1
        try clear hcz23_0
        try clear hcz23_1
        try clear hcz7_0
        try clear hcz7_1
        try clear hcz9_0
        try clear hcz9_1
        try clear hfz10_0
        try clear hfz10_1
        try clear hfz14_0
        try clear hfz14_1
        try clear hfz19_0
        try clear hfz20_0
        try clear hfz20_1
        try clear hfz23_0
        try clear hfz23_1
        try clear hfz7_0
        try clear hfz7_1
        try clear hfz9_0
        try clear hfz9_1
        try clear p2
        obtain ⟨x24_3, rfl, HA, HK3, HO_107000, BK101, BK106, HB⟩ := hrel
        cases gk with
        | zero => exact absurd HA.out (by simp [impl_RadiusOf.l1])
        | succ k3 =>
         have H := HA.out; clear HA
         simp only [impl_RadiusOf.l1] at H
         by_cases c24 : x24_3 < a0_0
         ·rw [if_pos c24] at H
          have c24b0 := decide_eq_true c24; clear c24; replace H := (ob H); obtain ⟨t107, A250, H⟩ := H; (try dsimp only at H); have A25 := Aside0.mk A250; clear A250; replace H := (ob H); obtain ⟨t108, A260, H⟩ := H; (try dsimp only at H); have A26 := Aside0.mk A260; clear A260; have HU27 := Aside0.mk H; clear H
          try go_wp2
          replace HO_107000 := am (Kd.R_drew HO_107000.out); replace BK101 := am (blk_drew BK101.out); replace BK106 := am (blk_drew BK106.out); replace HB := am (below_drew1 HB.out); refine start_ (n := 7) (S := fun w' => w'.cell? ⟨gb106, 0, none⟩ = some (.slice Ao17 t103.length co17)) (ds := []) #[false, false, false, false, false, false, false] (by kernel_rfl) rfl rfl ((blk_cell BK106.out 0).trans rfl) (fun hHeld => ?_); generalize wr.drew = w28 at HO_107000 BK101 BK106 HB hHeld ⊢; refine pure_ (i := 1) (N := some 28) (v := ?_) (a' := ?_) #[false, true, false, false, false, false, false] rfl rfl (by kernel_rfl) (fun _ _ _ h => h) (Or.inl ⟨by rfl, ?_⟩) ?_ ?_
          rotate_left
          ·intro w'
           go_simp
           with_reducible rfl
          rotate_left
          ·simp only [Act.put, List.setIfInBounds_toArray, List.set_cons_zero, List.set_cons_succ, i64_w, i32_w]
           rfl
          refine pure_ (i := 2) (N := some 29) (v := ?_) (a' := ?_) #[false, true, true, false, false, false, false] rfl rfl (by kernel_rfl) (fun _ _ _ h => h) (Or.inl ⟨by rfl, ?_⟩) ?_ ?_
          rotate_left
          ·intro w'
           go_simp
           with_reducible rfl
          rotate_left
          ·simp only [Act.put, List.setIfInBounds_toArray, List.set_cons_zero, List.set_cons_succ, i64_w, i32_w]
           rfl
          refine take_ (i := 0) (N := some 27) (v := ?_) (a' := ?_) #[true, true, true, false, false, false, false] rfl rfl (by kernel_rfl) (fun _ _ _ h => h) (Or.inl ⟨by rfl, ?_⟩) hHeld ?_ ?_
          rotate_left
          ·intro w' s0
           go_simp
           with_reducible rfl
          rotate_left
          ·simp only [Act.put, List.setIfInBounds_toArray, List.set_cons_zero, List.set_cons_succ, i64_w, i32_w]
           rfl
          refine take_ (i := 4) (N := some 31) (v := ?_) (a' := ?_) #[true, true, true, false, true, false, false] rfl rfl (by kernel_rfl) (fun _ _ _ h => h) (Or.inl ⟨by rfl, ?_⟩) hHeld ?_ ?_
          rotate_left
          ·intro w' s0
           go_simp
           with_reducible rfl
          rotate_left
          ·simp only [Act.put, List.setIfInBounds_toArray, List.set_cons_zero, List.set_cons_succ, i64_w, i32_w]
           rfl
          refine one_ (i := 3) (N := some 30) #[true, true, true, true, true, false, false] rfl rfl (by kernel_rfl) (by decide) (fun K hK => ?_); refine goes_ Try.func116 (by kernel_rfl) rfl #[.agg #[.slice Ao17 t103.length co17], .int .i64 x24_3, .int .i64 x19_2] (by rfl) rfl rfl Q3 ?_
          with_reducible refine (impl_net_ball.calls k3 _ _ t103 x24_3 x19_2 t107 _ ?side1 ?side2 A25.out).mono ?_
          (case side1 => exact Q168)
          (case side2 => exact (Kd.R_reads' HO_107000.out).2.1)
          rintro e w29 ⟨rfl, hb⟩; refine ⟨_, rfl, ?_⟩; replace HO_107000 := am (Kd.R_below Q85 hb); replace BK101 := am (blk_below (g := gb101) (o := .cells #[.int .i64 a0_0, .slice A0_1 l0_1.length c0_1] 30 (0, 0)) (Q0 BK101) hb); replace BK106 := am (blk_below (g := gb106) (o := .cells #[.slice Ao17 t103.length co17] 90 (0, 0)) (Q0 BK106) hb); replace HB := am (below_step (Q1 HB) hb); (try clear hb); (try clear hb2); (try clear hk); (try clear hi); refine hK.out _ _ ((blk_cell BK106.out 0).trans rfl) (fun hHeld => ?_); clear hK K; refine norm_ (a' := ?_) ?_ ?_
          rotate_left
          ·show Act.put _ (some 30) _ = _
           simp only [Act.put, List.setIfInBounds_toArray, List.set_cons_zero, List.set_cons_succ, i64_w, i32_w]
           rfl
          refine one_ (i := 5) (N := some 32) #[true, true, true, true, true, true, false] rfl rfl (by kernel_rfl) (by decide) (fun K hK => ?_); refine goes_ Try.func117 (by kernel_rfl) rfl #[.agg #[.slice Ao17 t103.length co17]] (by rfl) rfl rfl Q3 ?_
          with_reducible refine (impl_net_all.calls _ _ t103 t108 _ ?side1 ?side2 A26.out).mono ?_
          (case side1 => exact Q168)
          (case side2 => exact (Kd.R_reads' HO_107000.out).2.1)
          rintro e w30 ⟨rfl, hb⟩; refine ⟨_, rfl, ?_⟩; replace HO_107000 := am (Kd.R_below Q85 hb); replace BK101 := am (blk_below (g := gb101) (o := .cells #[.int .i64 a0_0, .slice A0_1 l0_1.length c0_1] 30 (0, 0)) (Q0 BK101) hb); replace BK106 := am (blk_below (g := gb106) (o := .cells #[.slice Ao17 t103.length co17] 90 (0, 0)) (Q0 BK106) hb); replace HB := am (below_step (Q1 HB) hb); (try clear hb); (try clear hb2); (try clear hk); (try clear hi); refine hK.out _ _ ((blk_cell BK106.out 0).trans rfl) (fun hHeld => ?_); clear hK K; refine norm_ (a' := ?_) ?_ ?_
          rotate_left
          ·show Act.put _ (some 32) _ = _
           simp only [Act.put, List.setIfInBounds_toArray, List.set_cons_zero, List.set_cons_succ, i64_w, i32_w]
           rfl
          refine pure_ (i := 6) (N := some 33) (v := ?_) (a' := ?_) #[true, true, true, true, true, true, true] rfl rfl (by kernel_rfl) (fun _ _ _ h => h) (Or.inl ⟨by rfl, ?_⟩) ?_ ?_
          rotate_left
          ·intro w'
           go_simp
           with_reducible rfl
          rotate_left
          ·simp only [Act.put, List.setIfInBounds_toArray, List.set_cons_zero, List.set_cons_succ, i64_w, i32_w]
           rfl
          refine done_ (by kernel_rfl) ?_
          go_upto_if 33 with (fail)
          have H := HU27.out; clear HU27
          by_cases c31 : t107 = t108
          ·rw [if_pos c31] at H
           have c31b0 := beq_iff_eq.mpr c31; have c31b1 := bne_eq_false_iff_eq.mpr c31; clear c31
           (first | rw [c31b0] | (simp only [i64_w, i32_w]; rw [c31b0]) | rw [c31b1] | skip)
           simp only [Option.some.injEq, Prod.mk.injEq] at H
           obtain ⟨rfl, rfl⟩ := H
           go_wp2
           go_ret2
           exact ⟨Q10, Q1 HB⟩
          ·rw [if_neg c31] at H
           have c31b0 := beq_eq_false_iff_ne.mpr c31; have c31b1 := bne_iff_ne.mpr c31
           (first | rw [c31b0] | (simp only [i64_w, i32_w]; rw [c31b0]) | rw [c31b1] | skip)
           have H' := Aside0.mk H; clear H
           go_wp2
           go_roundg k3
           case measure => have := HJ3.out; have := HK2.out; have := HK3.out; omega
           case rel => exact ⟨(wrap64 (x24_3 + 1)), Q11, H', ⟨by have := HJ3.out; have := HK2.out; have := HK3.out; omega⟩, ⟨Q85⟩, ⟨Q0 BK101⟩, ⟨Q0 BK106⟩, ⟨Q1 HB⟩⟩
         ·rw [if_neg c24] at H
          have c24b0 := decide_eq_false c24; clear c24; have H' := Aside0.mk H; clear H
          go_wp2
          go_roundg k3
          case measure => have := HJ3.out; have := HK2.out; have := HK3.out; omega
          case rel => exact ⟨(wrap64 (x19_2 + 1)), Q11, H', ⟨by have := HJ3.out; have := HK2.out; have := HK3.out; omega⟩, ⟨Q85⟩, ⟨Q0 BK101⟩, ⟨Q0 BK106⟩, ⟨Q1 HB⟩⟩
      ·rw [if_neg c21] at H
       have c21b0 := decide_eq_false c21; clear c21
       simp only [Option.some.injEq, Prod.mk.injEq] at H
       obtain ⟨rfl, rfl⟩ := H
       go_wp2
       go_ret2
       exact ⟨Q10, Q1 HB⟩
/-! ### impl_net_induced_1: function 191 -/
def impl_net_induced_1.f (a0 : Int) (a1 : Int) (l2_0 : List Int) (l3_0 : List Int) : Option (Bool) := if 0 ≤ a0 then (if a0 < (l3_0.length : Int) then (if 0 ≤ a1 then (if a1 < (l3_0.length : Int) then ((impl_net_has.f l2_0 (rd l3_0 a0) (rd l3_0 a1)).bind fun t103 => (some t103)) else (none)) else (none)) else (none)) else (none)
def impl_net_induced_1.T1 : Bool × List (List Nat × List Nat) := (true, [([], []), ([], []), ([], []), ([1, 2], [1, 2]), ([3], [3]), ([], []), ([], []), ([5, 6], [5, 6]), ([7], [7]), ([0, 4, 8], [0, 4, 8]), ([9, 9, 0, 1, 2, 3, 4, 5, 6, 7, 8, 9], [9])])
def impl_net_induced_1.B1 : List Nat := [0, 0, 0, 6, 14, 0, 0, 96, 224, 511, 1023]
theorem impl_net_induced_1.tab1 : rtab .any (opsOf Try.f191 1) = impl_net_induced_1.T1 := by kernel_rfl
theorem impl_net_induced_1.bits1 : waitsOk impl_net_induced_1.T1.2 impl_net_induced_1.B1 = true := by kernel_rfl
set_option maxHeartbeats 8000000 in
set_option maxRecDepth 100000 in
theorem impl_net_induced_1.calls (a0 : Int) (a1 : Int) (g2 : Nat) (A2_0 : Option Addr) (c2_0 : Nat) (l2_0 : List Int) (g3 : Nat) (A3_0 : Option Addr) (c3_0 : Nat) (l3_0 : List Int) (r : Bool) (w : World) (hr2_0 : Kd.C (Kd.int .i64) w A2_0 l2_0.length l2_0) (hc2_0 : l2_0.length ≤ c2_0) (hr3_0 : Kd.C (Kd.int .i64) w A3_0 l3_0.length l3_0) (hc3_0 : l3_0.length ≤ c3_0) (hb2 : w.heap[g2]? = some (.cells #[.slice A2_0 l2_0.length c2_0] 90 (0, 0))) (hb3 : w.heap[g3]? = some (.cells #[.slice A3_0 l3_0.length c3_0] 25 (0, 0))) (h : impl_net_induced_1.f a0 a1 l2_0 l3_0 = some r) :
  Calls Try.prog 191 #[.int .i64 a0, .int .i64 a1, .pointer (some ⟨g2, 0, none⟩), .pointer (some ⟨g3, 0, none⟩)] w fun e w' => e = .returned (.bool r) ∧ Below w.heap.size w w' := by
 have hu90 := Try.underlying90
 have HR2_0 := Aside0.mk hr2_0
 have HC2_0 := Aside0.mk hc2_0
 clear hr2_0 hc2_0
 have HR3_0 := Aside0.mk hr3_0
 have HC3_0 := Aside0.mk hc3_0
 clear hr3_0 hc3_0
 have BK2 := Aside0.mk hb2
 clear hb2
 have BK3 := Aside0.mk hb3
 clear hb3
 have NB3_2 := am (show g3 ≠ g2 from fun e_ => by have h_ := BK3.out; rw [e_] at h_; have h2_ := h_.symm.trans BK2.out; simp at h2_)
 have NB2_3 := am (show g2 ≠ g3 from fun e_ => by have h_ := BK2.out; rw [e_] at h_; have h2_ := h_.symm.trans BK3.out; simp at h2_)
 have HB := am (Below.refl w.heap.size w)
 have H : (if 0 ≤ a0 then (if a0 < (l3_0.length : Int) then (if 0 ≤ a1 then (if a1 < (l3_0.length : Int) then ((impl_net_has.f l2_0 (rd l3_0 a0) (rd l3_0 a1)).bind fun t103 => (some t103)) else (none)) else (none)) else (none)) else (none)) = some r := h
 clear h
 by_cases c5 : 0 ≤ a0
 ·rw [if_pos c5] at H
  have c5b0 := decide_eq_true c5; clear c5
  by_cases c6 : a0 < (l3_0.length : Int)
  ·rw [if_pos c6] at H
   have c6b0 := decide_eq_true c6; clear c6
   by_cases c7 : 0 ≤ a1
   ·rw [if_pos c7] at H
    have c7b0 := decide_eq_true c7; clear c7
    by_cases c8 : a1 < (l3_0.length : Int)
    ·rw [if_pos c8] at H
     have c8b0 := decide_eq_true c8; clear c8; replace H := (ob H); obtain ⟨t103, A90, H⟩ := H; (try dsimp only at H); have A9 := Aside0.mk A90; clear A90; obtain rfl := Option.some.inj H
     go_enter Try.func191, Try.ntmps191
     try go_wp2
     replace BK2 := am (blk_drew BK2.out); replace BK3 := am (blk_drew BK3.out); replace HB := am (below_drew1 HB.out); have p101 : 0 ≤ (a0 : Int) := of_decide_eq_true Q12; have q101 : a0 < (l3_0.length : Int) := of_decide_eq_true Q12; obtain ⟨ad101, e101, hx101_0⟩ := Kd.at_int HR3_0.out a0 p101 q101; have hw101_0 := hx101_0
     cases e101
     replace hx101_0 := (HB.out.cell (World.block_lt_of_cell? w _ hx101_0)).trans hx101_0; replace p101 := eq_true p101; replace q101 := eq_true q101; have p102 : 0 ≤ (a1 : Int) := of_decide_eq_true Q12; have q102 : a1 < (l3_0.length : Int) := of_decide_eq_true Q12; obtain ⟨ad102, e102, hx102_0⟩ := Kd.at_int HR3_0.out a1 p102 q102; have hw102_0 := hx102_0; obtain rfl : ad101 = ad102 := (by injection e102); replace hx102_0 := (HB.out.cell (World.block_lt_of_cell? w _ hx102_0)).trans hx102_0; replace p102 := eq_true p102; replace q102 := eq_true q102; refine start_ (n := 11) (S := fun w' => w'.cell? ⟨g2, 0, none⟩ = some (.slice A2_0 l2_0.length c2_0) ∧ w'.cell? ⟨g3, 0, none⟩ = some (.slice (some ad101) l3_0.length c3_0) ∧ w'.cell? (ad101.add (a0).toNat) = some (.int .i64 (rd l3_0 a0)) ∧ w'.cell? (ad101.add (a1).toNat) = some (.int .i64 (rd l3_0 a1))) (ds := []) #[false, false, false, false, false, false, false, false, false, false, false] (by kernel_rfl) rfl rfl ⟨(blk_cell BK2.out 0).trans rfl, (blk_cell BK3.out 0).trans rfl, ((HB.out.cell (World.block_lt_of_cell? w _ hw101_0)).trans hw101_0), ((HB.out.cell (World.block_lt_of_cell? w _ hw102_0)).trans hw102_0)⟩ (fun hHeld => ?_); refine with_tabW impl_net_induced_1.tab1 impl_net_induced_1.bits1 (fun HT_ HW_ => ?_); generalize w.drew = w10 at BK2 BK3 HB hx101_0 hx102_0 hHeld ⊢; refine pq 2 9 rfl rfl HT_ ?_; refine pq 6 13 rfl rfl HT_ ?_; refine tq4 0 7 rfl rfl HT_ HW_ hHeld ?_; refine tq4 1 8 rfl rfl HT_ HW_ hHeld ?_; refine pq 3 10 rfl rfl HT_ ?_; refine tq4 4 11 rfl rfl HT_ HW_ hHeld ?_; refine tq4 5 12 rfl rfl HT_ HW_ hHeld ?_; refine pq 7 14 rfl rfl HT_ ?_; refine tq4 8 15 rfl rfl HT_ HW_ hHeld ?_; refine oq 9 16 rfl rfl HT_ (fun K hK => ?_); refine goes_ Try.func136 (by kernel_rfl) rfl #[.agg #[.slice A2_0 l2_0.length c2_0], .int .i64 (rd l3_0 a0), .int .i64 (rd l3_0 a1)] (by rfl) rfl rfl Q3 ?_
     with_reducible refine (impl_net_has.calls _ _ l2_0 (rd l3_0 a0) (rd l3_0 a1) t103 _ ?side1 ?side2 A9.out).mono ?_
     (case side1 => exact (Q9 HR2_0 HB))
     (case side2 => exact HC2_0.out)
     rintro e w11 ⟨rfl, hb⟩; refine ⟨_, rfl, ?_⟩; replace BK2 := am (blk_below (g := g2) (o := .cells #[.slice A2_0 l2_0.length c2_0] 90 (0, 0)) (Q0 BK2) hb); replace BK3 := am (blk_below (g := g3) (o := .cells #[.slice (some ad101) l3_0.length c3_0] 25 (0, 0)) (Q0 BK3) hb); replace HB := am (below_step (Q1 HB) hb); (try clear hb); (try clear hb2); (try clear hk); (try clear hi); refine hK.out _ _ ⟨(blk_cell BK2.out 0).trans rfl, (blk_cell BK3.out 0).trans rfl, ((HB.out.cell (World.block_lt_of_cell? w _ hw101_0)).trans hw101_0), ((HB.out.cell (World.block_lt_of_cell? w _ hw102_0)).trans hw102_0)⟩ (fun hHeld => ?_); clear hK K; refine norm_ (a' := ?_) ?_ ?_
     rotate_left
     ·show Act.put _ (some 16) _ = _
      simp only [Act.put, List.setIfInBounds_toArray, List.set_cons_zero, List.set_cons_succ, i64_w, i32_w]
      rfl
     refine pq 10 6 rfl rfl HT_ ?_; refine done_ (done_of HT_.out (by kernel_rfl)) ?_
     try go_wp2
     go_ret
     exact ⟨Q10, Q1 HB⟩
    ·rw [if_neg c8] at H
     exact absurd H (by simp)
   ·rw [if_neg c7] at H
    exact absurd H (by simp)
  ·rw [if_neg c6] at H
   exact absurd H (by simp)
 ·rw [if_neg c5] at H
  exact absurd H (by simp)
/-! ### impl_graphBy_induced -/
def impl_graphBy_induced.c (near : List Int) (set : List Int) (x y : Int) : Option Bool := impl_net_induced_1.f x y near set
def impl_graphBy_induced.f (k : Nat) (a0 : Int) (near : List Int) (set : List Int) : Option (Int × List (S71)) := if (0 ≤ a0 ∧ a0 ≤ 1000) ∧ okBy (impl_graphBy_induced.c near set) a0 = true then (impl_graphBy.f k (fun x y => (impl_graphBy_induced.c near set x y).getD false) a0).map (fun es => (a0, es)) else none
theorem impl_graphBy_induced.mono : ∀ a0 near set k, LeO (impl_graphBy_induced.f k a0 near set) (impl_graphBy_induced.f (k + 1) a0 near set) := by
 intro a0 near set k
 unfold impl_graphBy_induced.f
 exact LeO.ite (LeO.map _ (impl_graphBy.mono _ _ _)) (LeO.refl _)
theorem impl_graphBy_induced.calls (k : Nat) (a0 : Int) (g0_ : Nat) (g1_ : Nat) (Anear : Option Addr) (cnear : Nat) (near : List Int) (Aset : Option Addr) (cset : Nat) (set : List Int) (r1 : Int) (r2 : List (S71)) (w : World) (hrnear : Kd.C (Kd.int .i64) w Anear near.length near) (hcnear : near.length ≤ cnear) (hrset : Kd.C (Kd.int .i64) w Aset set.length set) (hcset : set.length ≤ cset) (hb0 : w.heap[g0_]? = some (.cells #[.slice Anear near.length cnear] 90 (0, 0))) (hb1 : w.heap[g1_]? = some (.cells #[.slice Aset set.length cset] 25 (0, 0))) (h : impl_graphBy_induced.f k a0 near set = some (r1, r2)) :
  Calls Try.prog 108 #[.int .i64 a0, .func (.func 191) #[] #[.pointer (some ⟨g0_, 0, none⟩), .pointer (some ⟨g1_, 0, none⟩)]] w fun e w' => ∃ v1_ : Value, e = .returned (.agg #[.int .i64 r1, v1_]) ∧ Kd.R k71 71 w' w.heap.size (fun _ => True) v1_ r2 ∧ Below w.heap.size w w' := by
 unfold impl_graphBy_induced.f at h
 by_cases hc : (0 ≤ a0 ∧ a0 ≤ 1000) ∧ okBy (impl_graphBy_induced.c near set) a0 = true
 ·rw [if_pos hc] at h
  obtain ⟨es, hes, he⟩ := Option.map_eq_some_iff.1 h
  simp only [Prod.mk.injEq] at he
  obtain ⟨rfl, rfl⟩ := he; refine impl_graphBy.gen k _ a0 191 #[] #[.pointer (some ⟨g0_, 0, none⟩), .pointer (some ⟨g1_, 0, none⟩)] es w hc.1 ⟨_, Try.func191, by kernel_rfl, rfl⟩ (fun x y W hx hxy hy hb => ?_) hes; refine (show Calls Try.prog 191 #[.int .i64 x, .int .i64 y, .pointer (some ⟨g0_, 0, none⟩), .pointer (some ⟨g1_, 0, none⟩)] W _ from ?_); refine (impl_net_induced_1.calls x y g0_ Anear cnear near g1_ Aset cset set _ W (Kd.C_below hrnear hb) hcnear (Kd.C_below hrset hb) hcset (blk_below hb0 hb) (blk_below hb1 hb) (show impl_net_induced_1.f x y near set = some _ from okBy_spec (c := impl_graphBy_induced.c near set) hc.2 hx hxy hy)).mono ?_; rintro e W' ⟨he, hd⟩; exact ⟨he, hd⟩
 ·rw [if_neg hc] at h
  cases h
end Go.Proofs.Ytcjddikalgnhpaa.P
