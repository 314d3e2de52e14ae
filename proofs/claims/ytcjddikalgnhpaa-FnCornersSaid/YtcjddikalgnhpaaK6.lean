/- Functions of the program as Lean functions, that each call comes to what they say, and what holds of them; part 6 of 8; no conditions beyond those that each theorem names. -/
import Derived.Test.YtcjddikalgnhpaaK1
import Derived.Test.YtcjddikalgnhpaaK2
import Derived.Test.YtcjddikalgnhpaaK3
import Derived.Test.YtcjddikalgnhpaaK4
import Derived.Test.YtcjddikalgnhpaaK5
namespace Go.Proofs.Ytcjddikalgnhpaa.P
open Go.RowKit Go.Proofs.YtcjddikalgnhpaaW.PrintWords Go.Proofs.YtcjddikalgnhpaaW.PrintLast Go.Proofs.YtcjddikalgnhpaaW.PrintMore
attribute [local go_sem] max2_int min2_int max_two min_two max_three min_three max_four min_four   -- for this text's walks alone
set_option linter.unusedVariables false
set_option linter.unusedSimpArgs false
/-! ### spec_DrawIsCorner: function 48 -/
def spec_DrawIsCorner.j0 : Nat → List Int → Bool → List Int → Int → Int → Int → List (S71) → Option (Int × (List (S71)) × List Int × Int × Int × Int)
 | 0, _, _, _, _, _, _, _ => none
 | k + 1, x7, x23, x1000, x1001, x1002, x109000, x109001 => if x23 = true then ((spec_l1Cur_pick.f x1000 x1001 x1002 (x7.length : Int)).bind fun bt117 => (if 0 ≤ bt117.1 then (if bt117.1 < (x7.length : Int) then (some (x109000, x109001, x7, rd x7 bt117.1, bt117.2.1, bt117.2.2)) else (none)) else (none))) else ((spec_l1Cur_node.f k x1000 x1001 x1002 x109000 x109001).bind fun bt121 => (some (x109000, x109001, x7, bt121.1, bt121.2.1, bt121.2.2)))
def spec_DrawIsCorner.st (k : Nat) (s0_0 : List Int) (s0_1 : Int) (s0_2 : Int) : Option (Int × (List (S71)) × List Int × Int × Int × Int) := (spec_l1Cur_field3.f k s0_0 s0_1 s0_2).bind fun bt102 => ((spec_l1Cur_nodes.f k s0_0 bt102.2.2.1 bt102.2.2.2 bt102.1 bt102.2.1).bind fun bt109 => (if (bt109.1.length : Int) > 0 then ((spec_l1Cur_one.f s0_0 bt109.2.1 bt109.2.2 8).bind fun bt114 => (spec_DrawIsCorner.j0 k bt109.1 (!bt114.1) s0_0 bt114.2.1 bt114.2.2 bt102.1 bt102.2.1)) else (spec_DrawIsCorner.j0 k bt109.1 false s0_0 bt109.2.1 bt109.2.2 bt102.1 bt102.2.1)))
theorem spec_DrawIsCorner.mono_l : ∀ k, (∀ y0 y1 y2 y3 y4 y5 y6, LeO (spec_DrawIsCorner.j0 k y0 y1 y2 y3 y4 y5 y6) (spec_DrawIsCorner.j0 (k + 1) y0 y1 y2 y3 y4 y5 y6))
 | 0 => fun _ _ _ _ _ _ _ r h => by simp [spec_DrawIsCorner.j0] at h
 | k + 1 => by
  have ih0 := spec_DrawIsCorner.mono_l k
  all_goals
   intros
   first | unfold spec_DrawIsCorner.j0
   repeat' first | (with_reducible first | exact ih0 _ _ _ _ _ _ _ | exact spec_l1Cur_field3.mono _ _ _ _ | exact spec_l1Cur_node.mono _ _ _ _ _ _ | exact spec_l1Cur_nodes.mono _ _ _ _ _ _ | exact LeO.refl _ | exact LeO.none _ | refine LeO.ite ?_ ?_ | refine LeO.bind ?_ (fun _ => ?_))
theorem spec_DrawIsCorner.stmono : ∀ a0 a1 a2 k, LeO (spec_DrawIsCorner.st k a0 a1 a2) (spec_DrawIsCorner.st (k + 1) a0 a1 a2) := by
 intro a0 a1 a2 k
 have ih0 := spec_DrawIsCorner.mono_l k
 unfold spec_DrawIsCorner.st
 repeat' first | (with_reducible first | exact ih0 _ _ _ _ _ _ _ | exact spec_l1Cur_field3.mono _ _ _ _ | exact spec_l1Cur_node.mono _ _ _ _ _ _ | exact spec_l1Cur_nodes.mono _ _ _ _ _ _ | exact LeO.refl _ | exact LeO.none _ | refine LeO.ite ?_ ?_ | refine LeO.bind ?_ (fun _ => ?_))
def spec_DrawIsCorner.T5 : Bool × List (List Nat × List Nat) := (true, [([], []), ([], []), ([], []), ([], []), ([], []), ([4], [4]), ([3, 5], [3, 5]), ([2, 6], [2, 6]), ([7], [7]), ([0, 6, 0], [0]), ([1, 9, 0, 1, 9], [1]), ([8, 10, 0, 1, 2, 3, 4, 5, 6, 7, 8, 9, 10], [8])])
def spec_DrawIsCorner.B5 : List Nat := [0, 0, 0, 0, 0, 16, 56, 124, 252, 121, 635, 2047]
theorem spec_DrawIsCorner.tab5 : rtab .any (opsOf Try.f48 5) = spec_DrawIsCorner.T5 := by kernel_rfl
theorem spec_DrawIsCorner.bits5 : waitsOk spec_DrawIsCorner.T5.2 spec_DrawIsCorner.B5 = true := by kernel_rfl
def spec_DrawIsCorner.T6 : Bool × List (List Nat × List Nat) := (true, [([], []), ([], []), ([], []), ([], []), ([2, 3], [2, 3]), ([0, 4, 0], [0]), ([1, 5, 0, 1, 5], [1]), ([4, 6, 0, 1, 2, 3, 4, 5, 6], [4])])
def spec_DrawIsCorner.B6 : List Nat := [0, 0, 0, 0, 12, 29, 63, 127]
theorem spec_DrawIsCorner.tab6 : rtab .any (opsOf Try.f48 6) = spec_DrawIsCorner.T6 := by kernel_rfl
theorem spec_DrawIsCorner.bits6 : waitsOk spec_DrawIsCorner.T6.2 spec_DrawIsCorner.B6 = true := by kernel_rfl
set_option maxHeartbeats 8000000 in
set_option maxRecDepth 100000 in
theorem spec_DrawIsCorner.callsM (k : Nat) (A0 : Option Addr) (c0 : Nat) (s0_0 : List Int) (r1 : Int) (r2 : List (S71)) (r3 : List Int) (r4 : Int) (r5 : Int) (r6 : Int) (w0 : World) (hr0 : Kd.C (Kd.int .u8) w0 A0 s0_0.length s0_0) (hc0 : s0_0.length ≤ c0) (h : spec_DrawIsCorner.st k s0_0 0 0 = some (r1, r2, r3, r4, r5, r6)) :
  Calls Try.prog 48 #[.slice A0 s0_0.length c0] w0 fun e w' => ∃ (g_ : Nat) (w_ : World), w0.heap.size ≤ w_.heap.size ∧ (∃ v1_ v2_ : Value, e = .returned (.tuple #[.agg #[.int .i64 r1, v1_], v2_, .int .i64 r4]) ∧ Kd.R k71 71 w' w_.heap.size (fun _ => True) v1_ r2 ∧ Kd.R (Kd.int .i64) 3 w' w_.heap.size (fun _ => True) v2_ r3 ∧ IsS96 w0 w' g_ s0_0 r5 r6 ∧ Below w0.heap.size w0 w' ∧ KeepBut w_ w' g_ none) := by
 have HR0 := Aside0.mk hr0
 have HC0 := Aside0.mk hc0
 clear hr0 hc0
 have HB := am (Below.refl w0.heap.size w0)
 obtain ⟨w, hw0_⟩ : ∃ w : World, w = w0 := ⟨_, rfl⟩
 have HW0 := am (show w0.heap.size ≤ w.heap.size by rw [hw0_]; exact Nat.le_refl _)
 have HL := HW0
 replace hw0_ := Aside0.mk hw0_
 have H : ((spec_l1Cur_field3.f k s0_0 0 0).bind fun bt102 => ((spec_l1Cur_nodes.f k s0_0 bt102.2.2.1 bt102.2.2.2 bt102.1 bt102.2.1).bind fun bt109 => (if (bt109.1.length : Int) > 0 then ((spec_l1Cur_one.f s0_0 bt109.2.1 bt109.2.2 8).bind fun bt114 => (spec_DrawIsCorner.j0 k bt109.1 (!bt114.1) s0_0 bt114.2.1 bt114.2.2 bt102.1 bt102.2.1)) else (spec_DrawIsCorner.j0 k bt109.1 false s0_0 bt109.2.1 bt109.2.2 bt102.1 bt102.2.1)))) = some (r1, r2, r3, r4, r5, r6) := h
 clear h
 replace H := (ob H)
 obtain ⟨⟨t102, t103, t106, t107⟩, A20, H⟩ := H
 (try dsimp only at H)
 have A2 := Aside0.mk A20
 clear A20
 replace H := (ob H)
 obtain ⟨⟨t109, t112, t113⟩, A30, H⟩ := H
 (try dsimp only at H)
 have A3 := Aside0.mk A30
 clear A30
 have HU4 := Aside0.mk H
 clear H
 go_enter Try.func48, Try.ntmps48
 go_upto_region 4 with (first | ((with_reducible refine gate_dst (N := 10) rfl ?_); refine box_event ?hg (N := 10) ?hd (cs := #[.slice A0 s0_0.length c0, .int .i64 0, .int .u64 0]) (t := 96) ?hr ?_; (case hd => rfl); (case hg => rfl); (case hr => first | (go_simp; done) | (go_simp; rfl)); intro g hg wS_ hbox hb; have HI0 := am (show IsS96 w0 wS_ g s0_0 0 0 from ⟨A0, c0, hbox, Q25, HR0.out⟩); replace HB := am (below_step (Q0 HB) hb); have NB0_101 := am (Q47 : g ≠ gb101); have NB101_0 := am (Q46 : gb101 ≠ g); replace BK101 := am (blk_below (g := gb101) (o := .cells #[.int .i64 0, .slice none 0 0] 30 (0, 0)) (Q1 BK101) hb); clear hb hbox hg; have HK := am (show KeepBut w wS_ g none from by rw [hw0_.out]; exact KeepBut.of_below HB.out g none)) | ((with_reducible refine gate_dst (N := 2) rfl ?_); refine box_event ?hg (N := 2) ?hd (cs := #[.int .i64 0, .slice none 0 0]) (t := 30) ?hr ?_; (case hd => rfl); (case hg => rfl); (case hr => first | (go_simp; done) | (go_simp; rfl)); intro gb101 hg w5 hbox hb; have n2_ := am (below_step (Q0 HB) hb); have n3_ := Aside0.mk hbox; have n4_ := am ((by rw [hg, hw0_.out]; exact (below_size (Q0 HB))) : w.heap.size ≤ gb101); have n5_ := am (Q25 : w0.heap.size ≤ gb101); replace HB := n2_; have BK101 := n3_; have GW101 := n4_; have GE101 := n5_; clear n2_ n3_ n4_ n5_; clear hb hbox hg) | ((with_reducible refine gate_callee (f := 139) rfl ?_); refine goesL_ (some 12) rfl rfl Try.func139 (by kernel_rfl) rfl #[.pointer (some ⟨g, 0, none⟩)] rfl Q3 ?_; (with_reducible refine (spec_l1Cur_field3.calls k g s0_0 0 0 t102 t103 t106 t107 w0 _ ?side1 ?side2 A2.out).mono ?_); (case side1 => exact (Q8 HI0 NB0_101)); (case side2 => exact (Q5 HB HI0)); rintro e w6 ⟨v104, rfl, ho0, hi, hb, hk⟩; refine ⟨_, rfl, ?_⟩; replace BK101 := am (KeepBut.blk hk (g' := gb101) (o := .cells #[.int .i64 0, .slice none 0 0] 30 (0, 0)) (Q1 BK101) NB101_0.out (by simp)); have HO105 := am (Kd.R_lower ho0 (keep_size (w := w) (g := g) (row := none) (Q9 HK GW101))); replace HK := am (KeepBut.trans (Q9 HK GW101) hk (.inl rfl)); replace HB := am (hb); replace HI0 := am (hi); (try clear hb); (try clear hb2); (try clear hk); (try clear hi); (try clear ho0)) | ((with_reducible refine gate_dst (N := 6) rfl ?_); refine box_event ?hg (N := 6) ?hd (cs := #[.int .i64 0, .slice none 0 0]) (t := 30) ?hr ?_; (case hd => rfl); (case hg => rfl); (case hr => first | (go_simp; done) | (go_simp; rfl)); intro gb108 hg w7 hbox hb; replace HO105 := am (Kd.R_below (Q2 HO105) hb); replace HB := am (below_step (Q5 HB HI0) hb); have BK108 := am (hbox); have GW108 := am ((Q64 : w.heap.size ≤ gb108)); have GE108 := am ((Nat.le_trans HW0.out (Q64 : w.heap.size ≤ gb108) : w0.heap.size ≤ gb108)); replace HK := am (KeepBut.trans (Q9 HK GW101) (KeepBut.of_below hb g none) (.inl rfl)); have NB101_108 := am ((Q46 : gb101 ≠ gb108)); have NB108_101 := am ((Q47 : gb108 ≠ gb101)); replace BK101 := am (blk_below (g := gb101) (o := .cells #[.int .i64 0, .slice none 0 0] 30 (0, 0)) (Q1 BK101) hb); have NB0_108 := am ((by rw [hg]; exact Nat.ne_of_lt (IsS96.lt (show IsS96 w0 _ g s0_0 t106 t107 from Q8 HI0 NB0_101)) : g ≠ gb108)); have NB108_0 := am ((by rw [hg]; exact Nat.ne_of_gt (IsS96.lt (show IsS96 w0 _ g s0_0 t106 t107 from Q8 HI0 NB0_101)) : gb108 ≠ g)); replace HI0 := am (IsS96.below (Q8 HI0 NB0_101) hb); clear hb hbox hg; have hnb8 := NB108_101.out; have hnc8 := NB101_108.out; have hnb9 := NB108_0.out; have hnc9 := NB0_108.out; have hcz10_0 : w7.cell? ⟨gb108, 0, none⟩ = some (.int .i64 0) := (blk_cell BK108.out 0).trans rfl; have hcz10_1 : w7.cell? ⟨gb108, 1, none⟩ = some (.slice none 0 0) := (blk_cell BK108.out 1).trans rfl; have hfz10_0 := blk_frozen BK108.out 0; have hfz10_1 := blk_frozen BK108.out 1; obtain ⟨Ao11, co11, eo11⟩ := Kd.R_slice HO105.out; subst eo11) | ((with_reducible refine gate_callee (f := 140) rfl ?_); refine goesL_ (some 15) rfl rfl Try.func140 (by kernel_rfl) rfl #[.pointer (some ⟨g, 0, none⟩), .agg #[.int .i64 t102, .slice Ao11 t103.length co11]] rfl Q3 ?_; (with_reducible refine (spec_l1Cur_nodes.calls k g s0_0 t106 t107 t102 _ _ t103 t109 t112 t113 w0 _ ?side1 ?side2 ?side3 ?side4 A3.out).mono ?_); (case side1 => exact (Q4 HI0 NB0_101 NB0_108)); (case side2 => exact (Q17 HB HI0 GE108)); (case side3 => exact Kd.C_foot_own (IsS96.apart (show IsS96 w0 _ g s0_0 t106 t107 from Q4 HI0 NB0_101 NB0_108) (Q86 HO105 BK108) (by decide)) (fun _ h_ => h_.2)); (case side4 => exact (Kd.R_reads' HO105.out).2.1); rintro e w12 ⟨v110, rfl, ho0, hi, hb, hk⟩; refine ⟨_, rfl, ?_⟩; replace BK101 := am (KeepBut.blk hk (g' := gb101) (o := .cells #[.int .i64 0, .slice none 0 0] 30 (0, 0)) (Q12 NB101_108 BK101) NB101_0.out (by simp)); replace HO105 := am (Kd.R_mono (Kd.R_keep (IsS96.apart (show IsS96 w0 _ g s0_0 t106 t107 from Q4 HI0 NB0_101 NB0_108) (Q86 HO105 BK108) (by decide)) hk (fun _ h => h.2)) (fun _ h => h.1)); replace BK108 := am (KeepBut.blk hk (g' := gb108) (o := .cells #[.int .i64 t102, .slice Ao11 t103.length co11] 30 (0, 0)) (Q27 BK108) NB108_0.out (by simp)); have HO111 := am (Kd.R_lower ho0 (keep_size (w := w) (g := g) (row := none) (Q6 HK GW101 GW108))); replace HK := am (KeepBut.trans (Q6 HK GW101 GW108) hk (.inl rfl)); replace HB := am (hb); replace HI0 := am (hi); (try clear hb); (try clear hb2); (try clear hk); (try clear hi); (try clear ho0)))
 (try simp only [Act.put, List.setIfInBounds_toArray, List.set_cons_zero, List.set_cons_succ])
 have H := HU4.out
 clear HU4
 have HC13 := Aside0.mk H
 clear H
 go_upto_region 4 with (fail)
 go_cut [23] (fun v23 wc => ∃ (kq : Nat) (x23_12 : Bool) (x1001_12 : Int) (x1002_12 : Int), v23 = .bool x23_12 ∧ Aside0 (spec_DrawIsCorner.j0 kq t109 x23_12 s0_0 x1001_12 x1002_12 t102 t103 = some (r1, r2, r3, r4, r5, r6)) ∧ Aside0 (kq ≤ k) ∧ Aside0 (Kd.R (Kd.int .i64) 3 wc w.heap.size (fun _ => True) v110 t109) ∧ Aside0 (Kd.R k71 71 wc w.heap.size (fun _ => True) (.slice Ao11 t103.length co11) t103) ∧ Aside0 (wc.heap[gb101]? = some (.cells #[.int .i64 0, (.slice none 0 0)] 30 (0, 0))) ∧ Aside0 (wc.heap[gb108]? = some (.cells #[.int .i64 t102, (.slice Ao11 t103.length co11)] 30 (0, 0))) ∧ Aside0 (IsS96 w0 wc g s0_0 x1001_12 x1002_12) ∧ Aside0 (KeepBut w wc g none) ∧ Aside0 (Below w0.heap.size w0 wc))
 case first =>
  have H := HC13.out; clear HC13
  by_cases c14 : (t109.length : Int) > 0
  ·rw [if_pos c14] at H
   have c14b0 : decide (0 < (t109.length : Int)) = true := decide_eq_true c14; have c14b1 : decide (0 < t109.length) = true := decide_eq_true (by omega); clear c14
   (first | rw [c14b0] | (simp only [i64_w, i32_w]; rw [c14b0]) | rw [c14b1] | skip)
   replace H := (ob H); obtain ⟨⟨t114, t115, t116⟩, A150, H⟩ := H; (try dsimp only at H); have A15 := Aside0.mk A150; clear A150; have H' := Aside0.mk H; clear H; obtain ⟨Ao16, co16, eo16⟩ := Kd.R_slice HO111.out; subst eo16
   go_wp2_with (first | (go_at_call 129; (with_reducible refine (spec_l1Cur_one.calls g s0_0 t112 t113 8 t114 t115 t116 w0 _ ?side1 ?side2 A15.out).mono ?_); (case side1 => exact (Q4 HI0 NB0_101 NB0_108)); (case side2 => exact (Q5 HB HI0)); rintro e w17 ⟨rfl, hi, hb, hk⟩; replace BK101 := am (KeepBut.blk hk (g' := gb101) (o := .cells #[.int .i64 0, .slice none 0 0] 30 (0, 0)) (Q1 BK101) NB101_0.out (by simp)); replace HO105 := am (Kd.R_mono (Kd.R_keep (IsS96.apart (show IsS96 w0 _ g s0_0 t112 t113 from Q4 HI0 NB0_101 NB0_108) (Q2 HO105) (by decide)) hk (fun _ h => h.2)) (fun _ h => h.1)); replace BK108 := am (KeepBut.blk hk (g' := gb108) (o := .cells #[.int .i64 t102, .slice Ao11 t103.length co11] 30 (0, 0)) (Q1 BK108) NB108_0.out (by simp)); replace HO111 := am (Kd.R_mono (Kd.R_keep (IsS96.apart (show IsS96 w0 _ g s0_0 t112 t113 from Q4 HI0 NB0_101 NB0_108) (Q2 HO111) (by decide)) hk (fun _ h => h.2)) (fun _ h => h.1)); replace HK := am (KeepBut.trans (Q6 HK GW101 GW108) hk (.inl rfl)); replace HB := am (hb); replace HI0 := am (hi); (try clear hb); (try clear hb2); (try clear hk); (try clear hi)))
   go_meet
   case rel => exact ⟨_, (!t114), (t115), (t116), Q13, H', ⟨Q58⟩, ⟨Q2 HO111⟩, ⟨Q2 HO105⟩, ⟨Q1 BK101⟩, ⟨Q1 BK108⟩, ⟨Q4 HI0 NB0_101 NB0_108⟩, ⟨Q6 HK GW101 GW108⟩, ⟨Q5 HB HI0⟩⟩
  ·rw [if_neg c14] at H
   have c14b0 : decide (0 < (t109.length : Int)) = false := decide_eq_false c14; have c14b1 : decide (0 < t109.length) = false := decide_eq_false (by omega); clear c14
   (first | rw [c14b0] | (simp only [i64_w, i32_w]; rw [c14b0]) | rw [c14b1] | skip)
   have H' := Aside0.mk H; clear H; obtain ⟨Ao18, co18, eo18⟩ := Kd.R_slice HO111.out; subst eo18
   go_wp2
   go_meet
   case rel => exact ⟨_, (false), (t112), (t113), Q13, H', ⟨Q58⟩, ⟨Q2 HO111⟩, ⟨Q2 HO105⟩, ⟨Q1 BK101⟩, ⟨Q1 BK108⟩, ⟨Q4 HI0 NB0_101 NB0_108⟩, ⟨Q6 HK GW101 GW108⟩, ⟨Q5 HB HI0⟩⟩
 case rest =>
  clear HC13
  try clear c1
  try clear p2
  try clear c4
  try clear c8
  try clear c9
  try clear c13
  try clear c14
  try clear c14b0
  try clear c14b1
  try clear hcz10_0
  try clear hcz10_1
  try clear hfz10_0
  try clear hfz10_1
  obtain ⟨kq, x23_12, x1001_12, x1002_12, rfl, HA, HJ12, HO_7, HO_109001, BK101, BK108, HI0, HK, HB⟩ := hcut
  cases kq with
  | zero => exact absurd HA.out (by simp [spec_DrawIsCorner.j0])
  | succ kj12 =>
   have H := HA.out; clear HA
   simp only [spec_DrawIsCorner.j0] at H
   by_cases c19 : x23_12 = true
   ·subst c19
    have H1 : ((spec_l1Cur_pick.f s0_0 x1001_12 x1002_12 (t109.length : Int)).bind fun bt117 => (if 0 ≤ bt117.1 then (if bt117.1 < (t109.length : Int) then (some (t102, t103, t109, rd t109 bt117.1, bt117.2.1, bt117.2.2)) else (none)) else (none))) = some (r1, r2, r3, r4, r5, r6) := by rw [if_pos rfl] at H; exact H
    clear H; have H := H1; clear H1; replace H := (ob H); obtain ⟨⟨t117, t118, t119⟩, A200, H⟩ := H; (try dsimp only at H); have A20 := Aside0.mk A200; clear A200
    by_cases c21 : 0 ≤ t117
    ·rw [if_pos c21] at H
     have c21b0 := decide_eq_true c21; clear c21
     by_cases c22 : t117 < (t109.length : Int)
     ·rw [if_pos c22] at H
      have c22b0 := decide_eq_true c22; clear c22
      simp only [Option.some.injEq, Prod.mk.injEq] at H
      obtain ⟨rfl, rfl, rfl, rfl, rfl, rfl⟩ := H
      try go_wp2
      replace HO_7 := am (Kd.R_drew HO_7.out); replace HO_109001 := am (Kd.R_drew HO_109001.out); replace BK101 := am (blk_drew BK101.out); replace BK108 := am (blk_drew BK108.out); replace HI0 := am (IsS96.drew HI0.out); replace HK := am (keep_drew HK.out); replace HB := am (below_drew1 HB.out); obtain ⟨Ao24, co24, eo24⟩ := Kd.R_slice HO_7.out
      (first | subst eo24 | (injection eo24 with f1_ f2_ f3_; have f4_ := f1_.symm; have f5_ := f3_.symm; clear f1_ f2_ f3_; subst f4_; subst f5_))
      have p120 : 0 ≤ (t117 : Int) := of_decide_eq_true Q10; have q120 : t117 < (t109.length : Int) := of_decide_eq_true Q10; obtain ⟨ad120, e120, hx120_0⟩ := Kd.at_int (Kd.R_reads' HO_7.out).2.2 t117 p120 q120
      cases e120
      replace p120 := eq_true p120; replace q120 := eq_true q120; refine start_ (n := 12) (S := fun w' => w'.cell? ⟨gb108, 0, none⟩ = some (.int .i64 t102) ∧ w'.cell? ⟨gb108, 1, none⟩ = some (.slice Ao11 t103.length co11) ∧ w'.cell? (ad120.add (t117).toNat) = some (.int .i64 (rd t109 t117))) (ds := []) #[false, false, false, false, false, false, false, false, false, false, false, false] (by kernel_rfl) rfl rfl ⟨(blk_cell BK108.out 0).trans rfl, (blk_cell BK108.out 1).trans rfl, hx120_0⟩ (fun hHeld => ?_); refine with_tabW spec_DrawIsCorner.tab5 spec_DrawIsCorner.bits5 (fun HT_ HW_ => ?_); generalize wc.drew = w23 at HO_7 HO_109001 BK101 BK108 HI0 HK HB hx120_0 hHeld ⊢; refine pq 1 25 rfl rfl HT_ ?_; refine pq 2 26 rfl rfl HT_ ?_; refine pq 3 27 rfl rfl HT_ ?_; refine pq 4 28 rfl rfl HT_ ?_; refine pq 5 29 rfl rfl HT_ ?_; refine tq3 0 24 rfl rfl HT_ HW_ hHeld ?_; refine oq 6 30 rfl rfl HT_ (fun K hK => ?_); refine goes_ Try.func141 (by kernel_rfl) rfl #[.pointer (some ⟨g, 0, none⟩), .int .i64 (t109.length : Int)] (by rfl) rfl rfl Q3 ?_
      with_reducible refine (spec_l1Cur_pick.calls g s0_0 x1001_12 x1002_12 (t109.length : Int) t117 t118 t119 w0 _ ?side1 ?side2 A20.out).mono ?_
      (case side1 => exact (Q4 HI0 NB0_101 NB0_108))
      (case side2 => exact (Q5 HB HI0))
      rintro e w25 ⟨rfl, hi, hb, hk⟩; have HS2_ := keep_cell hk (hHeld.2.2) (by first | (rw [add_block]; exact Kd.own_blk (IsS96.own_ne HI0.out HO_7.out (by decide))) | (show (Addr.add _ _).block ≠ _; rw [add_block]; exact Kd.own_blk (IsS96.own_ne HI0.out HO_7.out (by decide))) | exact Kd.own_blk (IsS96.own_ne HI0.out HO_7.out (by decide))); refine ⟨_, rfl, ?_⟩; replace HO_7 := am (Kd.R_mono (Kd.R_keep (IsS96.apart (show IsS96 w0 _ g s0_0 x1001_12 x1002_12 from Q4 HI0 NB0_101 NB0_108) Q62 (by decide)) hk (fun _ h => h.2)) (fun _ h => h.1)); replace HO_109001 := am (Kd.R_mono (Kd.R_keep (IsS96.apart (show IsS96 w0 _ g s0_0 x1001_12 x1002_12 from Q4 HI0 NB0_101 NB0_108) Q24 (by decide)) hk (fun _ h => h.2)) (fun _ h => h.1)); replace BK101 := am (KeepBut.blk hk (g' := gb101) (o := .cells #[.int .i64 0, .slice none 0 0] 30 (0, 0)) (Q1 BK101) NB101_0.out (by simp)); replace BK108 := am (KeepBut.blk hk (g' := gb108) (o := .cells #[.int .i64 t102, .slice Ao11 t103.length co11] 30 (0, 0)) (Q1 BK108) NB108_0.out (by simp)); replace HK := am (KeepBut.trans (Q6 HK GW101 GW108) hk (.inl rfl)); replace HB := am (hb); replace HI0 := am (hi); (try clear hb); (try clear hb2); (try clear hk); (try clear hi); refine hK.out _ _ ⟨(blk_cell BK108.out 0).trans rfl, (blk_cell BK108.out 1).trans rfl, HS2_⟩ (fun hHeld => ?_); clear hK K; refine norm_ (a' := ?_) ?_ ?_
      rotate_left
      ·show Act.put _ (some 30) _ = _
       simp only [Act.put, List.setIfInBounds_toArray, List.set_cons_zero, List.set_cons_succ, i64_w, i32_w]
       rfl
      refine pq 7 31 rfl rfl HT_ ?_; refine tq3 8 32 rfl rfl HT_ HW_ hHeld ?_; refine one_ (i := 9) (N := none) #[true, true, true, true, true, true, true, true, true, true, false, false] rfl rfl (one_of HT_.out (by kernel_rfl)) (by decide) (fun K hK => ?_); have hs26 : w25.cell? ⟨gb101, 0, none⟩ = some (.int .i64 0) := (blk_cell BK101.out 0).trans rfl; have hfs26 := blk_frozen BK101.out 0; have hns26_1 := NB108_101.out; have hms26_1 := NB101_108.out; have hs27 : w25.cell? ⟨gb101, 1, none⟩ = some (.slice none 0 0) := (blk_cell BK101.out 1).trans rfl; have hfs27 := blk_frozen BK101.out 1; have hns27_1 := NB108_101.out; have hms27_1 := NB101_108.out; refine skip_ (w1 := ?_) (by rfl) rfl ?_ ?_
      rotate_left
      ·go_simp
       rfl
      refine hK.out _ _ ⟨((cell_far (p := ⟨gb101, _, none⟩) NB108_101.out _).trans (((cell_far (p := ⟨gb101, _, none⟩) NB108_101.out _).trans (hHeld.1)))), ((cell_far (p := ⟨gb101, _, none⟩) NB108_101.out _).trans (((cell_far (p := ⟨gb101, _, none⟩) NB108_101.out _).trans (hHeld.2.1)))), ((cell_far (p := ⟨gb101, _, none⟩) (Q85 BK101) _).trans (((cell_far (p := ⟨gb101, _, none⟩) (Q85 BK101) _).trans (hHeld.2.2))))⟩ (fun hHeld => ?_); clear hK K; refine pq 10 3 rfl rfl HT_ ?_; refine pq 11 4 rfl rfl HT_ ?_; refine done_ (done_of HT_.out (by kernel_rfl)) ?_
      try go_wp2
      refine bodyPost_ret (results_ctt rfl _ _ gb101 30 #[.int .i64 t102, .slice Ao11 t103.length co11] (0, 0) _ rfl (Q27 BK101) Try.underlying30 rfl (by kernel_rfl)) rfl ?_; exact ⟨g, w, HL.out, ⟨_, _, Q11, Q79 BK101, Q81 BK101, Q4 HI0 NB0_101 NB0_108, Q17 HB HI0 GE101, Q6 HK GW101 GW108⟩⟩
     ·rw [if_neg c22] at H
      exact absurd H (by simp)
    ·rw [if_neg c21] at H
     exact absurd H (by simp)
   ·replace c19 := Bool.eq_false_iff.mpr c19
    subst c19; have H1 : ((spec_l1Cur_node.f kj12 s0_0 x1001_12 x1002_12 t102 t103).bind fun bt121 => (some (t102, t103, t109, bt121.1, bt121.2.1, bt121.2.2))) = some (r1, r2, r3, r4, r5, r6) := by rw [if_neg (show ¬ (false = true) by decide)] at H; exact H
    clear H; have H := H1; clear H1; replace H := (ob H); obtain ⟨⟨t121, t122, t123⟩, A280, H⟩ := H; (try dsimp only at H); have A28 := Aside0.mk A280; clear A280
    simp only [Option.some.injEq, Prod.mk.injEq] at H
    obtain ⟨rfl, rfl, rfl, rfl, rfl, rfl⟩ := H
    try go_wp2
    replace HO_7 := am (Kd.R_drew HO_7.out); replace HO_109001 := am (Kd.R_drew HO_109001.out); replace BK101 := am (blk_drew BK101.out); replace BK108 := am (blk_drew BK108.out); replace HI0 := am (IsS96.drew HI0.out); replace HK := am (keep_drew HK.out); replace HB := am (below_drew1 HB.out); refine start_ (n := 8) (S := fun w' => w'.cell? ⟨gb108, 0, none⟩ = some (.int .i64 t102) ∧ w'.cell? ⟨gb108, 1, none⟩ = some (.slice Ao11 t103.length co11)) (ds := []) #[false, false, false, false, false, false, false, false] (by kernel_rfl) rfl rfl ⟨(blk_cell BK108.out 0).trans rfl, (blk_cell BK108.out 1).trans rfl⟩ (fun hHeld => ?_); refine with_tabW spec_DrawIsCorner.tab6 spec_DrawIsCorner.bits6 (fun HT_ HW_ => ?_); generalize wc.drew = w29 at HO_7 HO_109001 BK101 BK108 HI0 HK HB hHeld ⊢; refine pq 1 34 rfl rfl HT_ ?_; refine pq 2 35 rfl rfl HT_ ?_; refine tq2 0 33 rfl rfl HT_ HW_ hHeld ?_; refine tq2 3 36 rfl rfl HT_ HW_ hHeld ?_; refine oq 4 37 rfl rfl HT_ (fun K hK => ?_); refine goes_ Try.func142 (by kernel_rfl) rfl #[.pointer (some ⟨g, 0, none⟩), .agg #[.int .i64 t102, .slice Ao11 t103.length co11]] (by rfl) rfl rfl Q3 ?_
    with_reducible refine (spec_l1Cur_node.calls kj12 g s0_0 x1001_12 x1002_12 t102 _ _ t103 t121 t122 t123 w0 _ ?side1 ?side2 ?side3 ?side4 A28.out).mono ?_
    (case side1 => exact (Q4 HI0 NB0_101 NB0_108))
    (case side2 => exact (Q5 HB HI0))
    (case side3 => exact Kd.C_foot_own (IsS96.apart (show IsS96 w0 _ g s0_0 x1001_12 x1002_12 from Q4 HI0 NB0_101 NB0_108) Q24 (by decide)) (fun _ h_ => h_.2))
    (case side4 => exact (Kd.R_reads' HO_109001.out).2.1)
    rintro e w30 ⟨rfl, hi, hb, hk⟩; refine ⟨_, rfl, ?_⟩; replace HO_7 := am (Kd.R_mono (Kd.R_keep (IsS96.apart (show IsS96 w0 _ g s0_0 x1001_12 x1002_12 from Q4 HI0 NB0_101 NB0_108) Q62 (by decide)) hk (fun _ h => h.2)) (fun _ h => h.1)); replace HO_109001 := am (Kd.R_mono (Kd.R_keep (IsS96.apart (show IsS96 w0 _ g s0_0 x1001_12 x1002_12 from Q4 HI0 NB0_101 NB0_108) Q24 (by decide)) hk (fun _ h => h.2)) (fun _ h => h.1)); replace BK101 := am (KeepBut.blk hk (g' := gb101) (o := .cells #[.int .i64 0, .slice none 0 0] 30 (0, 0)) (Q1 BK101) NB101_0.out (by simp)); replace BK108 := am (KeepBut.blk hk (g' := gb108) (o := .cells #[.int .i64 t102, .slice Ao11 t103.length co11] 30 (0, 0)) (Q1 BK108) NB108_0.out (by simp)); replace HK := am (KeepBut.trans (Q6 HK GW101 GW108) hk (.inl rfl)); replace HB := am (hb); replace HI0 := am (hi); (try clear hb); (try clear hb2); (try clear hk); (try clear hi); refine hK.out _ _ ⟨(blk_cell BK108.out 0).trans rfl, (blk_cell BK108.out 1).trans rfl⟩ (fun hHeld => ?_); clear hK K; refine norm_ (a' := ?_) ?_ ?_
    rotate_left
    ·show Act.put _ (some 37) _ = _
     simp only [Act.put, List.setIfInBounds_toArray, List.set_cons_zero, List.set_cons_succ, i64_w, i32_w]
     rfl
    refine one_ (i := 5) (N := none) #[true, true, true, true, true, true, false, false] rfl rfl (one_of HT_.out (by kernel_rfl)) (by decide) (fun K hK => ?_); have hs31 : w30.cell? ⟨gb101, 0, none⟩ = some (.int .i64 0) := (blk_cell BK101.out 0).trans rfl; have hfs31 := blk_frozen BK101.out 0; have hns31_1 := NB108_101.out; have hms31_1 := NB101_108.out; have hs32 : w30.cell? ⟨gb101, 1, none⟩ = some (.slice none 0 0) := (blk_cell BK101.out 1).trans rfl; have hfs32 := blk_frozen BK101.out 1; have hns32_1 := NB108_101.out; have hms32_1 := NB101_108.out; refine skip_ (w1 := ?_) (by rfl) rfl ?_ ?_
    rotate_left
    ·go_simp
     rfl
    refine hK.out _ _ ⟨((cell_far (p := ⟨gb101, _, none⟩) NB108_101.out _).trans (((cell_far (p := ⟨gb101, _, none⟩) NB108_101.out _).trans (hHeld.1)))), ((cell_far (p := ⟨gb101, _, none⟩) NB108_101.out _).trans (((cell_far (p := ⟨gb101, _, none⟩) NB108_101.out _).trans (hHeld.2))))⟩ (fun hHeld => ?_); clear hK K; refine pq 6 3 rfl rfl HT_ ?_; refine pq 7 4 rfl rfl HT_ ?_; refine done_ (done_of HT_.out (by kernel_rfl)) ?_
    try go_wp2
    refine bodyPost_ret (results_ctt rfl _ _ gb101 30 #[.int .i64 t102, .slice Ao11 t103.length co11] (0, 0) _ rfl (Q27 BK101) Try.underlying30 rfl (by kernel_rfl)) rfl ?_; exact ⟨g, w, HL.out, ⟨_, _, Q11, Q79 BK101, Q81 BK101, Q4 HI0 NB0_101 NB0_108, Q17 HB HI0 GE101, Q6 HK GW101 GW108⟩⟩
/-- The same, with the state that it makes itself. -/
def spec_DrawIsCorner.f (k : Nat) (a0 : List Int) : Option (Int × List (S71) × List Int × Int) := (spec_DrawIsCorner.st k a0 0 0).bind fun b_ => some (b_.1, b_.2.1, b_.2.2.1, b_.2.2.2.1)
theorem spec_DrawIsCorner.mono : ∀ a0 k, LeO (spec_DrawIsCorner.f k a0) (spec_DrawIsCorner.f (k + 1) a0) := fun a0 k => LeO.bind (spec_DrawIsCorner.stmono a0 0 0 k) (fun _ => LeO.refl _)
theorem spec_DrawIsCorner.calls (k : Nat) (A0 : Option Addr) (c0 : Nat) (a0 : List Int) (r1 : Int) (r2 : List (S71)) (r3 : List Int) (r4 : Int) (w : World) (hr0 : Kd.C (Kd.int .u8) w A0 a0.length a0) (hc0 : a0.length ≤ c0) (h : spec_DrawIsCorner.f k a0 = some (r1, r2, r3, r4)) :
  Calls Try.prog 48 #[.slice A0 a0.length c0] w fun e w' => ∃ v1_ v2_ : Value, e = .returned (.tuple #[.agg #[.int .i64 r1, v1_], v2_, .int .i64 r4]) ∧ Kd.R k71 71 w' w.heap.size (fun _ => True) v1_ r2 ∧ Kd.R (Kd.int .i64) 3 w' w.heap.size (fun _ => True) v2_ r3 ∧ Below w.heap.size w w' := by
 obtain ⟨⟨r0_, r1_, r2_, r3_, r4_, r5_⟩, h1_, h2_⟩ := Option.bind_eq_some_iff.mp h
 simp only [Option.some.injEq, Prod.mk.injEq] at h2_
 obtain ⟨rfl, rfl, rfl, rfl⟩ := h2_
 refine (spec_DrawIsCorner.callsM k A0 c0 a0 _ _ _ _ _ _ w hr0 hc0 h1_).mono ?_
 rintro e w' ⟨g_, w_, hL_, ⟨v1_, ⟨v2_, ⟨h0_, h1_, h2_, _, hB_, _⟩⟩⟩⟩
 exact ⟨v1_, v2_, h0_, Kd.R_lower h1_ hL_, Kd.R_lower h2_ hL_, hB_⟩
/-! ### spec_IsCorner: function 50 -/
def spec_IsCorner.f (k : Nat) (a0_0 : Int) (l0_1 : List (S71)) (l1 : List Int) (a2 : Int) : Option (Bool × Bool) := (spec_l3Both.f k a0_0 l0_1 l1).bind fun t102 => (if t102 = true then ((spec_l1Has.f k l1 a2).bind fun t103 => (if t103 = true then ((spec_l3Cover.f k a0_0 l0_1 l1 a2).bind fun t104 => (some (decide (t104 ≥ 0), true))) else (some (false, false)))) else (some (false, false)))
theorem spec_IsCorner.mono : ∀ a0 a1 a2 a3 k, LeO (spec_IsCorner.f k a0 a1 a2 a3) (spec_IsCorner.f (k + 1) a0 a1 a2 a3) := by
 intro a0 a1 a2 a3 k
 unfold spec_IsCorner.f
 repeat' first | (with_reducible first | exact spec_l1Has.mono _ _ _ | exact spec_l3Both.mono _ _ _ _ | exact spec_l3Cover.mono _ _ _ _ _ | exact LeO.refl _ | exact LeO.none _ | refine LeO.ite ?_ ?_ | refine LeO.bind ?_ (fun _ => ?_))
set_option maxHeartbeats 8000000 in
set_option maxRecDepth 100000 in
theorem spec_IsCorner.calls (k : Nat) (a0_0 : Int) (A0_1 : Option Addr) (c0_1 : Nat) (l0_1 : List (S71)) (A1 : Option Addr) (c1 : Nat) (l1 : List Int) (a2 : Int) (r1 : Bool) (r2 : Bool) (w : World) (hr0_1 : Kd.C k71 w A0_1 l0_1.length l0_1) (hc0_1 : l0_1.length ≤ c0_1) (hr1 : Kd.C (Kd.int .i64) w A1 l1.length l1) (hc1 : l1.length ≤ c1) (h : spec_IsCorner.f k a0_0 l0_1 l1 a2 = some (r1, r2)) :
  Calls Try.prog 50 #[.agg #[.int .i64 a0_0, .slice A0_1 l0_1.length c0_1], .slice A1 l1.length c1, .int .i64 a2] w fun e w' => e = .returned (.tuple #[.bool r1, .bool r2]) ∧ Below w.heap.size w w' := by
 have hu30 := Try.underlying30
 have HR0_1 := Aside0.mk hr0_1
 have HC0_1 := Aside0.mk hc0_1
 clear hr0_1 hc0_1
 have HR1 := Aside0.mk hr1
 have HC1 := Aside0.mk hc1
 clear hr1 hc1
 have HB := am (Below.refl w.heap.size w)
 have H : ((spec_l3Both.f k a0_0 l0_1 l1).bind fun t102 => (if t102 = true then ((spec_l1Has.f k l1 a2).bind fun t103 => (if t103 = true then ((spec_l3Cover.f k a0_0 l0_1 l1 a2).bind fun t104 => (some (decide (t104 ≥ 0), true))) else (some (false, false)))) else (some (false, false)))) = some (r1, r2) := h
 clear h
 have HU4 := Aside0.mk H
 clear H
 go_enter Try.func50, Try.ntmps50
 go_upto_region 1 with (first | ((with_reducible refine gate_dst (N := 3) rfl ?_); refine box_event ?hg (N := 3) ?hd (cs := #[.int .i64 a0_0, .slice A0_1 l0_1.length c0_1]) (t := 30) ?hr ?_; (case hd => rfl); (case hg => rfl); (case hr => first | (go_simp; done) | (go_simp; rfl)); intro gb101 hg w5 hbox hb; have BK101 := am (hbox); have GW101 := am ((Q25 : w.heap.size ≤ gb101)); have GE101 := am ((Q25 : w.heap.size ≤ gb101)); replace HB := am (below_step (Q0 HB) hb); clear hb hbox hg))
 (try simp only [Act.put, List.setIfInBounds_toArray, List.set_cons_zero, List.set_cons_succ])
 have H := HU4.out
 clear HU4
 replace H := (ob H)
 obtain ⟨t102, A60, H⟩ := H
 (try dsimp only at H)
 have A6 := Aside0.mk A60
 clear A60
 by_cases c7 : t102 = true
 ·subst c7
  have H1 : ((spec_l1Has.f k l1 a2).bind fun t103 => (if t103 = true then ((spec_l3Cover.f k a0_0 l0_1 l1 a2).bind fun t104 => (some (decide (t104 ≥ 0), true))) else (some (false, false)))) = some (r1, r2) := by rw [if_pos rfl] at H; exact H
  clear H; have H := H1; clear H1; replace H := (ob H); obtain ⟨t103, A80, H⟩ := H; (try dsimp only at H); have A8 := Aside0.mk A80; clear A80; have HU9 := Aside0.mk H; clear H; have hcz10_0 : w5.cell? ⟨gb101, 0, none⟩ = some (.int .i64 a0_0) := (blk_cell BK101.out 0).trans rfl; have hcz10_1 : w5.cell? ⟨gb101, 1, none⟩ = some (.slice A0_1 l0_1.length c0_1) := (blk_cell BK101.out 1).trans rfl; have hfz10_0 := blk_frozen BK101.out 0; have hfz10_1 := blk_frozen BK101.out 1
  go_upto_if 17 with (first | ((with_reducible refine gate_callee (f := 147) rfl ?_); refine goesL_ (some 10) rfl rfl Try.func147 (by kernel_rfl) rfl #[.agg #[.int .i64 a0_0, .slice A0_1 l0_1.length c0_1], .slice A1 l1.length c1] rfl Q3 ?_; (with_reducible refine (spec_l3Both.calls k a0_0 _ _ l0_1 _ _ l1 true _ ?side1 ?side2 ?side3 ?side4 A6.out).mono ?_); (case side1 => exact (Q7 HR0_1 HB)); (case side2 => exact HC0_1.out); (case side3 => exact (Q7 HR1 HB)); (case side4 => exact HC1.out); rintro e w11 ⟨rfl, hb⟩; refine ⟨_, rfl, ?_⟩; replace BK101 := am (blk_below (g := gb101) (o := .cells #[.int .i64 a0_0, .slice A0_1 l0_1.length c0_1] 30 (0, 0)) (Q1 BK101) hb); replace HB := am (below_step (Q0 HB) hb); (try clear hb); (try clear hb2); (try clear hk); (try clear hi)) | (go_at_call 148; (with_reducible refine (spec_l1Has.calls k _ _ l1 a2 t103 _ ?side1 ?side2 A8.out).mono ?_); (case side1 => exact (Q7 HR1 HB)); (case side2 => exact HC1.out); rintro e w' ⟨rfl, ⟨nd, rfl⟩⟩))
  (try simp only [Act.put, List.setIfInBounds_toArray, List.set_cons_zero, List.set_cons_succ]); have H := HU9.out; clear HU9
  by_cases c12 : t103 = true
  ·subst c12
   have H1 : ((spec_l3Cover.f k a0_0 l0_1 l1 a2).bind fun t104 => (some (decide (t104 ≥ 0), true))) = some (r1, r2) := by rw [if_pos rfl] at H; exact H
   clear H; have H := H1; clear H1; replace H := (ob H); obtain ⟨t104, A130, H⟩ := H; (try dsimp only at H); have A13 := Aside0.mk A130; clear A130
   simp only [Option.some.injEq, Prod.mk.injEq] at H
   obtain ⟨rfl, rfl⟩ := H; have hcz14_0 : w11.cell? ⟨gb101, 0, none⟩ = some (.int .i64 a0_0) := (blk_cell BK101.out 0).trans rfl; have hcz14_1 : w11.cell? ⟨gb101, 1, none⟩ = some (.slice A0_1 l0_1.length c0_1) := (blk_cell BK101.out 1).trans rfl; have hfz14_0 := blk_frozen BK101.out 0; have hfz14_1 := blk_frozen BK101.out 1
   go_wp2_with (first | ((with_reducible refine gate_callee (f := 149) rfl ?_); refine goesL_ (some 21) rfl rfl Try.func149 (by kernel_rfl) rfl #[.agg #[.int .i64 a0_0, .slice A0_1 l0_1.length c0_1], .slice A1 l1.length c1, .int .i64 a2] rfl Q3 ?_; (with_reducible refine (spec_l3Cover.calls k a0_0 _ _ l0_1 _ _ l1 a2 t104 _ ?side1 ?side2 ?side3 ?side4 A13.out).mono ?_); (case side1 => exact (Q65 HR0_1)); (case side2 => exact HC0_1.out); (case side3 => exact (Q65 HR1)); (case side4 => exact HC1.out); rintro e w15 ⟨rfl, hb⟩; refine ⟨_, rfl, ?_⟩; replace BK101 := am (blk_below (g := gb101) (o := .cells #[.int .i64 a0_0, .slice A0_1 l0_1.length c0_1] 30 (0, 0)) (Q1 BK101) hb); replace HB := am (below_step (Q0 HB) hb); (try clear hb); (try clear hb2); (try clear hk); (try clear hi)))
   go_ret2
   exact ⟨Q11, Q0 HB⟩
  ·replace c12 := Bool.eq_false_iff.mpr c12
   subst c12; have H1 : (some (false, false)) = some (r1, r2) := by rw [if_neg (show ¬ (false = true) by decide)] at H; exact H
   clear H; have H := H1; clear H1
   simp only [Option.some.injEq, Prod.mk.injEq] at H
   obtain ⟨rfl, rfl⟩ := H
   go_wp2
   go_ret2
   exact ⟨Q11, Q0 HB⟩
 ·replace c7 := Bool.eq_false_iff.mpr c7
  subst c7; have H1 : (some (false, false)) = some (r1, r2) := by rw [if_neg (show ¬ (false = true) by decide)] at H; exact H
  clear H; have H := H1; clear H1; have HU16 := Aside0.mk H; clear H; have hcz17_0 : w5.cell? ⟨gb101, 0, none⟩ = some (.int .i64 a0_0) := (blk_cell BK101.out 0).trans rfl; have hcz17_1 : w5.cell? ⟨gb101, 1, none⟩ = some (.slice A0_1 l0_1.length c0_1) := (blk_cell BK101.out 1).trans rfl; have hfz17_0 := blk_frozen BK101.out 0; have hfz17_1 := blk_frozen BK101.out 1
  go_upto_if 17 with (first | ((with_reducible refine gate_callee (f := 147) rfl ?_); refine goesL_ (some 10) rfl rfl Try.func147 (by kernel_rfl) rfl #[.agg #[.int .i64 a0_0, .slice A0_1 l0_1.length c0_1], .slice A1 l1.length c1] rfl Q3 ?_; (with_reducible refine (spec_l3Both.calls k a0_0 _ _ l0_1 _ _ l1 false _ ?side1 ?side2 ?side3 ?side4 A6.out).mono ?_); (case side1 => exact (Q7 HR0_1 HB)); (case side2 => exact HC0_1.out); (case side3 => exact (Q7 HR1 HB)); (case side4 => exact HC1.out); rintro e w18 ⟨rfl, hb⟩; refine ⟨_, rfl, ?_⟩; replace BK101 := am (blk_below (g := gb101) (o := .cells #[.int .i64 a0_0, .slice A0_1 l0_1.length c0_1] 30 (0, 0)) (Q1 BK101) hb); replace HB := am (below_step (Q0 HB) hb); (try clear hb); (try clear hb2); (try clear hk); (try clear hi)))
  (try simp only [Act.put, List.setIfInBounds_toArray, List.set_cons_zero, List.set_cons_succ]); have H := HU16.out; clear HU16
  simp only [Option.some.injEq, Prod.mk.injEq] at H
  obtain ⟨rfl, rfl⟩ := H
  go_wp2
  go_ret2
  exact ⟨Q11, Q0 HB⟩
/-! ### spec_StrippingOf: function 58 -/
def spec_StrippingOf.f (k : Nat) (a0_0 : Int) (l0_1 : List (S71)) : Option ((List (S71)) × Bool) := (spec_l3Some.f k a0_0 l0_1).bind fun t102 => (if t102 = true then ((spec_l3Strip.f k a0_0 l0_1).bind fun bt103 => (some (bt103.1, true))) else (some ((([] : List (S71))), false)))
theorem spec_StrippingOf.mono : ∀ a0 a1 k, LeO (spec_StrippingOf.f k a0 a1) (spec_StrippingOf.f (k + 1) a0 a1) := by
 intro a0 a1 k
 unfold spec_StrippingOf.f
 repeat' first | (with_reducible first | exact spec_l3Some.mono _ _ _ | exact spec_l3Strip.mono _ _ _ | exact LeO.refl _ | exact LeO.none _ | refine LeO.ite ?_ ?_ | refine LeO.bind ?_ (fun _ => ?_))
set_option maxHeartbeats 8000000 in
set_option maxRecDepth 100000 in
theorem spec_StrippingOf.calls (k : Nat) (a0_0 : Int) (A0_1 : Option Addr) (c0_1 : Nat) (l0_1 : List (S71)) (r1 : List (S71)) (r2 : Bool) (w : World) (hr0_1 : Kd.C k71 w A0_1 l0_1.length l0_1) (hc0_1 : l0_1.length ≤ c0_1) (h : spec_StrippingOf.f k a0_0 l0_1 = some (r1, r2)) :
  Calls Try.prog 58 #[.agg #[.int .i64 a0_0, .slice A0_1 l0_1.length c0_1]] w fun e w' => ∃ v0_ : Value, e = .returned (.tuple #[v0_, .bool r2]) ∧ Kd.R k71 71 w' w.heap.size (fun _ => True) v0_ r1 ∧ Below w.heap.size w w' := by
 have hu30 := Try.underlying30
 have HR0_1 := Aside0.mk hr0_1
 have HC0_1 := Aside0.mk hc0_1
 clear hr0_1 hc0_1
 have HB := am (Below.refl w.heap.size w)
 have H : ((spec_l3Some.f k a0_0 l0_1).bind fun t102 => (if t102 = true then ((spec_l3Strip.f k a0_0 l0_1).bind fun bt103 => (some (bt103.1, true))) else (some ((([] : List (S71))), false)))) = some (r1, r2) := h
 clear h
 replace H := (ob H)
 obtain ⟨t102, A20, H⟩ := H
 (try dsimp only at H)
 have A2 := Aside0.mk A20
 clear A20
 have HU3 := Aside0.mk H
 clear H
 go_enter Try.func58, Try.ntmps58
 go_upto_if 8 with (first | ((with_reducible refine gate_dst (N := 1) rfl ?_); refine box_event ?hg (N := 1) ?hd (cs := #[.int .i64 a0_0, .slice A0_1 l0_1.length c0_1]) (t := 30) ?hr ?_; (case hd => rfl); (case hg => rfl); (case hr => first | (go_simp; done) | (go_simp; rfl)); intro gb101 hg w4 hbox hb; have BK101 := am (hbox); have GW101 := am ((Q25 : w.heap.size ≤ gb101)); have GE101 := am ((Q25 : w.heap.size ≤ gb101)); replace HB := am (below_step (Q0 HB) hb); clear hb hbox hg; have hcz5_0 : w4.cell? ⟨gb101, 0, none⟩ = some (.int .i64 a0_0) := (blk_cell BK101.out 0).trans rfl; have hcz5_1 : w4.cell? ⟨gb101, 1, none⟩ = some (.slice A0_1 l0_1.length c0_1) := (blk_cell BK101.out 1).trans rfl; have hfz5_0 := blk_frozen BK101.out 0; have hfz5_1 := blk_frozen BK101.out 1) | ((with_reducible refine gate_callee (f := 154) rfl ?_); refine goesL_ (some 7) rfl rfl Try.func154 (by kernel_rfl) rfl #[.agg #[.int .i64 a0_0, .slice A0_1 l0_1.length c0_1]] rfl Q3 ?_; (with_reducible refine (spec_l3Some.calls k a0_0 _ _ l0_1 t102 _ ?side1 ?side2 A2.out).mono ?_); (case side1 => exact (Q7 HR0_1 HB)); (case side2 => exact HC0_1.out); rintro e w6 ⟨rfl, hb⟩; refine ⟨_, rfl, ?_⟩; replace BK101 := am (blk_below (g := gb101) (o := .cells #[.int .i64 a0_0, .slice A0_1 l0_1.length c0_1] 30 (0, 0)) (Q1 BK101) hb); replace HB := am (below_step (Q0 HB) hb); (try clear hb); (try clear hb2); (try clear hk); (try clear hi)))
 (try simp only [Act.put, List.setIfInBounds_toArray, List.set_cons_zero, List.set_cons_succ])
 have H := HU3.out
 clear HU3
 by_cases c7 : t102 = true
 ·subst c7
  have H1 : ((spec_l3Strip.f k a0_0 l0_1).bind fun bt103 => (some (bt103.1, true))) = some (r1, r2) := by rw [if_pos rfl] at H; exact H
  clear H; have H := H1; clear H1; replace H := (ob H); obtain ⟨⟨t103, t106⟩, A80, H⟩ := H; (try dsimp only at H); have A8 := Aside0.mk A80; clear A80
  simp only [Option.some.injEq, Prod.mk.injEq] at H
  obtain ⟨rfl, rfl⟩ := H; have hcz9_0 : w6.cell? ⟨gb101, 0, none⟩ = some (.int .i64 a0_0) := (blk_cell BK101.out 0).trans rfl; have hcz9_1 : w6.cell? ⟨gb101, 1, none⟩ = some (.slice A0_1 l0_1.length c0_1) := (blk_cell BK101.out 1).trans rfl; have hfz9_0 := blk_frozen BK101.out 0; have hfz9_1 := blk_frozen BK101.out 1
  go_wp2_with (first | ((with_reducible refine gate_callee (f := 155) rfl ?_); refine goesL_ (some 12) rfl rfl Try.func155 (by kernel_rfl) rfl #[.agg #[.int .i64 a0_0, .slice A0_1 l0_1.length c0_1]] rfl Q3 ?_; (with_reducible refine (spec_l3Strip.calls k a0_0 _ _ l0_1 t103 t106 _ ?side1 ?side2 A8.out).mono ?_); (case side1 => exact (Q7 HR0_1 HB)); (case side2 => exact HC0_1.out); rintro e w10 ⟨v104, v107, rfl, ho0, ho1, hb⟩; refine ⟨_, rfl, ?_⟩; have HO105 := am (Kd.R_lower ho0 (below_size (Q0 HB))); have HO108 := am (Kd.R_lower ho1 (below_size (Q0 HB))); replace BK101 := am (blk_below (g := gb101) (o := .cells #[.int .i64 a0_0, .slice A0_1 l0_1.length c0_1] 30 (0, 0)) (Q1 BK101) hb); replace HB := am (below_step (Q0 HB) hb); (try clear hb); (try clear hb2); (try clear hk); (try clear hi); (try clear ho0); (try clear ho1)))
  go_ret2
  exact ⟨_, Q11, Q2 HO105, Q0 HB⟩
 ·replace c7 := Bool.eq_false_iff.mpr c7
  subst c7; have H1 : (some ((([] : List (S71))), false)) = some (r1, r2) := by rw [if_neg (show ¬ (false = true) by decide)] at H; exact H
  clear H; have H := H1; clear H1; obtain ⟨y109, hy109⟩ : ∃ y_ : List (S71), y_ = (([] : List (S71))) := ⟨_, rfl⟩; replace H : (some (y109, false)) = some (r1, r2) := RH hy109 H; have Ny109 := Aside0.mk hy109; clear hy109
  simp only [Option.some.injEq, Prod.mk.injEq] at H
  obtain ⟨rfl, rfl⟩ := H
  go_wp2_with (first | ((with_reducible refine gate_dst (N := 9) rfl ?_); refine Kd.R_lit k71 _ 71 ?hg (N := 9) ?hd (xs := ([] : List (S71))) (inner := []) (ok := fun _ => True) (okp := fun _ => True) ?hr ?hp (fun _ hk => hk) trivial (Below.refl _ _) (Nat.le_refl _) (by simp) ?_; (case hd => rfl); (case hg => rfl); (case hr => first | (go_simp; done) | (go_simp; rfl)); (case hp => exact (Reps.none _ _)); intro v110 w11 ho12 hb hg_ hnew_; clear hg_ hnew_; (first | rw [← Ny109.out] at ho12 | (simp only [Int.reduceToNat] at ho12; rw [← Ny109.out] at ho12)); have HO111 := am (Kd.R_lower ho12 (below_size (Q0 HB))); replace BK101 := am (blk_below (g := gb101) (o := .cells #[.int .i64 a0_0, .slice A0_1 l0_1.length c0_1] 30 (0, 0)) (Q1 BK101) hb); replace HB := am (below_step (Q0 HB) hb); clear hb ho12))
  go_ret2
  exact ⟨_, Q11, Q2 HO111, Q0 HB⟩
end Go.Proofs.Ytcjddikalgnhpaa.P
