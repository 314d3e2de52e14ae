/- Functions of the program as Lean functions, that each call comes to what they say, and what holds of them; part 10 of 16; no conditions beyond those that each theorem names. -/
import Derived.Test.YtcjddikalgnhpaaK1
import Derived.Test.YtcjddikalgnhpaaK4
import Derived.Test.YtcjddikalgnhpaaK5
import Derived.Test.YtcjddikalgnhpaaK6
import Derived.Test.YtcjddikalgnhpaaK7
import Derived.Test.YtcjddikalgnhpaaK9
namespace Go.Proofs.Ytcjddikalgnhpaa.P
open Go.RowKit Go.Proofs.YtcjddikalgnhpaaW.PrintWords Go.Proofs.YtcjddikalgnhpaaW.PrintLast Go.Proofs.YtcjddikalgnhpaaW.PrintMore
attribute [local go_sem] max2_int min2_int max_two min_two max_three min_three max_four min_four   -- for this text's walks alone
set_option linter.unusedVariables false
set_option linter.unusedSimpArgs false
/-! ### spec_l1Cur_node: function 142 -/
def spec_l1Cur_node.j0 : Nat → Bool → List Int → Int → Int → Int → List (S71) → Option (Int × Int × Int)
 | 0, _, _, _, _, _, _ => none
 | k + 1, x16, x1000, x1001, x1002, x102000, x102001 => if x16 = true then ((spec_l1Cur_among.f x1000 x1001 x1002 (([(-1), 0, 8, 4611686018427387904] : List Int))).bind fun bt108 => (some (bt108.1, bt108.2.1, bt108.2.2))) else ((spec_l1Cur_pick.f x1000 x1001 x1002 x102000).bind fun bt111 => (some (bt111.1, bt111.2.1, bt111.2.2)))
def spec_l1Cur_node.f (k : Nat) (s0_0 : List Int) (s0_1 : Int) (s0_2 : Int) (a1_0 : Int) (l1_1 : List (S71)) : Option (Int × Int × Int) := if a1_0 < 1 then (spec_l1Cur_node.j0 k true s0_0 s0_1 s0_2 a1_0 l1_1) else (if a1_0 > 8 then (spec_l1Cur_node.j0 k true s0_0 s0_1 s0_2 a1_0 l1_1) else ((spec_l1Cur_one.f s0_0 s0_1 s0_2 24).bind fun bt102 => (spec_l1Cur_node.j0 k bt102.1 s0_0 bt102.2.1 bt102.2.2 a1_0 l1_1)))
theorem spec_l1Cur_node.mono_l : ∀ k, (∀ y0 y1 y2 y3 y4 y5, LeO (spec_l1Cur_node.j0 k y0 y1 y2 y3 y4 y5) (spec_l1Cur_node.j0 (k + 1) y0 y1 y2 y3 y4 y5))
 | 0 => fun _ _ _ _ _ _ r h => by simp [spec_l1Cur_node.j0] at h
 | k + 1 => by
  have ih0 := spec_l1Cur_node.mono_l k
  all_goals
   intros
   first | unfold spec_l1Cur_node.j0
   repeat' first | (with_reducible first | exact ih0 _ _ _ _ _ _ | exact LeO.refl _ | exact LeO.none _ | refine LeO.ite ?_ ?_ | refine LeO.bind ?_ (fun _ => ?_))
theorem spec_l1Cur_node.mono : ∀ a0 a1 a2 a3 a4 k, LeO (spec_l1Cur_node.f k a0 a1 a2 a3 a4) (spec_l1Cur_node.f (k + 1) a0 a1 a2 a3 a4) := by
 intro a0 a1 a2 a3 a4 k
 have ih0 := spec_l1Cur_node.mono_l k
 unfold spec_l1Cur_node.f
 repeat' first | (with_reducible first | exact ih0 _ _ _ _ _ _ | exact LeO.refl _ | exact LeO.none _ | refine LeO.ite ?_ ?_ | refine LeO.bind ?_ (fun _ => ?_))
set_option maxHeartbeats 8000000 in
set_option maxRecDepth 100000 in
theorem spec_l1Cur_node.calls (k : Nat) (g : Nat) (s0_0 : List Int) (s0_1 : Int) (s0_2 : Int) (a1_0 : Int) (A1_1 : Option Addr) (c1_1 : Nat) (l1_1 : List (S71)) (r1 : Int) (r2 : Int) (r3 : Int) (w0 w : World) (hI : IsS96 w0 w g s0_0 s0_1 s0_2) (hB : Below w0.heap.size w0 w) (hr1_1 : ∀ W_, KeepBut w W_ g none → Kd.C k71 W_ A1_1 l1_1.length l1_1) (hc1_1 : l1_1.length ≤ c1_1) (h : spec_l1Cur_node.f k s0_0 s0_1 s0_2 a1_0 l1_1 = some (r1, r2, r3)) :
  Calls Try.prog 142 #[.pointer (some ⟨g, 0, none⟩), .agg #[.int .i64 a1_0, .slice A1_1 l1_1.length c1_1]] w fun e w' => e = .returned (.int .i64 r1) ∧ IsS96 w0 w' g s0_0 r2 r3 ∧ Below w0.heap.size w0 w' ∧ KeepBut w w' g none := by
 have hu30 := Try.underlying30
 have HR1_1 := Aside0.mk hr1_1
 have HC1_1 := Aside0.mk hc1_1
 clear hr1_1 hc1_1
 have HI0 := Aside0.mk hI
 have HK := am (KeepBut.refl w g none)
 have HL := Aside0.mk hB.size
 clear hI
 have HW0 := Aside0.mk hB.size
 have HB := Aside0.mk hB
 clear hB
 have H : (if a1_0 < 1 then (spec_l1Cur_node.j0 k true s0_0 s0_1 s0_2 a1_0 l1_1) else (if a1_0 > 8 then (spec_l1Cur_node.j0 k true s0_0 s0_1 s0_2 a1_0 l1_1) else ((spec_l1Cur_one.f s0_0 s0_1 s0_2 24).bind fun bt102 => (spec_l1Cur_node.j0 k bt102.1 s0_0 bt102.2.1 bt102.2.2 a1_0 l1_1)))) = some (r1, r2, r3) := h
 clear h
 have HU3 := Aside0.mk H
 clear H
 go_enter Try.func142, Try.ntmps142
 go_upto_region 1 with (first | ((with_reducible refine gate_dst (N := 3) rfl ?_); refine box_event (by rfl) (N := 3) (by rfl) (cs := #[.int .i64 a1_0, .slice A1_1 l1_1.length c1_1]) (t := 30) Qr ?_; intro gb101 hg w4 hbox hb; replace HB := am (below_step (Q6 HB HI0) hb); have BK101 := am (hbox); have GW101 := am ((Q78 : w.heap.size ≤ gb101)); have GE101 := am ((Nat.le_trans HW0.out (Q78 : w.heap.size ≤ gb101) : w0.heap.size ≤ gb101)); replace HK := am (KeepBut.trans (Q20 HK) (KeepBut.of_below hb g none) (.inl rfl)); have NB0_101 := am ((Q96 : g ≠ gb101)); have NB101_0 := am ((Q97 : gb101 ≠ g)); replace HI0 := am (IsS96.below (Q17 HI0) hb); clear hb hbox hg))
 (try simp only [Act.put, List.setIfInBounds_toArray, List.set_cons_zero, List.set_cons_succ])
 have H := HU3.out
 clear HU3
 have HC5 := Aside0.mk H
 clear H
 go_upto_region 1 with (fail)
 go_cut [16] (fun v16 wc => ∃ (kq : Nat) (x16_4 : Bool) (x1001_4 : Int) (x1002_4 : Int), v16 = .bool x16_4 ∧ Aside0 (spec_l1Cur_node.j0 kq x16_4 s0_0 x1001_4 x1002_4 a1_0 l1_1 = some (r1, r2, r3)) ∧ Aside0 (kq ≤ k) ∧ Aside0 (wc.heap[gb101]? = some (.cells #[.int .i64 a1_0, (.slice A1_1 l1_1.length c1_1)] 30 (0, 0))) ∧ Aside0 (IsS96 w0 wc g s0_0 x1001_4 x1002_4) ∧ Aside0 (KeepBut w wc g none) ∧ Aside0 (Below w0.heap.size w0 wc))
 case first =>
  have H := HC5.out; clear HC5
  by_cases c6 : a1_0 < 1
  ·rw [if_pos c6] at H
   have c6b0 := decide_eq_true c6; clear c6
   (first | rw [c6b0] | (simp only [i64_w, i32_w]; rw [c6b0]) | skip)
   have H' := Aside0.mk H; clear H; have hnb7 := NB101_0.out; have hnc7 := NB0_101.out; obtain ⟨hcz8_0, hfz8_0, hcz8_1, hfz8_1⟩ := b2 BK101
   go_wp2
   go_meet
   case rel => exact ⟨_, (true), (s0_1), (s0_2), Q9, H', ⟨Q75⟩, ⟨Q1 BK101⟩, ⟨Q13 HI0 NB0_101⟩, ⟨Q14 HK GW101⟩, ⟨Q6 HB HI0⟩⟩
  ·rw [if_neg c6] at H
   have c6b0 := decide_eq_false c6; clear c6
   (first | rw [c6b0] | (simp only [i64_w, i32_w]; rw [c6b0]) | skip)
   by_cases c9 : a1_0 > 8
   ·rw [if_pos c9] at H
    have c9b0 : decide (8 < a1_0) = true := decide_eq_true c9; clear c9; have H' := Aside0.mk H; clear H; have hnb10 := NB101_0.out; have hnc10 := NB0_101.out; obtain ⟨hcz11_0, hfz11_0, hcz11_1, hfz11_1⟩ := b2 BK101
    go_wp2
    go_meet
    case rel => exact ⟨_, (true), (s0_1), (s0_2), Q9, H', ⟨Q75⟩, ⟨Q1 BK101⟩, ⟨Q13 HI0 NB0_101⟩, ⟨Q14 HK GW101⟩, ⟨Q6 HB HI0⟩⟩
   ·rw [if_neg c9] at H
    have c9b0 : decide (8 < a1_0) = false := decide_eq_false c9; clear c9; replace H := (ob H); obtain ⟨⟨t102, t103, t104⟩, A120, H⟩ := H; (try dsimp only at H); have A12 := Aside0.mk A120; clear A120; have H' := Aside0.mk H; clear H; have hnb13 := NB101_0.out; have hnc13 := NB0_101.out; obtain ⟨hcz14_0, hfz14_0, hcz14_1, hfz14_1⟩ := b2 BK101
    go_wp2_with (first | (go_at_call 129; (with_reducible refine (spec_l1Cur_one.calls g s0_0 s0_1 s0_2 24 t102 t103 t104 w0 _ ?side1 ?side2 A12.out).mono ?_); (case side1 => exact (Q13 HI0 NB0_101)); (case side2 => exact (Q6 HB HI0)); rintro e w15 ⟨rfl, hi, hb, hk⟩; replace BK101 := am (KeepBut.blk hk (g' := gb101) (o := .cells #[.int .i64 a1_0, .slice A1_1 l1_1.length c1_1] 30 (0, 0)) (Q1 BK101) NB101_0.out (by simp)); replace HK := am (KeepBut.trans (Q14 HK GW101) hk (.inl rfl)); replace HB := am (hb); replace HI0 := am (hi); (try clear hb); (try clear hb2); (try clear hk); (try clear hi)))
    go_meet
    case rel => exact ⟨_, (t102), (t103), (t104), Q9, H', ⟨Q75⟩, ⟨Q1 BK101⟩, ⟨Q13 HI0 NB0_101⟩, ⟨Q14 HK GW101⟩, ⟨Q6 HB HI0⟩⟩
 case rest =>
  clear HC5
  obtain ⟨kq, x16_4, x1001_4, x1002_4, rfl, HA, HJ4, BK101, HI0, HK, HB⟩ := hcut
  cases kq with
  | zero => exact absurd HA.out (by simp [spec_l1Cur_node.j0])
  | succ kj4 =>
   have H := HA.out; clear HA
   simp only [spec_l1Cur_node.j0] at H
   by_cases c16 : x16_4 = true
   ·subst c16
    have H1 : ((spec_l1Cur_among.f s0_0 x1001_4 x1002_4 (([(-1), 0, 8, 4611686018427387904] : List Int))).bind fun bt108 => (some (bt108.1, bt108.2.1, bt108.2.2))) = some (r1, r2, r3) := by rw [if_pos rfl] at H; exact H
    clear H; have H := H1; clear H1; obtain ⟨y105, hy105⟩ : ∃ y_ : List Int, y_ = (([(-1), 0, 8, 4611686018427387904] : List Int)) := ⟨_, rfl⟩; replace H : ((spec_l1Cur_among.f s0_0 x1001_4 x1002_4 y105).bind fun bt108 => (some (bt108.1, bt108.2.1, bt108.2.2))) = some (r1, r2, r3) := RH hy105 H; have Ny105 := Aside0.mk hy105; clear hy105; replace H := (ob H); obtain ⟨⟨t108, t109, t110⟩, A170, H⟩ := H; (try dsimp only at H); have A17 := Aside0.mk A170; clear A170
    simp only [Option.some.injEq, Prod.mk.injEq] at H
    obtain ⟨rfl, rfl, rfl⟩ := H
    go_wp2_with (first | ((with_reducible refine gate_dst (N := 18) rfl ?_); refine Kd.R_lit (Kd.int .i64) _ 3 (by rfl) (N := 18) (by rfl) (xs := ([(-1), 0, 8, 4611686018427387904] : List Int)) (inner := [.int .i64 (-1), .int .i64 0, .int .i64 8, .int .i64 4611686018427387904]) (ok := fun _ => True) (okp := fun _ => True) Qr ?hp (fun _ hk => hk) trivial (Below.refl _ _) (Nat.le_refl _) (by simp) ?_; (case hp => exact (Reps.one (show Kd.M (Kd.int .i64) _ _ _ (-1) [.int .i64 (-1)] from rfl) (Reps.one (show Kd.M (Kd.int .i64) _ _ _ 0 [.int .i64 0] from rfl) (Reps.one (show Kd.M (Kd.int .i64) _ _ _ 8 [.int .i64 8] from rfl) (Reps.one (show Kd.M (Kd.int .i64) _ _ _ 4611686018427387904 [.int .i64 4611686018427387904] from rfl) (Reps.none _ _)))))); intro v106 w18 ho19 hb hg_ hnew_; clear hg_ hnew_; (first | rw [← Ny105.out] at ho19 | (simp only [Int.reduceToNat] at ho19; rw [← Ny105.out] at ho19)); have HO107 := am (Kd.R_lower ho19 (keep_size (w := w) (g := g) (row := none) (Q14 HK GW101))); replace BK101 := bb BK101 hb; replace HK := am (KeepBut.trans (Q14 HK GW101) (KeepBut.of_below hb g none) (.inl rfl)); replace HB := am (below_step (Q6 HB HI0) hb); replace HI0 := am (IsS96.below (Q13 HI0 NB0_101) hb); clear hb ho19; obtain ⟨Ao20, co20, eo20⟩ := Kd.R_slice HO107.out; subst eo20) | ((with_reducible refine gate_callee (f := 106) rfl ?_); refine goesL_ (some 19) rfl rfl Try.func106 (by kernel_rfl) rfl #[.pointer (some ⟨g, 0, none⟩), .slice Ao20 y105.length co20] rfl Q3 ?_; (with_reducible refine (spec_l1Cur_among.calls g s0_0 x1001_4 x1002_4 _ _ y105 t108 t109 t110 w0 _ ?side1 ?side2 ?side3 ?side4 ?side5 A17.out).mono ?_); (case side1 => exact (Q13 HI0 NB0_101)); (case side2 => exact (Q6 HB HI0)); (case side3 => exact (Q15 HO107)); (case side4 => exact (Kd.R_reads' HO107.out).2.1); (case side5 => exact far_slice (IsS96.own_ne HI0.out HO107.out (by decide))); rintro e w21 ⟨rfl, hi, hb, hk⟩; refine ⟨_, rfl, ?_⟩; replace BK101 := am (KeepBut.blk hk (g' := gb101) (o := .cells #[.int .i64 a1_0, .slice A1_1 l1_1.length c1_1] 30 (0, 0)) (Q1 BK101) NB101_0.out (by simp)); replace HO107 := am (Kd.R_mono (Kd.R_keep (IsS96.apart (show IsS96 w0 _ g s0_0 x1001_4 x1002_4 from Q13 HI0 NB0_101) (Q2 HO107) (by decide)) hk (fun _ h => h.2)) (fun _ h => h.1)); replace HK := am (KeepBut.trans (Q14 HK GW101) hk (.inl rfl)); replace HB := am (hb); replace HI0 := am (hi); (try clear hb); (try clear hb2); (try clear hk); (try clear hi)))
    go_ret
    exact ⟨Q10, Q13 HI0 NB0_101, Q6 HB HI0, Q14 HK GW101⟩
   ·replace c16 := Bool.eq_false_iff.mpr c16
    subst c16; have H1 : ((spec_l1Cur_pick.f s0_0 x1001_4 x1002_4 a1_0).bind fun bt111 => (some (bt111.1, bt111.2.1, bt111.2.2))) = some (r1, r2, r3) := by rw [if_neg (show ¬ (false = true) by decide)] at H; exact H
    clear H; have H := H1; clear H1; replace H := (ob H); obtain ⟨⟨t111, t112, t113⟩, A220, H⟩ := H; (try dsimp only at H); have A22 := Aside0.mk A220; clear A220
    simp only [Option.some.injEq, Prod.mk.injEq] at H
    obtain ⟨rfl, rfl, rfl⟩ := H; have hnb23 := NB101_0.out; have hnc23 := NB0_101.out; obtain ⟨hcz24_0, hfz24_0, hcz24_1, hfz24_1⟩ := b2 BK101
    go_wp2_with (first | ((with_reducible refine gate_callee (f := 141) rfl ?_); refine goesL_ (some 23) rfl rfl Try.func141 (by kernel_rfl) rfl #[.pointer (some ⟨g, 0, none⟩), .int .i64 a1_0] rfl Q3 ?_; (with_reducible refine (spec_l1Cur_pick.calls g s0_0 x1001_4 x1002_4 a1_0 t111 t112 t113 w0 _ ?side1 ?side2 A22.out).mono ?_); (case side1 => exact (Q13 HI0 NB0_101)); (case side2 => exact (Q6 HB HI0)); rintro e w25 ⟨rfl, hi, hb, hk⟩; refine ⟨_, rfl, ?_⟩; replace BK101 := am (KeepBut.blk hk (g' := gb101) (o := .cells #[.int .i64 a1_0, .slice A1_1 l1_1.length c1_1] 30 (0, 0)) (Q1 BK101) NB101_0.out (by simp)); replace HK := am (KeepBut.trans (Q14 HK GW101) hk (.inl rfl)); replace HB := am (hb); replace HI0 := am (hi); (try clear hb); (try clear hb2); (try clear hk); (try clear hi)))
    go_ret
    exact ⟨Q10, Q13 HI0 NB0_101, Q6 HB HI0, Q14 HK GW101⟩
/-! ### spec_DrawFirstWay: function 66 -/
def spec_DrawFirstWay.st (k : Nat) (s0_0 : List Int) (s0_1 : Int) (s0_2 : Int) : Option (Int × (List (S71)) × Int × Int × Int × Int) := (spec_l1Cur_bigGraph.f k s0_0 s0_1 s0_2).bind fun bt102 => ((spec_l1Cur_node.f k s0_0 bt102.2.2.1 bt102.2.2.2 bt102.1 bt102.2.1).bind fun bt109 => ((spec_l1Cur_node.f k s0_0 bt109.2.1 bt109.2.2 bt102.1 bt102.2.1).bind fun bt112 => (some (bt102.1, bt102.2.1, bt109.1, bt112.1, bt112.2.1, bt112.2.2))))
theorem spec_DrawFirstWay.stmono : ∀ a0 a1 a2 k, LeO (spec_DrawFirstWay.st k a0 a1 a2) (spec_DrawFirstWay.st (k + 1) a0 a1 a2) := by
 intro a0 a1 a2 k
 unfold spec_DrawFirstWay.st
 repeat' first | (with_reducible first | exact spec_l1Cur_bigGraph.mono _ _ _ _ | exact spec_l1Cur_node.mono _ _ _ _ _ _ | exact LeO.refl _ | exact LeO.none _ | refine LeO.ite ?_ ?_ | refine LeO.bind ?_ (fun _ => ?_))
def spec_DrawFirstWay.T3 : Bool × List (List Nat × List Nat) := (true, [([], []), ([], []), ([], []), ([1, 2], [1, 2]), ([], []), ([], []), ([4, 5, 3], [4, 5]), ([0, 6, 0], [0]), ([3, 7, 0, 1, 2, 3, 7], [3]), ([6, 8, 0, 1, 2, 3, 4, 5, 6, 7, 8], [6])])
def spec_DrawFirstWay.B3 : List Nat := [0, 0, 0, 6, 0, 0, 62, 127, 255, 511]
theorem spec_DrawFirstWay.tab3 : rtab .any (opsOf Try.f66 3) = spec_DrawFirstWay.T3 := by kernel_rfl
theorem spec_DrawFirstWay.bits3 : waitsOk spec_DrawFirstWay.T3.2 spec_DrawFirstWay.B3 = true := by kernel_rfl
set_option maxHeartbeats 8000000 in
set_option maxRecDepth 100000 in
theorem spec_DrawFirstWay.callsM (k : Nat) (A0 : Option Addr) (c0 : Nat) (s0_0 : List Int) (r1 : Int) (r2 : List (S71)) (r3 : Int) (r4 : Int) (r5 : Int) (r6 : Int) (w0 : World) (hr0 : Kd.C (Kd.int .u8) w0 A0 s0_0.length s0_0) (hc0 : s0_0.length ≤ c0) (h : spec_DrawFirstWay.st k s0_0 0 0 = some (r1, r2, r3, r4, r5, r6)) :
  Calls Try.prog 66 #[.slice A0 s0_0.length c0] w0 fun e w' => ∃ (g_ : Nat) (w_ : World), w0.heap.size ≤ w_.heap.size ∧ (∃ v1_ : Value, e = .returned (.tuple #[.agg #[.int .i64 r1, v1_], .int .i64 r3, .int .i64 r4]) ∧ Kd.R k71 71 w' w_.heap.size (fun _ => True) v1_ r2 ∧ IsS96 w0 w' g_ s0_0 r5 r6 ∧ Below w0.heap.size w0 w' ∧ KeepBut w_ w' g_ none) := by
 have HR0 := Aside0.mk hr0
 have HC0 := Aside0.mk hc0
 clear hr0 hc0
 have HB := am (Below.refl w0.heap.size w0)
 obtain ⟨w, hw0_⟩ : ∃ w : World, w = w0 := ⟨_, rfl⟩
 have HW0 := am (show w0.heap.size ≤ w.heap.size by rw [hw0_]; exact Nat.le_refl _)
 have HL := HW0
 replace hw0_ := Aside0.mk hw0_
 have H : ((spec_l1Cur_bigGraph.f k s0_0 0 0).bind fun bt102 => ((spec_l1Cur_node.f k s0_0 bt102.2.2.1 bt102.2.2.2 bt102.1 bt102.2.1).bind fun bt109 => ((spec_l1Cur_node.f k s0_0 bt109.2.1 bt109.2.2 bt102.1 bt102.2.1).bind fun bt112 => (some (bt102.1, bt102.2.1, bt109.1, bt112.1, bt112.2.1, bt112.2.2))))) = some (r1, r2, r3, r4, r5, r6) := h
 clear h
 replace H := (ob H)
 obtain ⟨⟨t102, t103, t106, t107⟩, A20, H⟩ := H
 (try dsimp only at H)
 have A2 := Aside0.mk A20
 clear A20
 replace H := (ob H)
 obtain ⟨⟨t109, t110, t111⟩, A30, H⟩ := H
 (try dsimp only at H)
 have A3 := Aside0.mk A30
 clear A30
 replace H := (ob H)
 obtain ⟨⟨t112, t113, t114⟩, A40, H⟩ := H
 (try dsimp only at H)
 have A4 := Aside0.mk A40
 clear A40
 simp only [Option.some.injEq, Prod.mk.injEq] at H
 obtain ⟨rfl, rfl, rfl, rfl, rfl, rfl⟩ := H
 go_enter Try.func66, Try.ntmps66
 try go_wp2_with (first | ((with_reducible refine gate_dst (N := 9) rfl ?_); refine box_event (by rfl) (N := 9) (by rfl) (cs := #[.slice A0 s0_0.length c0, .int .i64 0, .int .u64 0]) (t := 96) Qr ?_; intro g hg wS_ hbox hb; have n0_ := am (below_step (Q0 HB) hb); have n1_ := am (show IsS96 w0 wS_ g s0_0 0 0 from ⟨A0, c0, hbox, Q26, HR0.out⟩); have m101_ := am (blk_below (g := gb101) (o := .cells #[.int .i64 0, .slice none 0 0] 30 (0, 0)) (Q1 BK101) hb); have p101_ := am (Q59 : g ≠ gb101); have q101_ := am (Q58 : gb101 ≠ g); replace HB := n0_; have HI0 := n1_; clear n0_ n1_; clear BK101; have BK101 := m101_; have NB0_101 := p101_; have NB101_0 := q101_; clear m101_ p101_ q101_; clear hb hbox hg; have HK := am (show KeepBut w wS_ g none from by rw [hw0_.out]; exact KeepBut.of_below HB.out g none)) | ((with_reducible refine gate_dst (N := 2) rfl ?_); refine box_event (by rfl) (N := 2) (by rfl) (cs := #[.int .i64 0, .slice none 0 0]) (t := 30) Qr ?_; intro gb101 hg w5 hbox hb; have n2_ := am (below_step (Q0 HB) hb); have n3_ := Aside0.mk hbox; have n4_ := am ((by rw [hg, hw0_.out]; exact (below_size (Q0 HB))) : w.heap.size ≤ gb101); have n5_ := am (Q26 : w0.heap.size ≤ gb101); replace HB := n2_; have BK101 := n3_; have GW101 := n4_; have GE101 := n5_; clear n2_ n3_ n4_ n5_; clear hb hbox hg) | ((with_reducible refine gate_callee (f := 156) rfl ?_); refine goesL_ (some 11) rfl rfl Try.func156 (by kernel_rfl) rfl #[.pointer (some ⟨g, 0, none⟩)] rfl Q3 ?_; (with_reducible refine (spec_l1Cur_bigGraph.calls k g s0_0 0 0 t102 t103 t106 t107 w0 _ ?side1 ?side2 A2.out).mono ?_); (case side1 => exact (Q13 HI0 NB0_101)); (case side2 => exact (Q6 HB HI0)); rintro e w6 ⟨v104, rfl, ho0, hi, hb, hk⟩; refine ⟨_, rfl, ?_⟩; replace BK101 := am (KeepBut.blk hk (g' := gb101) (o := .cells #[.int .i64 0, .slice none 0 0] 30 (0, 0)) (Q1 BK101) NB101_0.out (by simp)); have HO105 := am (Kd.R_lower ho0 (keep_size (w := w) (g := g) (row := none) (Q14 HK GW101))); replace HK := am (KeepBut.trans (Q14 HK GW101) hk (.inl rfl)); replace HB := am (hb); replace HI0 := am (hi); (try clear hb); (try clear hb2); (try clear hk); (try clear hi); (try clear ho0)) | ((with_reducible refine gate_dst (N := 6) rfl ?_); refine box_event (by rfl) (N := 6) (by rfl) (cs := #[.int .i64 0, .slice none 0 0]) (t := 30) Qr ?_; intro gb108 hg w7 hbox hb; replace HO105 := am (Kd.R_below (Q2 HO105) hb); replace HB := am (below_step (Q6 HB HI0) hb); have BK108 := am (hbox); have GW108 := am ((Q101 : w.heap.size ≤ gb108)); have GE108 := am ((Nat.le_trans HW0.out (Q101 : w.heap.size ≤ gb108) : w0.heap.size ≤ gb108)); replace HK := am (KeepBut.trans (Q14 HK GW101) (KeepBut.of_below hb g none) (.inl rfl)); have NB101_108 := am ((Q58 : gb101 ≠ gb108)); have NB108_101 := am ((Q59 : gb108 ≠ gb101)); replace BK101 := bb BK101 hb; have NB0_108 := am ((by rw [hg]; exact Nat.ne_of_lt (IsS96.lt (show IsS96 w0 _ g s0_0 t106 t107 from Q13 HI0 NB0_101)) : g ≠ gb108)); have NB108_0 := am ((by rw [hg]; exact Nat.ne_of_gt (IsS96.lt (show IsS96 w0 _ g s0_0 t106 t107 from Q13 HI0 NB0_101)) : gb108 ≠ g)); replace HI0 := am (IsS96.below (Q13 HI0 NB0_101) hb); clear hb hbox hg; have hnb8 := NB108_101.out; have hnc8 := NB101_108.out; have hnb9 := NB108_0.out; have hnc9 := NB0_108.out; obtain ⟨hcz10_0, hfz10_0, hcz10_1, hfz10_1⟩ := b2 BK108; obtain ⟨Ao11, co11, eo11⟩ := Kd.R_slice HO105.out; subst eo11))
 have n0_ : Aside0 (Kd.R k71 71 ((w7.setCell ⟨gb108, 0, none⟩ (.int .i64 t102)).setCell ⟨gb108, 1, none⟩ (.slice Ao11 t103.length co11)) w.heap.size (fun _ => True) (.slice Ao11 t103.length co11) t103) := ⟨by (with_reducible repeat (first | apply Kd.R_alloc | apply Kd.R_drewN | apply Kd.R_drew)); exact Kd.R_mono (Kd.R_far (p := ⟨gb108, 1, none⟩) (Kd.R_far (p := ⟨gb108, 0, none⟩) (Kd.R_types HO105.out BK108.out (by decide)) (fun _ hk => hk.2) (.int .i64 t102)) (fun _ hk => hk.2) (.slice Ao11 t103.length co11)) (fun _ hk => trivial)⟩
 have n1_ : Aside0 (((w7.setCell ⟨gb108, 0, none⟩ (.int .i64 t102)).setCell ⟨gb108, 1, none⟩ (.slice Ao11 t103.length co11)).heap[gb101]? = some (.cells #[.int .i64 0, .slice none 0 0] 30 (0, 0))) := ⟨Q11 NB101_108 BK101⟩
 have n2_ : Aside0 (((w7.setCell ⟨gb108, 0, none⟩ (.int .i64 t102)).setCell ⟨gb108, 1, none⟩ (.slice Ao11 t103.length co11)).heap[gb108]? = some (.cells #[.int .i64 t102, .slice Ao11 t103.length co11] 30 (0, 0))) := ⟨Q33 BK108⟩
 have n3_ : Aside0 (IsS96 w0 ((w7.setCell ⟨gb108, 0, none⟩ (.int .i64 t102)).setCell ⟨gb108, 1, none⟩ (.slice Ao11 t103.length co11)) g s0_0 t106 t107) := ⟨Q5 HI0 NB0_101 NB0_108⟩
 have n4_ : Aside0 (KeepBut w ((w7.setCell ⟨gb108, 0, none⟩ (.int .i64 t102)).setCell ⟨gb108, 1, none⟩ (.slice Ao11 t103.length co11)) g none) := ⟨Q8 HK GW101 GW108⟩
 have n5_ : Aside0 (Below w0.heap.size w0 ((w7.setCell ⟨gb108, 0, none⟩ (.int .i64 t102)).setCell ⟨gb108, 1, none⟩ (.slice Ao11 t103.length co11))) := ⟨Q21 HB HI0 GE108⟩
 (try clear HO105)
 (try clear BK101)
 (try clear BK108)
 (try clear HI0)
 (try clear HK)
 (try clear HB)
 generalize ((w7.setCell ⟨gb108, 0, none⟩ (.int .i64 t102)).setCell ⟨gb108, 1, none⟩ (.slice Ao11 t103.length co11)) = w12 at n0_ n1_ n2_ n3_ n4_ n5_ ⊢
 have HO105 := n0_
 have BK101 := n1_
 have BK108 := n2_
 have HI0 := n3_
 have HK := n4_
 have HB := n5_
 clear n0_ n1_ n2_ n3_ n4_ n5_
 replace HO105 := am (Kd.R_drew HO105.out)
 replace BK101 := am (blk_drew BK101.out)
 replace BK108 := am (blk_drew BK108.out)
 replace HI0 := am (IsS96.drew HI0.out)
 replace HK := am (keep_drew HK.out)
 replace HB := am (below_drew1 HB.out)
 refine start_ (n := 10) (S := fun w' => w'.cell? ⟨gb108, 0, none⟩ = some (.int .i64 t102) ∧ w'.cell? ⟨gb108, 1, none⟩ = some (.slice Ao11 t103.length co11)) (ds := []) #[false, false, false, false, false, false, false, false, false, false] (by kernel_rfl) rfl rfl ⟨(blk_cell BK108.out 0).trans rfl, (blk_cell BK108.out 1).trans rfl⟩ (fun hHeld => ?_); refine with_tabW spec_DrawFirstWay.tab3 spec_DrawFirstWay.bits3 (fun HT_ HW_ => ?_)
 generalize w12.drew = w13 at HO105 BK101 BK108 HI0 HK HB hHeld ⊢
 refine pq 1 13 rfl rfl HT_ ?_
 refine pq 4 16 rfl rfl HT_ ?_
 refine tq2 0 12 rfl rfl HT_ HW_ hHeld ?_
 refine tq2 2 14 rfl rfl HT_ HW_ hHeld ?_
 refine tq2 5 17 rfl rfl HT_ HW_ hHeld ?_
 refine oq 3 15 rfl rfl HT_ (fun K hK => ?_)
 refine goes_ Try.func142 (by kernel_rfl) rfl #[.pointer (some ⟨g, 0, none⟩), .agg #[.int .i64 t102, .slice Ao11 t103.length co11]] (by rfl) rfl rfl Q3 ?_
 with_reducible refine (spec_l1Cur_node.calls k g s0_0 t106 t107 t102 _ _ t103 t109 t110 t111 w0 _ ?side1 ?side2 ?side3 ?side4 A3.out).mono ?_
 (case side1 => exact (Q5 HI0 NB0_101 NB0_108))
 (case side2 => exact (Q6 HB HI0))
 (case side3 => exact Kd.C_foot_own (IsS96.apart (show IsS96 w0 _ g s0_0 t106 t107 from Q5 HI0 NB0_101 NB0_108) (Q2 HO105) (by decide)) (fun _ h_ => h_.2))
 (case side4 => exact (Kd.R_reads' HO105.out).2.1)
 rintro e w14 ⟨rfl, hi, hb, hk⟩
 refine ⟨_, rfl, ?_⟩
 replace BK101 := am (KeepBut.blk hk (g' := gb101) (o := .cells #[.int .i64 0, .slice none 0 0] 30 (0, 0)) (Q1 BK101) NB101_0.out (by simp))
 replace HO105 := am (Kd.R_mono (Kd.R_keep (IsS96.apart (show IsS96 w0 _ g s0_0 t106 t107 from Q5 HI0 NB0_101 NB0_108) (Q2 HO105) (by decide)) hk (fun _ h => h.2)) (fun _ h => h.1))
 replace BK108 := am (KeepBut.blk hk (g' := gb108) (o := .cells #[.int .i64 t102, .slice Ao11 t103.length co11] 30 (0, 0)) (Q1 BK108) NB108_0.out (by simp))
 replace HK := am (KeepBut.trans (Q8 HK GW101 GW108) hk (.inl rfl))
 replace HB := am (hb)
 replace HI0 := am (hi)
 (try clear hb)
 (try clear hb2)
 (try clear hk)
 (try clear hi)
 refine hK.out _ _ ⟨(blk_cell BK108.out 0).trans rfl, (blk_cell BK108.out 1).trans rfl⟩ (fun hHeld => ?_)
 clear hK K
 refine nz ?_
 refine oq 6 18 rfl rfl HT_ (fun K hK => ?_)
 refine goes_ Try.func142 (by kernel_rfl) rfl #[.pointer (some ⟨g, 0, none⟩), .agg #[.int .i64 t102, .slice Ao11 t103.length co11]] (by rfl) rfl rfl Q3 ?_
 with_reducible refine (spec_l1Cur_node.calls k g s0_0 t110 t111 t102 _ _ t103 t112 t113 t114 w0 _ ?side1 ?side2 ?side3 ?side4 A4.out).mono ?_
 (case side1 => exact (Q5 HI0 NB0_101 NB0_108))
 (case side2 => exact (Q6 HB HI0))
 (case side3 => exact Kd.C_foot_own (IsS96.apart (show IsS96 w0 _ g s0_0 t110 t111 from Q5 HI0 NB0_101 NB0_108) (Q2 HO105) (by decide)) (fun _ h_ => h_.2))
 (case side4 => exact (Kd.R_reads' HO105.out).2.1)
 rintro e w15 ⟨rfl, hi, hb, hk⟩
 refine ⟨_, rfl, ?_⟩
 replace BK101 := am (KeepBut.blk hk (g' := gb101) (o := .cells #[.int .i64 0, .slice none 0 0] 30 (0, 0)) (Q1 BK101) NB101_0.out (by simp))
 replace HO105 := am (Kd.R_mono (Kd.R_keep (IsS96.apart (show IsS96 w0 _ g s0_0 t110 t111 from Q5 HI0 NB0_101 NB0_108) (Q2 HO105) (by decide)) hk (fun _ h => h.2)) (fun _ h => h.1))
 replace BK108 := am (KeepBut.blk hk (g' := gb108) (o := .cells #[.int .i64 t102, .slice Ao11 t103.length co11] 30 (0, 0)) (Q1 BK108) NB108_0.out (by simp))
 replace HK := am (KeepBut.trans (Q8 HK GW101 GW108) hk (.inl rfl))
 replace HB := am (hb)
 replace HI0 := am (hi)
 (try clear hb)
 (try clear hb2)
 (try clear hk)
 (try clear hi)
 refine hK.out _ _ ⟨(blk_cell BK108.out 0).trans rfl, (blk_cell BK108.out 1).trans rfl⟩ (fun hHeld => ?_)
 clear hK K
 refine nz ?_
 refine one_ (i := 7) (N := none) #[true, true, true, true, true, true, true, true, false, false] rfl rfl (one_of HT_.out (by kernel_rfl)) (by decide) (fun K hK => ?_)
 have hs16 : w15.cell? ⟨gb101, 0, none⟩ = some (.int .i64 0) := (blk_cell BK101.out 0).trans rfl
 have hfs16 := blk_frozen BK101.out 0
 have hns16_1 := NB108_101.out
 have hms16_1 := NB101_108.out
 have hs17 : w15.cell? ⟨gb101, 1, none⟩ = some (.slice none 0 0) := (blk_cell BK101.out 1).trans rfl
 have hfs17 := blk_frozen BK101.out 1
 have hns17_1 := NB108_101.out
 have hms17_1 := NB101_108.out
 refine skip_ (w1 := ?_) (by rfl) rfl ?_ ?_
 rotate_left
 ·go_simp
  rfl
 refine hK.out _ _ ⟨((cell_far (p := ⟨gb101, _, none⟩) NB108_101.out _).trans (((cell_far (p := ⟨gb101, _, none⟩) NB108_101.out _).trans (hHeld.1)))), ((cell_far (p := ⟨gb101, _, none⟩) NB108_101.out _).trans (((cell_far (p := ⟨gb101, _, none⟩) NB108_101.out _).trans (hHeld.2))))⟩ (fun hHeld => ?_)
 clear hK K
 refine pq 8 3 rfl rfl HT_ ?_
 refine pq 9 4 rfl rfl HT_ ?_
 refine done_ (done_of HT_.out (by kernel_rfl)) ?_
 try go_wp2
 refine bodyPost_ret (results_ctt rfl _ _ gb101 30 #[.int .i64 t102, .slice Ao11 t103.length co11] (0, 0) _ rfl (Q33 BK101) Try.underlying30 rfl (by kernel_rfl)) rfl ?_
 exact ⟨g, w, HL.out, ⟨_, Q10, by (with_reducible repeat (first | apply Kd.R_alloc | apply Kd.R_drewN | apply Kd.R_drew)); exact Kd.R_mono (Kd.R_far (p := ⟨gb101, 1, none⟩) (Kd.R_far (p := ⟨gb101, 0, none⟩) (Kd.R_types HO105.out BK101.out (by decide)) (fun _ hk => hk.2) (.int .i64 t102)) (fun _ hk => hk.2) (.slice Ao11 t103.length co11)) (fun _ hk => trivial), Q5 HI0 NB0_101 NB0_108, Q21 HB HI0 GE101, Q8 HK GW101 GW108⟩⟩
/-- The same, with the state that it makes itself. -/
def spec_DrawFirstWay.f (k : Nat) (a0 : List Int) : Option (Int × List (S71) × Int × Int) := (spec_DrawFirstWay.st k a0 0 0).bind fun b_ => some (b_.1, b_.2.1, b_.2.2.1, b_.2.2.2.1)
theorem spec_DrawFirstWay.mono : ∀ a0 k, LeO (spec_DrawFirstWay.f k a0) (spec_DrawFirstWay.f (k + 1) a0) := fun a0 k => LeO.bind (spec_DrawFirstWay.stmono a0 0 0 k) (fun _ => LeO.refl _)
theorem spec_DrawFirstWay.calls (k : Nat) (A0 : Option Addr) (c0 : Nat) (a0 : List Int) (r1 : Int) (r2 : List (S71)) (r3 : Int) (r4 : Int) (w : World) (hr0 : Kd.C (Kd.int .u8) w A0 a0.length a0) (hc0 : a0.length ≤ c0) (h : spec_DrawFirstWay.f k a0 = some (r1, r2, r3, r4)) :
  Calls Try.prog 66 #[.slice A0 a0.length c0] w fun e w' => ∃ v1_ : Value, e = .returned (.tuple #[.agg #[.int .i64 r1, v1_], .int .i64 r3, .int .i64 r4]) ∧ Kd.R k71 71 w' w.heap.size (fun _ => True) v1_ r2 ∧ Below w.heap.size w w' := by
 obtain ⟨⟨r0_, r1_, r2_, r3_, r4_, r5_⟩, h1_, h2_⟩ := Option.bind_eq_some_iff.mp h
 simp only [Option.some.injEq, Prod.mk.injEq] at h2_
 obtain ⟨rfl, rfl, rfl, rfl⟩ := h2_
 refine (spec_DrawFirstWay.callsM k A0 c0 a0 _ _ _ _ _ _ w hr0 hc0 h1_).mono ?_
 rintro e w' ⟨g_, w_, hL_, ⟨v1_, ⟨h0_, h1_, _, hB_, _⟩⟩⟩
 exact ⟨v1_, h0_, Kd.R_lower h1_ hL_, hB_⟩
/-! ### spec_FirstWay: function 68 -/
mutual
def spec_FirstWay.j0 : Nat → Int → Int → Bool → Int → List (S71) → Option (List Int × Bool)
 | 0, _, _, _, _, _ => none
 | k + 1, x1, x2, x25, x102000, x102001 => if x25 = true then (some ((([] : List Int)), false)) else ((spec_l2Dist.f k x102000 x102001).bind fun t108 => (if 0 ≤ x1 then (if x1 < (t108.length : Int) then (if 0 ≤ x2 then (if x2 < ((rd_L6 t108 x1).length : Int) then (if (rd (rd_L6 t108 x1) x2) < 0 then (some ((([] : List Int)), false)) else (spec_FirstWay.l0 k x1 x2 t108 (([x1] : List Int)) x102000 x102001)) else (none)) else (none)) else (none)) else (none)))
def spec_FirstWay.l0 : Nat → Int → Int → List (List Int) → List Int → Int → List (S71) → Option (List Int × Bool)
 | 0, _, _, _, _, _, _ => none
 | k + 1, x1, x2, x8, x9, x102000, x102001 => if x1 = x2 then (some (x9, true)) else (spec_FirstWay.l1 k x1 x2 x8 x9 0 x102000 x102001)
def spec_FirstWay.l1 : Nat → Int → Int → List (List Int) → List Int → Int → Int → List (S71) → Option (List Int × Bool)
 | 0, _, _, _, _, _, _, _ => none
 | k + 1, x1, x2, x8, x9, x10, x102000, x102001 => (spec_l2Near.f k x102000 x102001 x1 x10).bind fun t119 => (if t119 = true then (if 0 ≤ x10 then (if x10 < (x8.length : Int) then (if 0 ≤ x2 then (if x2 < ((rd_L6 x8 x10).length : Int) then (if 0 ≤ x1 then (if x1 < (x8.length : Int) then (if x2 < ((rd_L6 x8 x1).length : Int) then (if (rd (rd_L6 x8 x10) x2) = (wrap64 ((rd (rd_L6 x8 x1) x2) - 1)) then (if x9.length < 17592186044416 then (spec_FirstWay.l0 k x10 x2 x8 (x9 ++ [x10]) x102000 x102001) else (none)) else (spec_FirstWay.l1 k x1 x2 x8 x9 (wrap64 (x10 + 1)) x102000 x102001)) else (none)) else (none)) else (none)) else (none)) else (none)) else (none)) else (none)) else (spec_FirstWay.l1 k x1 x2 x8 x9 (wrap64 (x10 + 1)) x102000 x102001))
end
def spec_FirstWay.f (k : Nat) (a0_0 : Int) (l0_1 : List (S71)) (a1 : Int) (a2 : Int) : Option (List Int × Bool) := (spec_l2Good.f k a0_0 l0_1).bind fun t102 => (if t102 = true then ((spec_l2Node.f a0_0 l0_1 a1).bind fun t103 => (if t103 = true then ((spec_l2Node.f a0_0 l0_1 a2).bind fun t104 => (spec_FirstWay.j0 k a1 a2 (!t104) a0_0 l0_1)) else (spec_FirstWay.j0 k a1 a2 true a0_0 l0_1))) else (spec_FirstWay.j0 k a1 a2 true a0_0 l0_1))
theorem spec_FirstWay.mono_l : ∀ k, (∀ y0 y1 y2 y3 y4, LeO (spec_FirstWay.j0 k y0 y1 y2 y3 y4) (spec_FirstWay.j0 (k + 1) y0 y1 y2 y3 y4)) ∧ (∀ y0 y1 y2 y3 y4 y5, LeO (spec_FirstWay.l0 k y0 y1 y2 y3 y4 y5) (spec_FirstWay.l0 (k + 1) y0 y1 y2 y3 y4 y5)) ∧ (∀ y0 y1 y2 y3 y4 y5 y6, LeO (spec_FirstWay.l1 k y0 y1 y2 y3 y4 y5 y6) (spec_FirstWay.l1 (k + 1) y0 y1 y2 y3 y4 y5 y6))
 | 0 => ⟨fun _ _ _ _ _ r h => by simp [spec_FirstWay.j0] at h, fun _ _ _ _ _ _ r h => by simp [spec_FirstWay.l0] at h, fun _ _ _ _ _ _ _ r h => by simp [spec_FirstWay.l1] at h⟩
 | k + 1 => by
  obtain ⟨ih0, ih1, ih2⟩ := spec_FirstWay.mono_l k; refine ⟨?_, ?_, ?_⟩
  all_goals
   intros
   first | unfold spec_FirstWay.j0 | unfold spec_FirstWay.l0 | unfold spec_FirstWay.l1
   repeat' first | (with_reducible first | exact ih0 _ _ _ _ _ | exact ih1 _ _ _ _ _ _ | exact ih2 _ _ _ _ _ _ _ | exact spec_l2Dist.mono _ _ _ | exact spec_l2Good.mono _ _ _ | exact spec_l2Near.mono _ _ _ _ _ | exact LeO.refl _ | exact LeO.none _ | refine LeO.ite ?_ ?_ | refine LeO.bind ?_ (fun _ => ?_))
theorem spec_FirstWay.mono : ∀ a0 a1 a2 a3 k, LeO (spec_FirstWay.f k a0 a1 a2 a3) (spec_FirstWay.f (k + 1) a0 a1 a2 a3) := by
 intro a0 a1 a2 a3 k
 obtain ⟨ih0, ih1, ih2⟩ := spec_FirstWay.mono_l k
 unfold spec_FirstWay.f
 repeat' first | (with_reducible first | exact ih0 _ _ _ _ _ | exact ih1 _ _ _ _ _ _ | exact ih2 _ _ _ _ _ _ _ | exact spec_l2Dist.mono _ _ _ | exact spec_l2Good.mono _ _ _ | exact spec_l2Near.mono _ _ _ _ _ | exact LeO.refl _ | exact LeO.none _ | refine LeO.ite ?_ ?_ | refine LeO.bind ?_ (fun _ => ?_))
def spec_FirstWay.T9 : Bool × List (List Nat × List Nat) := (true, [([], []), ([], []), ([], []), ([0, 1, 2], [0, 1, 2]), ([3], [3]), ([4, 3], [4]), ([5], [5]), ([5], [5]), ([6, 7, 5], [5, 6, 7]), ([8, 5], [5, 8]), ([5], [5]), ([9, 10, 5], [5, 9, 10]), ([11, 5], [5, 11]), ([5], [5]), ([5], [5]), ([13, 14, 5], [5, 13, 14]), ([15, 5], [5, 15]), ([5], [5]), ([16, 17, 5], [5, 16, 17]), ([18, 5], [5, 18]), ([19, 5], [5, 19]), ([12, 20, 5], [5, 12, 20]), ([5, 21], [5, 21])])
def spec_FirstWay.B9 : List Nat := [0, 0, 0, 7, 15, 31, 63, 63, 255, 511, 63, 2047, 4095, 63, 63, 24639, 57407, 63, 254015, 516159, 1040447, 2097151, 4194303]
theorem spec_FirstWay.tab9 : rtab .any (opsOf Try.f68 9) = spec_FirstWay.T9 := by kernel_rfl
theorem spec_FirstWay.bits9 : waitsOk spec_FirstWay.T9.2 spec_FirstWay.B9 = true := by kernel_rfl
set_option maxHeartbeats 8000000 in
set_option maxRecDepth 100000 in
theorem spec_FirstWay.calls (k : Nat) (a0_0 : Int) (A0_1 : Option Addr) (c0_1 : Nat) (l0_1 : List (S71)) (a1 : Int) (a2 : Int) (r1 : List Int) (r2 : Bool) (w : World) (hr0_1 : Kd.C k71 w A0_1 l0_1.length l0_1) (hc0_1 : l0_1.length ≤ c0_1) (h : spec_FirstWay.f k a0_0 l0_1 a1 a2 = some (r1, r2)) :
  Calls Try.prog 68 #[.agg #[.int .i64 a0_0, .slice A0_1 l0_1.length c0_1], .int .i64 a1, .int .i64 a2] w fun e w' => ∃ v0_ : Value, e = .returned (.tuple #[v0_, .bool r2]) ∧ Kd.R (Kd.int .i64) 3 w' w.heap.size (fun _ => True) v0_ r1 ∧ Below w.heap.size w w' := by
 have hu30 := Try.underlying30
 have HR0_1 := Aside0.mk hr0_1
 have HC0_1 := Aside0.mk hc0_1
 clear hr0_1 hc0_1
 have HB := am (Below.refl w.heap.size w)
 have H : ((spec_l2Good.f k a0_0 l0_1).bind fun t102 => (if t102 = true then ((spec_l2Node.f a0_0 l0_1 a1).bind fun t103 => (if t103 = true then ((spec_l2Node.f a0_0 l0_1 a2).bind fun t104 => (spec_FirstWay.j0 k a1 a2 (!t104) a0_0 l0_1)) else (spec_FirstWay.j0 k a1 a2 true a0_0 l0_1))) else (spec_FirstWay.j0 k a1 a2 true a0_0 l0_1))) = some (r1, r2) := h
 clear h
 have HU4 := Aside0.mk H
 clear H
 go_enter Try.func68, Try.ntmps68
 go_upto_region 1 with (first | ((with_reducible refine gate_dst (N := 3) rfl ?_); refine box_event (by rfl) (N := 3) (by rfl) (cs := #[.int .i64 a0_0, .slice A0_1 l0_1.length c0_1]) (t := 30) Qr ?_; intro gb101 hg w5 hbox hb; have BK101 := am (hbox); have GW101 := am ((Q26 : w.heap.size ≤ gb101)); have GE101 := am ((Q26 : w.heap.size ≤ gb101)); replace HB := bs HB hb; clear hb hbox hg))
 (try simp only [Act.put, List.setIfInBounds_toArray, List.set_cons_zero, List.set_cons_succ])
 have H := HU4.out
 clear HU4
 have HC6 := Aside0.mk H
 clear H
 go_upto_region 1 with (fail)
 go_cut [25] (fun v25 wc => ∃ (kq : Nat) (x25_5 : Bool), v25 = .bool x25_5 ∧ Aside0 (spec_FirstWay.j0 kq a1 a2 x25_5 a0_0 l0_1 = some (r1, r2)) ∧ Aside0 (kq ≤ k) ∧ Aside0 (wc.heap[gb101]? = some (.cells #[.int .i64 a0_0, (.slice A0_1 l0_1.length c0_1)] 30 (0, 0))) ∧ Aside0 (Below w.heap.size w wc))
 case first =>
  have H := HC6.out; clear HC6; replace H := (ob H); obtain ⟨t102, A70, H⟩ := H; (try dsimp only at H); have A7 := Aside0.mk A70; clear A70
  by_cases c8 : t102 = true
  ·subst c8
   have H1 : ((spec_l2Node.f a0_0 l0_1 a1).bind fun t103 => (if t103 = true then ((spec_l2Node.f a0_0 l0_1 a2).bind fun t104 => (spec_FirstWay.j0 k a1 a2 (!t104) a0_0 l0_1)) else (spec_FirstWay.j0 k a1 a2 true a0_0 l0_1))) = some (r1, r2) := by rw [if_pos rfl] at H; exact H
   clear H; have H := H1; clear H1; replace H := (ob H); obtain ⟨t103, A90, H⟩ := H; (try dsimp only at H); have A9 := Aside0.mk A90; clear A90
   by_cases c10 : t103 = true
   ·subst c10
    have H1 : ((spec_l2Node.f a0_0 l0_1 a2).bind fun t104 => (spec_FirstWay.j0 k a1 a2 (!t104) a0_0 l0_1)) = some (r1, r2) := by rw [if_pos rfl] at H; exact H
    clear H; have H := H1; clear H1; replace H := (ob H); obtain ⟨t104, A110, H⟩ := H; (try dsimp only at H); have A11 := Aside0.mk A110; clear A110; have H' := Aside0.mk H; clear H; obtain ⟨hcz12_0, hfz12_0, hcz12_1, hfz12_1⟩ := b2 BK101
    go_wp2_with (first | ((with_reducible refine gate_callee (f := 120) rfl ?_); refine goesL_ (some 12) rfl rfl Try.func120 (by kernel_rfl) rfl #[.agg #[.int .i64 a0_0, .slice A0_1 l0_1.length c0_1]] rfl Q3 ?_; (with_reducible refine (spec_l2Good.calls k a0_0 _ _ l0_1 true _ ?side1 ?side2 A7.out).mono ?_); (case side1 => exact (Q7 HR0_1 HB)); (case side2 => exact HC0_1.out); rintro e w13 ⟨rfl, hb⟩; refine ⟨_, rfl, ?_⟩; replace BK101 := bb BK101 hb; replace HB := bs HB hb; (try clear hb); (try clear hb2); (try clear hk); (try clear hi); obtain ⟨hcz14_0, hfz14_0, hcz14_1, hfz14_1⟩ := b2 BK101) | (go_at_call 125; (with_reducible refine (spec_l2Node.calls a0_0 _ _ l0_1 a1 true _ ?side1 ?side2 A9.out).mono ?_); (case side1 => exact (Q7 HR0_1 HB)); (case side2 => exact HC0_1.out); rintro e w15 ⟨rfl, hb⟩; replace BK101 := bb BK101 hb; replace HB := bs HB hb; (try clear hb); (try clear hb2); (try clear hk); (try clear hi); obtain ⟨hcz16_0, hfz16_0, hcz16_1, hfz16_1⟩ := b2 BK101) | (go_at_call 125; (with_reducible refine (spec_l2Node.calls a0_0 _ _ l0_1 a2 t104 _ ?side1 ?side2 A11.out).mono ?_); (case side1 => exact (Q7 HR0_1 HB)); (case side2 => exact HC0_1.out); rintro e w17 ⟨rfl, hb⟩; replace BK101 := bb BK101 hb; replace HB := bs HB hb; (try clear hb); (try clear hb2); (try clear hk); (try clear hi)))
    go_meet
    case rel => exact ⟨_, (!t104), Q9, H', ⟨Q75⟩, ⟨Q1 BK101⟩, ⟨Q0 HB⟩⟩
   ·replace c10 := Bool.eq_false_iff.mpr c10
    subst c10; have H1 : (spec_FirstWay.j0 k a1 a2 true a0_0 l0_1) = some (r1, r2) := by rw [if_neg (show ¬ (false = true) by decide)] at H; exact H
    clear H; have H := H1; clear H1; have H' := Aside0.mk H; clear H; obtain ⟨hcz18_0, hfz18_0, hcz18_1, hfz18_1⟩ := b2 BK101
    go_wp2_with (first | ((with_reducible refine gate_callee (f := 120) rfl ?_); refine goesL_ (some 12) rfl rfl Try.func120 (by kernel_rfl) rfl #[.agg #[.int .i64 a0_0, .slice A0_1 l0_1.length c0_1]] rfl Q3 ?_; (with_reducible refine (spec_l2Good.calls k a0_0 _ _ l0_1 true _ ?side1 ?side2 A7.out).mono ?_); (case side1 => exact (Q7 HR0_1 HB)); (case side2 => exact HC0_1.out); rintro e w19 ⟨rfl, hb⟩; refine ⟨_, rfl, ?_⟩; replace BK101 := bb BK101 hb; replace HB := bs HB hb; (try clear hb); (try clear hb2); (try clear hk); (try clear hi); obtain ⟨hcz20_0, hfz20_0, hcz20_1, hfz20_1⟩ := b2 BK101) | (go_at_call 125; (with_reducible refine (spec_l2Node.calls a0_0 _ _ l0_1 a1 false _ ?side1 ?side2 A9.out).mono ?_); (case side1 => exact (Q7 HR0_1 HB)); (case side2 => exact HC0_1.out); rintro e w21 ⟨rfl, hb⟩; replace BK101 := bb BK101 hb; replace HB := bs HB hb; (try clear hb); (try clear hb2); (try clear hk); (try clear hi)))
    go_meet
    case rel => exact ⟨_, (true), Q9, H', ⟨Q75⟩, ⟨Q1 BK101⟩, ⟨Q0 HB⟩⟩
  ·replace c8 := Bool.eq_false_iff.mpr c8
   subst c8; have H1 : (spec_FirstWay.j0 k a1 a2 true a0_0 l0_1) = some (r1, r2) := by rw [if_neg (show ¬ (false = true) by decide)] at H; exact H
   clear H; have H := H1; clear H1; have H' := Aside0.mk H; clear H; obtain ⟨hcz22_0, hfz22_0, hcz22_1, hfz22_1⟩ := b2 BK101
   go_wp2_with (first | ((with_reducible refine gate_callee (f := 120) rfl ?_); refine goesL_ (some 12) rfl rfl Try.func120 (by kernel_rfl) rfl #[.agg #[.int .i64 a0_0, .slice A0_1 l0_1.length c0_1]] rfl Q3 ?_; (with_reducible refine (spec_l2Good.calls k a0_0 _ _ l0_1 false _ ?side1 ?side2 A7.out).mono ?_); (case side1 => exact (Q7 HR0_1 HB)); (case side2 => exact HC0_1.out); rintro e w23 ⟨rfl, hb⟩; refine ⟨_, rfl, ?_⟩; replace BK101 := bb BK101 hb; replace HB := bs HB hb; (try clear hb); (try clear hb2); (try clear hk); (try clear hi)))
   go_meet
   case rel => exact ⟨_, (true), Q9, H', ⟨Q75⟩, ⟨Q1 BK101⟩, ⟨Q0 HB⟩⟩
 case rest =>
  clear HC6
  obtain ⟨kq, x25_5, rfl, HA, HJ5, BK101, HB⟩ := hcut
  cases kq with
  | zero => exact absurd HA.out (by simp [spec_FirstWay.j0])
  | succ kj5 =>
   have H := HA.out; clear HA
   simp only [spec_FirstWay.j0] at H
   by_cases c24 : x25_5 = true
   ·subst c24
    have H1 : (some ((([] : List Int)), false)) = some (r1, r2) := by rw [if_pos rfl] at H; exact H
    clear H; have H := H1; clear H1; obtain ⟨y105, hy105⟩ : ∃ y_ : List Int, y_ = (([] : List Int)) := ⟨_, rfl⟩; replace H : (some (y105, false)) = some (r1, r2) := RH hy105 H; have Ny105 := Aside0.mk hy105; clear hy105
    simp only [Option.some.injEq, Prod.mk.injEq] at H
    obtain ⟨rfl, rfl⟩ := H
    go_wp2_with (first | ((with_reducible refine gate_dst (N := 26) rfl ?_); refine Kd.R_lit (Kd.int .i64) _ 3 (by rfl) (N := 26) (by rfl) (xs := ([] : List Int)) (inner := []) (ok := fun _ => True) (okp := fun _ => True) Qr ?hp (fun _ hk => hk) trivial (Below.refl _ _) (Nat.le_refl _) (by simp) ?_; (case hp => exact (Reps.none _ _)); intro v106 w25 ho26 hb hg_ hnew_; clear hg_ hnew_; (first | rw [← Ny105.out] at ho26 | (simp only [Int.reduceToNat] at ho26; rw [← Ny105.out] at ho26)); have HO107 := am (Kd.R_lower ho26 (below_size (Q0 HB))); replace BK101 := bb BK101 hb; replace HB := bs HB hb; clear hb ho26))
    go_ret2
    exact ⟨_, Q10, Q2 HO107, Q0 HB⟩
   ·replace c24 := Bool.eq_false_iff.mpr c24
    subst c24; have H1 : ((spec_l2Dist.f kj5 a0_0 l0_1).bind fun t108 => (if 0 ≤ a1 then (if a1 < (t108.length : Int) then (if 0 ≤ a2 then (if a2 < ((rd_L6 t108 a1).length : Int) then (if (rd (rd_L6 t108 a1) a2) < 0 then (some ((([] : List Int)), false)) else (spec_FirstWay.l0 kj5 a1 a2 t108 (([a1] : List Int)) a0_0 l0_1)) else (none)) else (none)) else (none)) else (none))) = some (r1, r2) := by rw [if_neg (show ¬ (false = true) by decide)] at H; exact H
    clear H; have H := H1; clear H1; replace H := (ob H); obtain ⟨t108, A270, H⟩ := H; (try dsimp only at H); have A27 := Aside0.mk A270; clear A270
    by_cases c28 : 0 ≤ a1
    ·rw [if_pos c28] at H
     have c28b0 := decide_eq_true c28; clear c28
     obtain ⟨c29, H⟩ := ifn H
     have c29b0 := decide_eq_true c29; clear c29
     obtain ⟨c30, H⟩ := ifn H
     have c30b0 := decide_eq_true c30; clear c30
     obtain ⟨c31, H⟩ := ifn H
     have c31b0 := decide_eq_true c31; clear c31; have HU32 := Aside0.mk H; clear H; obtain ⟨hcz33_0, hfz33_0, hcz33_1, hfz33_1⟩ := b2 BK101
     go_upto_if 36 with (first | ((with_reducible refine gate_callee (f := 157) rfl ?_); refine goesL_ (some 28) rfl rfl Try.func157 (by kernel_rfl) rfl #[.agg #[.int .i64 a0_0, .slice A0_1 l0_1.length c0_1]] rfl Q3 ?_; (with_reducible refine (spec_l2Dist.calls kj5 a0_0 _ _ l0_1 t108 _ ?side1 ?side2 A27.out).mono ?_); (case side1 => exact (Q7 HR0_1 HB)); (case side2 => exact HC0_1.out); rintro e w34 ⟨v109, rfl, ho0, hb⟩; refine ⟨_, rfl, ?_⟩; have HO110 := am (Kd.S_lower ho0 (below_size (Q0 HB))); replace BK101 := bb BK101 hb; replace HB := bs HB hb; (try clear hb); (try clear hb2); (try clear hk); (try clear hi); (try clear ho0); obtain ⟨Ao35, co35, eo35⟩ := Kd.S_slice HO110.out; subst eo35; have p111 : 0 ≤ (a1 : Int) := D4; have q111 : a1 < (t108.length : Int) := D4; obtain ⟨ad111, A111_0, c111_0, e111, hx111_0, hl111_0, hi111_0⟩ := at_L6 (Kd.S_reads' HO110.out).2.2 a1 p111 q111; cases e111; obtain ⟨ce111, hce111, hMe111, hcc111⟩ := Kd.S_get HO110.out [] a1 p111 (by first | exact q111 | exact D4 | (have e_ := (Kd.S_reads' HO110.out).1; omega)); obtain ⟨ve111_0, rfl, ge111_0⟩ := hMe111; have hv111_0 := hcc111 0 _ rfl; rw [Nat.add_zero, show ((Kd.slice 3 (Kd.int .i64))).sz = 1 from rfl, Nat.mul_one] at hv111_0; replace hv111_0 := Option.some.inj (hv111_0.symm.trans hx111_0); rw [hv111_0] at ge111_0; have HL111_0 := am (show Kd.R (Kd.int .i64) 3 _ _ _ _ (rd_L6 t108 a1) from ge111_0); clear hv111_0 ge111_0; clear hcc111 hce111; have HR111_0 := Aside0.mk hi111_0; have HC111_0 := Aside0.mk hl111_0; clear hi111_0 hl111_0; replace p111 := eq_true p111; replace q111 := eq_true q111; have p112 : 0 ≤ (a2 : Int) := D4; have q112 : a2 < ((rd_L6 t108 a1).length : Int) := D4; obtain ⟨ad112, e112, hx112_0⟩ := Kd.at_int (Q12 HR111_0) a2 p112 q112; cases e112; replace p112 := eq_true p112; replace q112 := eq_true q112))
     (try simp only [Act.put, List.setIfInBounds_toArray, List.set_cons_zero, List.set_cons_succ]); have H := HU32.out; clear HU32
     by_cases c36 : (rd (rd_L6 t108 a1) a2) < 0
     ·rw [if_pos c36] at H
      have c36b0 := decide_eq_true c36; clear c36
      (first | rw [c36b0] | (simp only [i64_w, i32_w]; rw [c36b0]) | skip)
      obtain ⟨y113, hy113⟩ : ∃ y_ : List Int, y_ = (([] : List Int)) := ⟨_, rfl⟩; replace H : (some (y113, false)) = some (r1, r2) := RH hy113 H; have Ny113 := Aside0.mk hy113; clear hy113
      simp only [Option.some.injEq, Prod.mk.injEq] at H
      obtain ⟨rfl, rfl⟩ := H
      go_wp2_with (first | ((with_reducible refine gate_dst (N := 37) rfl ?_); refine Kd.R_lit (Kd.int .i64) _ 3 (by rfl) (N := 37) (by rfl) (xs := ([] : List Int)) (inner := []) (ok := fun _ => True) (okp := fun _ => True) Qr ?hp (fun _ hk => hk) trivial (Below.refl _ _) (Nat.le_refl _) (by simp) ?_; (case hp => exact (Reps.none _ _)); intro v114 w37 ho38 hb hg_ hnew_; clear hg_ hnew_; (first | rw [← Ny113.out] at ho38 | (simp only [Int.reduceToNat] at ho38; rw [← Ny113.out] at ho38)); replace HO110 := am (Kd.S_elder' (Q32 HO110) (Kd.R_base ho38) hb); have HO115 := am (Kd.R_lower (Kd.R_new' ho38 (Kd.R_lt Q80)) (below_size (Q0 HB))); replace HL111_0 := am (Kd.R_elder' Q80 (Kd.R_base ho38) hb); replace BK101 := bb BK101 hb; replace HR111_0 := am (Kd.C_below (Q12 HR111_0) hb); replace HB := bs HB hb; clear hb ho38))
      go_ret2
      exact ⟨_, Q10, Q35 HO115, Q0 HB⟩
     ·rw [if_neg c36] at H
      have c36b0 := decide_eq_false c36; clear c36
      (first | rw [c36b0] | (simp only [i64_w, i32_w]; rw [c36b0]) | skip)
      obtain ⟨y116, hy116⟩ : ∃ y_ : List Int, y_ = (([a1] : List Int)) := ⟨_, rfl⟩; replace H : (spec_FirstWay.l0 kj5 a1 a2 t108 y116 a0_0 l0_1) = some (r1, r2) := RH hy116 H; have Ny116 := Aside0.mk hy116; clear hy116; have H' := Aside0.mk H; clear H
      go_wp2_with (first | ((with_reducible refine gate_dst (N := 39) rfl ?_); refine Kd.R_lit (Kd.int .i64) _ 3 (by rfl) (N := 39) (by rfl) (xs := ([a1] : List Int)) (inner := [.int .i64 a1]) (ok := fun _ => True) (okp := fun _ => True) Qr ?hp (fun _ hk => hk) trivial (Below.refl _ _) (Nat.le_refl _) (by simp) ?_; (case hp => exact (Reps.one (show Kd.M (Kd.int .i64) _ _ _ a1 [.int .i64 a1] from rfl) (Reps.none _ _))); intro v117 w39 ho40 hb hg_ hnew_; clear hg_ hnew_; (first | rw [← Ny116.out] at ho40 | (simp only [Int.reduceToNat] at ho40; rw [← Ny116.out] at ho40)); replace HO110 := am (Kd.S_elder' (Q32 HO110) (Kd.R_base ho40) hb); have HO118 := am (Kd.R_lower (Kd.R_new' ho40 (Kd.R_lt Q80)) (below_size (Q0 HB))); replace HL111_0 := am (Kd.R_elder' Q80 (Kd.R_base ho40) hb); replace BK101 := bb BK101 hb; replace HR111_0 := am (Kd.C_below (Q12 HR111_0) hb); replace HB := bs HB hb; clear hb ho40))
      go_loopg [1, 9] kj5 (fun kq v1 v9 w' => ∃ (x1_2 : Int) (x9_2 : List Int), v1 = .int .i64 x1_2 ∧ Aside0 (spec_FirstWay.l0 kq x1_2 a2 t108 x9_2 a0_0 l0_1 = some (r1, r2)) ∧ Aside0 (kq ≤ kj5) ∧ Aside0 (Kd.S (Kd.slice 3 (Kd.int .i64)) 25 w' w.heap.size (fun k_ => some k_ ≠ (v9 : Value).ownBlock) (.slice (some ad111) t108.length co35) t108) ∧ Aside0 (Kd.R (Kd.int .i64) 3 w' w.heap.size (fun _ => True) v9 x9_2) ∧ Aside0 (w'.heap[gb101]? = some (.cells #[.int .i64 a0_0, (.slice A0_1 l0_1.length c0_1)] 30 (0, 0))) ∧ Aside0 (Below w.heap.size w w'))
      case atStart => exact ⟨(a1), (y116), Q9, H', ⟨Nat.le_refl _⟩, ⟨Q100 HO110⟩, ⟨Q35 HO118⟩, ⟨Q1 BK101⟩, ⟨Q0 HB⟩⟩
      case round =>
       clear H'
       obtain ⟨x1_2, x9_2, rfl, HA, HK2, HO_8, HO_9, BK101, HB⟩ := hrel
       cases gk with
       | zero => exact absurd HA.out (by simp [spec_FirstWay.l0])
       | succ k2 =>
        have H := HA.out; clear HA
        simp only [spec_FirstWay.l0] at H
        by_cases c41 : x1_2 = a2
        ·rw [if_pos c41] at H
         have c41b0 := beq_iff_eq.mpr c41; have c41b1 := bne_eq_false_iff_eq.mpr c41; clear c41
         simp only [Option.some.injEq, Prod.mk.injEq] at H
         obtain ⟨rfl, rfl⟩ := H
         go_wp2
         go_ret2
         exact ⟨_, Q10, Q34, Q0 HB⟩
        ·rw [if_neg c41] at H
         have c41b0 := beq_eq_false_iff_ne.mpr c41; have c41b1 := bne_iff_ne.mpr c41; have H' := Aside0.mk H; clear H
         go_wp2
         go_loopg [10] k2 (fun kq v10 w' => ∃ (x10_3 : Int), v10 = .int .i64 x10_3 ∧ Aside0 (spec_FirstWay.l1 kq x1_2 a2 t108 x9_2 x10_3 a0_0 l0_1 = some (r1, r2)) ∧ Aside0 (kq ≤ k2) ∧ Aside0 (Kd.S (Kd.slice 3 (Kd.int .i64)) 25 w' w.heap.size (fun k_ => some k_ ≠ (u9 : Value).ownBlock) (.slice (some ad111) t108.length co35) t108) ∧ Aside0 (Kd.R (Kd.int .i64) 3 w' w.heap.size (fun _ => True) u9 x9_2) ∧ Aside0 (w'.heap[gb101]? = some (.cells #[.int .i64 a0_0, (.slice A0_1 l0_1.length c0_1)] 30 (0, 0))) ∧ Aside0 (Below w.heap.size w w'))
         case atStart => exact ⟨(0), Q9, H', ⟨Nat.le_refl _⟩, ⟨Q51⟩, ⟨Q34⟩, ⟨Q1 BK101⟩, ⟨Q0 HB⟩⟩
         case round =>
          clear H'
          obtain ⟨x10_3, rfl, HA, HK3, HO_8, HO_9, BK101, HB⟩ := hrel
          cases gk with
          | zero => exact absurd HA.out (by simp [spec_FirstWay.l1])
          | succ k3 =>
           have H := HA.out; clear HA
           simp only [spec_FirstWay.l1] at H
           replace H := (ob H); obtain ⟨t119, A420, H⟩ := H; (try dsimp only at H); have A42 := Aside0.mk A420; clear A420
           by_cases c43 : t119 = true
           ·subst c43
            have H1 : (if 0 ≤ x10_3 then (if x10_3 < (t108.length : Int) then (if 0 ≤ a2 then (if a2 < ((rd_L6 t108 x10_3).length : Int) then (if 0 ≤ x1_2 then (if x1_2 < (t108.length : Int) then (if a2 < ((rd_L6 t108 x1_2).length : Int) then (if (rd (rd_L6 t108 x10_3) a2) = (wrap64 ((rd (rd_L6 t108 x1_2) a2) - 1)) then (if x9_2.length < 17592186044416 then (spec_FirstWay.l0 k3 x10_3 a2 t108 (x9_2 ++ [x10_3]) a0_0 l0_1) else (none)) else (spec_FirstWay.l1 k3 x1_2 a2 t108 x9_2 (wrap64 (x10_3 + 1)) a0_0 l0_1)) else (none)) else (none)) else (none)) else (none)) else (none)) else (none)) else (none)) = some (r1, r2) := by rw [if_pos rfl] at H; exact H
            clear H; have H := H1; clear H1
            obtain ⟨c44, H⟩ := ifn H
            have c44b0 := decide_eq_true c44; clear c44
            obtain ⟨c45, H⟩ := ifn H
            have c45b0 := decide_eq_true c45; clear c45
            obtain ⟨c46, H⟩ := ifn H
            have c46b0 := decide_eq_true c46; clear c46
            obtain ⟨c47, H⟩ := ifn H
            have c47b0 := decide_eq_true c47; clear c47
            obtain ⟨c48, H⟩ := ifn H
            have c48b0 := decide_eq_true c48; clear c48
            obtain ⟨c49, H⟩ := ifn H
            have c49b0 := decide_eq_true c49; clear c49
            obtain ⟨c50, H⟩ := ifn H
            have c50b0 := decide_eq_true c50; clear c50; have HU51 := Aside0.mk H; clear H
            try go_wp2
            replace HO_8 := am (Kd.S_drew HO_8.out); replace HO_9 := am (Kd.R_drew HO_9.out); replace BK101 := am (blk_drew BK101.out); replace HB := am (below_drew1 HB.out); have p120 : 0 ≤ (x10_3 : Int) := D4; have q120 : x10_3 < (t108.length : Int) := D4; obtain ⟨ad120, A120_0, c120_0, e120, hx120_0, hl120_0, hi120_0⟩ := at_L6 (Kd.S_reads' HO_8.out).2.2 x10_3 p120 q120; obtain rfl : ad111 = ad120 := (by injection e120); obtain ⟨ce120, hce120, hMe120, hcc120⟩ := Kd.S_get HO_8.out [] x10_3 p120 (by first | exact q120 | exact D4 | (have e_ := (Kd.S_reads' HO_8.out).1; omega)); obtain ⟨ve120_0, rfl, ge120_0⟩ := hMe120; have hv120_0 := hcc120 0 _ rfl; rw [Nat.add_zero, show ((Kd.slice 3 (Kd.int .i64))).sz = 1 from rfl, Nat.mul_one] at hv120_0; replace hv120_0 := Option.some.inj (hv120_0.symm.trans hx120_0); rw [hv120_0] at ge120_0; have HL120_0 := am (show Kd.R (Kd.int .i64) 3 _ _ _ _ (rd_L6 t108 x10_3) from ge120_0); clear hv120_0 ge120_0; clear hcc120 hce120; have HR120_0 := Aside0.mk hi120_0; have HC120_0 := Aside0.mk hl120_0; clear hi120_0 hl120_0; replace p120 := eq_true p120; replace q120 := eq_true q120; have p122 : 0 ≤ (x1_2 : Int) := D4; have q122 : x1_2 < (t108.length : Int) := D4; obtain ⟨ad122, A122_0, c122_0, e122, hx122_0, hl122_0, hi122_0⟩ := at_L6 (Kd.S_reads' HO_8.out).2.2 x1_2 p122 q122; obtain rfl : ad111 = ad122 := (by injection e122); obtain ⟨ce122, hce122, hMe122, hcc122⟩ := Kd.S_get HO_8.out [] x1_2 p122 (by first | exact q122 | exact D4 | (have e_ := (Kd.S_reads' HO_8.out).1; omega)); obtain ⟨ve122_0, rfl, ge122_0⟩ := hMe122; have hv122_0 := hcc122 0 _ rfl; rw [Nat.add_zero, show ((Kd.slice 3 (Kd.int .i64))).sz = 1 from rfl, Nat.mul_one] at hv122_0; replace hv122_0 := Option.some.inj (hv122_0.symm.trans hx122_0); rw [hv122_0] at ge122_0; have HL122_0 := am (show Kd.R (Kd.int .i64) 3 _ _ _ _ (rd_L6 t108 x1_2) from ge122_0); clear hv122_0 ge122_0; clear hcc122 hce122; have HR122_0 := Aside0.mk hi122_0; have HC122_0 := Aside0.mk hl122_0; clear hi122_0 hl122_0; replace p122 := eq_true p122; replace q122 := eq_true q122; have p121 : 0 ≤ (a2 : Int) := D4; have q121 : a2 < ((rd_L6 t108 x10_3).length : Int) := D4; obtain ⟨ad121, e121, hx121_0⟩ := Kd.at_int (Q12 HR120_0) a2 p121 q121
            cases e121
            replace p121 := eq_true p121; replace q121 := eq_true q121; have p123 : 0 ≤ (a2 : Int) := D4; have q123 : a2 < ((rd_L6 t108 x1_2).length : Int) := D4; obtain ⟨ad123, e123, hx123_0⟩ := Kd.at_int (Q12 HR122_0) a2 p123 q123
            cases e123
            replace p123 := eq_true p123; replace q123 := eq_true q123; refine start_ (n := 23) (S := fun w' => w'.cell? ⟨gb101, 0, none⟩ = some (.int .i64 a0_0) ∧ w'.cell? ⟨gb101, 1, none⟩ = some (.slice A0_1 l0_1.length c0_1) ∧ w'.cell? (ad111.add (x10_3).toNat) = some (.slice (some ad121) (rd_L6 t108 x10_3).length c120_0) ∧ w'.cell? (ad121.add (a2).toNat) = some (.int .i64 (rd (rd_L6 t108 x10_3) a2)) ∧ w'.cell? (ad111.add (x1_2).toNat) = some (.slice (some ad123) (rd_L6 t108 x1_2).length c122_0) ∧ w'.cell? (ad123.add (a2).toNat) = some (.int .i64 (rd (rd_L6 t108 x1_2) a2))) (ds := []) #[false, false, false, false, false, false, false, false, false, false, false, false, false, false, false, false, false, false, false, false, false, false, false] (by kernel_rfl) rfl rfl ⟨(blk_cell BK101.out 0).trans rfl, (blk_cell BK101.out 1).trans rfl, hx120_0, hx121_0, hx122_0, hx123_0⟩ (fun hHeld => ?_); refine with_tabW spec_FirstWay.tab9 spec_FirstWay.bits9 (fun HT_ HW_ => ?_); generalize wr.drew = w52 at HO_8 HO_9 BK101 HB HL120_0 HL122_0 HR120_0 HR122_0 hx120_0 hx121_0 hx122_0 hx123_0 hHeld ⊢; refine pq 1 44 rfl rfl HT_ ?_; refine pq 2 45 rfl rfl HT_ ?_; refine tq6 0 43 rfl rfl HT_ HW_ hHeld ?_; refine oq 3 46 rfl rfl HT_ (fun K hK => ?_); refine goes_ Try.func137 (by kernel_rfl) rfl #[.agg #[.int .i64 a0_0, .slice A0_1 l0_1.length c0_1], .int .i64 x1_2, .int .i64 x10_3] (by rfl) rfl rfl Q3 ?_
            with_reducible refine (spec_l2Near.calls k3 a0_0 _ _ l0_1 x1_2 x10_3 true _ ?side1 ?side2 A42.out).mono ?_
            (case side1 => exact (Q7 HR0_1 HB))
            (case side2 => exact HC0_1.out)
            rintro e w53 ⟨rfl, hb⟩; have HS2_ := (hb.cell (World.block_lt_of_cell? _ _ (hHeld.2.2.1))).trans (hHeld.2.2.1); have HS3_ := (hb.cell (World.block_lt_of_cell? _ _ (hHeld.2.2.2.1))).trans (hHeld.2.2.2.1); have HS4_ := (hb.cell (World.block_lt_of_cell? _ _ (hHeld.2.2.2.2.1))).trans (hHeld.2.2.2.2.1); have HS5_ := (hb.cell (World.block_lt_of_cell? _ _ (hHeld.2.2.2.2.2))).trans (hHeld.2.2.2.2.2); refine ⟨_, rfl, ?_⟩; replace HO_8 := am (Kd.S_below Q51 hb); replace HO_9 := am (Kd.R_below Q34 hb); replace BK101 := bb BK101 hb; replace HB := bs HB hb; (try clear hb); (try clear hb2); (try clear hk); (try clear hi); refine hK.out _ _ ⟨(blk_cell BK101.out 0).trans rfl, (blk_cell BK101.out 1).trans rfl, HS2_, HS3_, HS4_, HS5_⟩ (fun hHeld => ?_); clear hK K; refine nz ?_
            refine pq 4 47 rfl rfl HT_ ?_; refine pq 5 48 rfl rfl HT_ ?_; refine pq 6 49 rfl rfl HT_ ?_; refine pq 7 50 rfl rfl HT_ ?_; refine pq 8 51 rfl rfl HT_ ?_; refine pq 10 53 rfl rfl HT_ ?_; refine pq 13 56 rfl rfl HT_ ?_; refine pq 14 57 rfl rfl HT_ ?_; refine pq 15 58 rfl rfl HT_ ?_; refine pq 17 60 rfl rfl HT_ ?_; refine tq6 9 52 rfl rfl HT_ HW_ hHeld ?_; refine pq 11 54 rfl rfl HT_ ?_; refine tq6 12 55 rfl rfl HT_ HW_ hHeld ?_; refine tq6 16 59 rfl rfl HT_ HW_ hHeld ?_; refine pq 18 61 rfl rfl HT_ ?_; refine tq6 19 62 rfl rfl HT_ HW_ hHeld ?_; refine pq 20 63 rfl rfl HT_ ?_; refine pq 21 64 rfl rfl HT_ ?_; refine pq 22 65 rfl rfl HT_ ?_; refine done_ (done_of HT_.out (by kernel_rfl)) ?_
            go_upto_if 65 with (fail)
            have H := HU51.out; clear HU51
            by_cases c54 : (rd (rd_L6 t108 x10_3) a2) = (wrap64 ((rd (rd_L6 t108 x1_2) a2) - 1))
            ·rw [if_pos c54] at H
             have c54b0 := beq_iff_eq.mpr c54; have c54b1 := bne_eq_false_iff_eq.mpr c54; clear c54
             (first | rw [c54b0] | (simp only [i64_w, i32_w]; rw [c54b0]) | rw [c54b1] | skip)
             obtain ⟨c55, H⟩ := ifn H
             have LMc55 := Aside0.mk c55; clear c55; obtain ⟨y124, hy124⟩ : ∃ y_ : List Int, y_ = (x9_2 ++ [x10_3]) := ⟨_, rfl⟩; replace H : (spec_FirstWay.l0 k3 x10_3 a2 t108 y124 a0_0 l0_1) = some (r1, r2) := RH hy124 H; have Ny124 := Aside0.mk hy124; clear hy124; have H' := Aside0.mk H; clear H
             go_wp2_with (first | ((with_reducible refine gate_builtin (b := .append) (xs := #[.tmp 69, .tmp 71]) rfl ?_); at_builtin; refine Kd.R_append (Kd.int .i64) (w0 := w) w.heap.size rfl (.tmp 69) (.tmp 71) 25 3 (.int .i64 0) 8 rfl Try.underlying25 info3 rfl (by decide) (by omega) u9 x9_2 x10_3 [.int .i64 x10_3] (fun _ => True) (fun _ => False) rfl rfl ?aP (fun _ hk => hk.elim) ?aF ?aO ?aB ?aS ?aL ?_; (case aP => exact rfl); (case aB => exact (Q0 HB)); (case aF => exact (fun _ _ => trivial)); (case aO => exact Q34); (case aS => exact (below_size (Q0 HB))); (case aL => have := LMc55.out; omega); intro v125 w56 ho hb hg hat; rw [← Ny124.out] at ho; replace HO_8 := am (Kd.S_after (ok := (fun _ => True)) Q48 hg hat); replace BK101 := am (blk_grown (g := gb101) (o := .cells #[.int .i64 a0_0, .slice A0_1 l0_1.length c0_1] 30 (0, 0)) (Q1 BK101) hg (Kd.R_ne HO_9.out BK101.out (by decide))); replace HB := am (hb); have HO126 := am (ho); clear HL120_0 HL122_0 HO_9; clear ho hb hg hat))
             go_roundg k3
             case measure => have := HJ5.out; have := HK2.out; have := HK3.out; omega
             case rel => exact ⟨(x10_3), (y124), Q9, H', ⟨by have := HJ5.out; have := HK2.out; have := HK3.out; omega⟩, ⟨Q94⟩, ⟨Q2 HO126⟩, ⟨Q1 BK101⟩, ⟨Q0 HB⟩⟩
            ·rw [if_neg c54] at H
             have c54b0 := beq_eq_false_iff_ne.mpr c54; have c54b1 := bne_iff_ne.mpr c54
             (first | rw [c54b0] | (simp only [i64_w, i32_w]; rw [c54b0]) | rw [c54b1] | skip)
             have H' := Aside0.mk H; clear H
             go_wp2
             go_roundg k3
             case measure => have := HJ5.out; have := HK2.out; have := HK3.out; omega
             case rel => exact ⟨(wrap64 (x10_3 + 1)), Q9, H', ⟨by have := HJ5.out; have := HK2.out; have := HK3.out; omega⟩, ⟨Q51⟩, ⟨Q34⟩, ⟨Q1 BK101⟩, ⟨Q0 HB⟩⟩
           ·replace c43 := Bool.eq_false_iff.mpr c43
            subst c43; have H1 : (spec_FirstWay.l1 k3 x1_2 a2 t108 x9_2 (wrap64 (x10_3 + 1)) a0_0 l0_1) = some (r1, r2) := by rw [if_neg (show ¬ (false = true) by decide)] at H; exact H
            clear H; have H := H1; clear H1; have HU57 := Aside0.mk H; clear H
            try go_wp2
            replace HO_8 := am (Kd.S_drew HO_8.out); replace HO_9 := am (Kd.R_drew HO_9.out); replace BK101 := am (blk_drew BK101.out); replace HB := am (below_drew1 HB.out); refine start_ (n := 23) (S := fun w' => w'.cell? ⟨gb101, 0, none⟩ = some (.int .i64 a0_0) ∧ w'.cell? ⟨gb101, 1, none⟩ = some (.slice A0_1 l0_1.length c0_1)) (ds := []) #[false, false, false, false, false, false, false, false, false, false, false, false, false, false, false, false, false, false, false, false, false, false, false] (by kernel_rfl) rfl rfl ⟨(blk_cell BK101.out 0).trans rfl, (blk_cell BK101.out 1).trans rfl⟩ (fun hHeld => ?_); refine with_tabW spec_FirstWay.tab9 spec_FirstWay.bits9 (fun HT_ HW_ => ?_); generalize wr.drew = w58 at HO_8 HO_9 BK101 HB hHeld ⊢; refine pq 1 44 rfl rfl HT_ ?_; refine pq 2 45 rfl rfl HT_ ?_; refine tq2 0 43 rfl rfl HT_ HW_ hHeld ?_; refine oq 3 46 rfl rfl HT_ (fun K hK => ?_); refine goes_ Try.func137 (by kernel_rfl) rfl #[.agg #[.int .i64 a0_0, .slice A0_1 l0_1.length c0_1], .int .i64 x1_2, .int .i64 x10_3] (by rfl) rfl rfl Q3 ?_
            with_reducible refine (spec_l2Near.calls k3 a0_0 _ _ l0_1 x1_2 x10_3 false _ ?side1 ?side2 A42.out).mono ?_
            (case side1 => exact (Q7 HR0_1 HB))
            (case side2 => exact HC0_1.out)
            rintro e w59 ⟨rfl, hb⟩; refine ⟨_, rfl, ?_⟩; replace HO_8 := am (Kd.S_below Q51 hb); replace HO_9 := am (Kd.R_below Q34 hb); replace BK101 := bb BK101 hb; replace HB := bs HB hb; (try clear hb); (try clear hb2); (try clear hk); (try clear hi); refine hK.out _ _ ⟨(blk_cell BK101.out 0).trans rfl, (blk_cell BK101.out 1).trans rfl⟩ (fun hHeld => ?_); clear hK K; refine nz ?_
            refine pq 4 47 rfl rfl HT_ ?_; refine pq 5 48 rfl rfl HT_ ?_; refine pu 6 49 rfl rfl HT_ ?_; refine pu 7 50 rfl rfl HT_ ?_; refine pu 8 51 rfl rfl HT_ ?_; refine pu 9 52 rfl rfl HT_ ?_; refine pu 10 53 rfl rfl HT_ ?_; refine pu 11 54 rfl rfl HT_ ?_; refine pu 12 55 rfl rfl HT_ ?_; refine pu 13 56 rfl rfl HT_ ?_; refine pu 14 57 rfl rfl HT_ ?_; refine pu 15 58 rfl rfl HT_ ?_; refine pu 16 59 rfl rfl HT_ ?_; refine pu 17 60 rfl rfl HT_ ?_; refine pu 18 61 rfl rfl HT_ ?_; refine pu 19 62 rfl rfl HT_ ?_; refine pu 20 63 rfl rfl HT_ ?_; refine pu 21 64 rfl rfl HT_ ?_; refine pq 22 65 rfl rfl HT_ ?_; refine done_ (done_of HT_.out (by kernel_rfl)) ?_
            go_upto_if 65 with (fail)
            have H := HU57.out; clear HU57; have H' := Aside0.mk H; clear H
            go_wp2
            go_roundg k3
            case measure => have := HJ5.out; have := HK2.out; have := HK3.out; omega
            case rel => exact ⟨(wrap64 (x10_3 + 1)), Q9, H', ⟨by have := HJ5.out; have := HK2.out; have := HK3.out; omega⟩, ⟨Q51⟩, ⟨Q34⟩, ⟨Q1 BK101⟩, ⟨Q0 HB⟩⟩
    ·rw [if_neg c28] at H
     exact absurd H (by simp)
/-! ### spec_l2Bits: function 192 -/
def spec_l2Bits.l0 : Nat → Int → Int → List Int → Int → Option (List Int)
 | 0, _, _, _, _ => none
 | k + 1, x0, x1, x5, x6 => if x6 < x0 then (if 0 ≤ x6 then (if (Go.bits .and .i64 (shr .i64 x1 x6) 1) = 1 then (if x5.length < 17592186044416 then (spec_l2Bits.l0 k x0 x1 (x5 ++ [x6]) (wrap64 (x6 + 1))) else (none)) else (spec_l2Bits.l0 k x0 x1 x5 (wrap64 (x6 + 1)))) else (none)) else (some x5)
def spec_l2Bits.f (k : Nat) (a0 : Int) (a1 : Int) : Option (List Int) := spec_l2Bits.l0 k a0 a1 (([] : List Int)) 0
theorem spec_l2Bits.mono_l : ∀ k, (∀ y0 y1 y2 y3, LeO (spec_l2Bits.l0 k y0 y1 y2 y3) (spec_l2Bits.l0 (k + 1) y0 y1 y2 y3))
 | 0 => fun _ _ _ _ r h => by simp [spec_l2Bits.l0] at h
 | k + 1 => by
  have ih0 := spec_l2Bits.mono_l k
  all_goals
   intros
   first | unfold spec_l2Bits.l0
   repeat' first | (with_reducible first | exact ih0 _ _ _ _ | exact LeO.refl _ | exact LeO.none _ | refine LeO.ite ?_ ?_ | refine LeO.bind ?_ (fun _ => ?_))
theorem spec_l2Bits.mono : ∀ a0 a1 k, LeO (spec_l2Bits.f k a0 a1) (spec_l2Bits.f (k + 1) a0 a1) := by
 intro a0 a1 k
 have ih0 := spec_l2Bits.mono_l k
 unfold spec_l2Bits.f
 repeat' first | (with_reducible first | exact ih0 _ _ _ _ | exact LeO.refl _ | exact LeO.none _ | refine LeO.ite ?_ ?_ | refine LeO.bind ?_ (fun _ => ?_))
set_option maxHeartbeats 8000000 in
set_option maxRecDepth 100000 in
theorem spec_l2Bits.calls (k : Nat) (a0 : Int) (a1 : Int) (r : List Int) (w : World) (h : spec_l2Bits.f k a0 a1 = some r) :
  Calls Try.prog 192 #[.int .i64 a0, .int .i64 a1] w fun e w' => ∃ v0_ : Value, e = .returned (v0_) ∧ Kd.R (Kd.int .i64) 3 w' w.heap.size (fun _ => True) v0_ r ∧ Below w.heap.size w w' := by
 have HB := am (Below.refl w.heap.size w)
 have H : (spec_l2Bits.l0 k a0 a1 (([] : List Int)) 0) = some r := h
 clear h
 obtain ⟨y101, hy101⟩ : ∃ y_ : List Int, y_ = (([] : List Int)) := ⟨_, rfl⟩
 replace H : (spec_l2Bits.l0 k a0 a1 y101 0) = some r := RH hy101 H
 have Ny101 := Aside0.mk hy101
 clear hy101
 have H' := Aside0.mk H
 clear H
 go_enter Try.func192, Try.ntmps192
 go_wp2_with (first | ((with_reducible refine gate_dst (N := 7) rfl ?_); refine Kd.R_lit (Kd.int .i64) _ 3 (by rfl) (N := 7) (by rfl) (xs := ([] : List Int)) (inner := []) (ok := fun _ => True) (okp := fun _ => True) Qr ?hp (fun _ hk => hk) trivial (Below.refl _ _) (Nat.le_refl _) (by simp) ?_; (case hp => exact (Reps.none _ _)); intro v102 w3 ho4 hb hg_ hnew_; clear hg_ hnew_; (first | rw [← Ny101.out] at ho4 | (simp only [Int.reduceToNat] at ho4; rw [← Ny101.out] at ho4)); have HO103 := am (Kd.R_lower ho4 (below_size (Q0 HB))); replace HB := bs HB hb; clear hb ho4))
 go_loopg [5, 6] k (fun kq v5 v6 w' => ∃ (x5_1 : List Int) (x6_1 : Int), v6 = .int .i64 x6_1 ∧ Aside0 (spec_l2Bits.l0 kq a0 a1 x5_1 x6_1 = some r) ∧ Aside0 (kq ≤ k) ∧ Aside0 (Kd.R (Kd.int .i64) 3 w' w.heap.size (fun _ => True) v5 x5_1) ∧ Aside0 (Below w.heap.size w w'))
 case atStart => exact ⟨(y101), (0), Q9, H', ⟨Nat.le_refl _⟩, ⟨Q2 HO103⟩, ⟨Q0 HB⟩⟩
 case round =>
  clear H'
  obtain ⟨x5_1, x6_1, rfl, HA, HK1, HO_5, HB⟩ := hrel
  cases gk with
  | zero => exact absurd HA.out (by simp [spec_l2Bits.l0])
  | succ k1 =>
   have H := HA.out; clear HA
   simp only [spec_l2Bits.l0] at H
   by_cases c5 : x6_1 < a0
   ·rw [if_pos c5] at H
    have c5b0 := decide_eq_true c5; clear c5
    obtain ⟨c6, H⟩ := ifn H
    have c6b0 := eq_true c6; have c6b1 := decide_eq_true c6; clear c6; obtain ⟨ji7, hji7⟩ : ∃ j_ : Int, (shr .i64 a1 x6_1) = j_ := ⟨_, rfl⟩; replace H : (if (Go.bits .and .i64 (ji7) 1) = 1 then (if x5_1.length < 17592186044416 then (spec_l2Bits.l0 k1 a0 a1 (x5_1 ++ [x6_1]) (wrap64 (x6_1 + 1))) else (none)) else (spec_l2Bits.l0 k1 a0 a1 x5_1 (wrap64 (x6_1 + 1)))) = some r := by first | (rw [hji7] at H; exact H) | (simp only [hji7] at H ⊢; exact H)
    have hji7_ : (a1 / 2 ^ min x6_1.toNat 64) = ji7 := hji7; have hji7z : x6_1 ≤ 64 → (a1 / 2 ^ x6_1.toNat) = ji7 := shr_small hji7
    by_cases c8 : (Go.bits .and .i64 (ji7) 1) = 1
    ·rw [if_pos c8] at H
     have c8b0 := beq_iff_eq.mpr c8; have c8b1 := bne_eq_false_iff_eq.mpr c8; clear c8
     obtain ⟨c9, H⟩ := ifn H
     have LMc9 := Aside0.mk c9; clear c9; obtain ⟨y104, hy104⟩ : ∃ y_ : List Int, y_ = (x5_1 ++ [x6_1]) := ⟨_, rfl⟩; replace H : (spec_l2Bits.l0 k1 a0 a1 y104 (wrap64 (x6_1 + 1))) = some r := RH hy104 H; have Ny104 := Aside0.mk hy104; clear hy104; have H' := Aside0.mk H; clear H
     go_wp2_with (first | ((with_reducible refine gate_builtin (b := .append) (xs := #[.tmp 18, .tmp 20]) rfl ?_); at_builtin; refine Kd.R_append (Kd.int .i64) (w0 := w) w.heap.size rfl (.tmp 18) (.tmp 20) 25 3 (.int .i64 0) 8 rfl Try.underlying25 info3 rfl (by decide) (by omega) u5 x5_1 x6_1 [.int .i64 x6_1] (fun _ => True) (fun _ => False) rfl rfl ?aP (fun _ hk => hk.elim) ?aF ?aO ?aB ?aS ?aL ?_; (case aP => exact rfl); (case aB => exact (Q0 HB)); (case aF => exact (fun _ _ => trivial)); (case aO => exact Q36); (case aS => exact (below_size (Q0 HB))); (case aL => have := LMc9.out; omega); intro v105 w10 ho hb hg hat; rw [← Ny104.out] at ho; replace HB := am (hb); have HO106 := am (ho); clear HO_5; clear ho hb hg hat))
     go_roundg k1
     case measure => have := HK1.out; omega
     case rel => exact ⟨(y104), (wrap64 (x6_1 + 1)), Q9, H', ⟨Q54⟩, ⟨Q2 HO106⟩, ⟨Q0 HB⟩⟩
    ·rw [if_neg c8] at H
     have c8b0 := beq_eq_false_iff_ne.mpr c8; have c8b1 := bne_iff_ne.mpr c8; have H' := Aside0.mk H; clear H
     go_wp2
     go_roundg k1
     case measure => have := HK1.out; omega
     case rel => exact ⟨(x5_1), (wrap64 (x6_1 + 1)), Q9, H', ⟨Q54⟩, ⟨Q36⟩, ⟨Q0 HB⟩⟩
   ·rw [if_neg c5] at H
    have c5b0 := decide_eq_false c5; clear c5; obtain rfl := Option.some.inj H
    go_wp2
    go_ret
    exact ⟨_, Q10, Q36, Q0 HB⟩
/-! ### spec_l2All: function 128 -/
def spec_l2All.f (k : Nat) (a0_0 : Int) (l0_1 : List (S71)) : Option (List Int) := if 0 ≤ a0_0 then ((spec_l2Bits.f k a0_0 (wrap64 ((shl .i64 1 a0_0) - 1))).bind fun t102 => (some t102)) else (none)
theorem spec_l2All.mono : ∀ a0 a1 k, LeO (spec_l2All.f k a0 a1) (spec_l2All.f (k + 1) a0 a1) := by
 intro a0 a1 k
 unfold spec_l2All.f
 repeat' first | (with_reducible first | exact spec_l2Bits.mono _ _ _ | exact LeO.refl _ | exact LeO.none _ | refine LeO.ite ?_ ?_ | refine LeO.bind ?_ (fun _ => ?_))
def spec_l2All.T1 : Bool × List (List Nat × List Nat) := (true, [([], []), ([0], [0]), ([], []), ([2], [2]), ([3], [3]), ([4], [4]), ([1, 5], [1, 5]), ([6, 6, 0, 1, 2, 3, 4, 5, 6], [6])])
def spec_l2All.B1 : List Nat := [0, 1, 0, 4, 12, 28, 63, 127]
theorem spec_l2All.tab1 : rtab .any (opsOf Try.f128 1) = spec_l2All.T1 := by kernel_rfl
theorem spec_l2All.bits1 : waitsOk spec_l2All.T1.2 spec_l2All.B1 = true := by kernel_rfl
set_option maxHeartbeats 8000000 in
set_option maxRecDepth 100000 in
theorem spec_l2All.calls (k : Nat) (a0_0 : Int) (A0_1 : Option Addr) (c0_1 : Nat) (l0_1 : List (S71)) (r : List Int) (w : World) (hr0_1 : Kd.C k71 w A0_1 l0_1.length l0_1) (hc0_1 : l0_1.length ≤ c0_1) (h : spec_l2All.f k a0_0 l0_1 = some r) :
  Calls Try.prog 128 #[.agg #[.int .i64 a0_0, .slice A0_1 l0_1.length c0_1]] w fun e w' => ∃ v0_ : Value, e = .returned (v0_) ∧ Kd.R (Kd.int .i64) 3 w' w.heap.size (fun _ => True) v0_ r ∧ Below w.heap.size w w' := by
 have hu30 := Try.underlying30
 have HR0_1 := Aside0.mk hr0_1
 have HC0_1 := Aside0.mk hc0_1
 clear hr0_1 hc0_1
 have HB := am (Below.refl w.heap.size w)
 have H : (if 0 ≤ a0_0 then ((spec_l2Bits.f k a0_0 (wrap64 ((shl .i64 1 a0_0) - 1))).bind fun t102 => (some t102)) else (none)) = some r := h
 clear h
 by_cases c2 : 0 ≤ a0_0
 ·rw [if_pos c2] at H
  have c2b0 := eq_true c2; have c2b1 := decide_eq_true c2; clear c2; obtain ⟨ji3, hji3⟩ : ∃ j_ : Int, (shl .i64 1 a0_0) = j_ := ⟨_, rfl⟩; replace H : ((spec_l2Bits.f k a0_0 (wrap64 ((ji3) - 1))).bind fun t102 => (some t102)) = some r := by first | (rw [hji3] at H; exact H) | (simp only [hji3] at H ⊢; exact H)
  have hji3_ : (IntKind.i64.wrap (1 * 2 ^ min a0_0.toNat 64)) = ji3 := hji3; have hji3z : a0_0 ≤ 64 → (IntKind.i64.wrap (1 * 2 ^ a0_0.toNat)) = ji3 := shl_small hji3; have hji3u : (IntKind.i64.wrap (2 ^ min a0_0.toNat 64)) = ji3 := by have h_ := hji3_; rw [Int.one_mul] at h_; exact h_
  have hji3v : a0_0 ≤ 64 → (IntKind.i64.wrap (2 ^ a0_0.toNat)) = ji3 := fun hle_ => by have h_ := hji3z hle_; rw [Int.one_mul] at h_; exact h_
  have hji3y : (wrap64 (1 * 2 ^ min a0_0.toNat 64)) = ji3 := (i64_w _).symm.trans hji3_; have hji3x : a0_0 ≤ 64 → (wrap64 (1 * 2 ^ a0_0.toNat)) = ji3 := fun h_ => (i64_w _).symm.trans (hji3z h_)
  replace H := (ob H); obtain ⟨t102, A40, H⟩ := H; (try dsimp only at H); have A4 := Aside0.mk A40; clear A40; obtain rfl := Option.some.inj H
  go_enter Try.func128, Try.ntmps128
  try go_wp2_with (first | ((with_reducible refine gate_dst (N := 1) rfl ?_); refine box_event (by rfl) (N := 1) (by rfl) (cs := #[.int .i64 a0_0, .slice A0_1 l0_1.length c0_1]) (t := 30) Qr ?_; intro gb101 hg w5 hbox hb; have BK101 := am (hbox); have GW101 := am ((Q26 : w.heap.size ≤ gb101)); have GE101 := am ((Q26 : w.heap.size ≤ gb101)); replace HB := bs HB hb; clear hb hbox hg))
  replace BK101 := am (blk_drew BK101.out); replace HB := am (below_drew1 HB.out); refine start_ (n := 8) (S := fun w' => w'.cell? ⟨gb101, 0, none⟩ = some (.int .i64 a0_0) ∧ w'.cell? ⟨gb101, 1, none⟩ = some (.slice A0_1 l0_1.length c0_1)) (ds := []) #[false, false, false, false, false, false, false, false] (by kernel_rfl) rfl rfl ⟨(blk_cell BK101.out 0).trans rfl, (blk_cell BK101.out 1).trans rfl⟩ (fun hHeld => ?_); refine with_tabW spec_l2All.tab1 spec_l2All.bits1 (fun HT_ HW_ => ?_); generalize w5.drew = w6 at BK101 HB hHeld ⊢; refine pq 0 3 rfl rfl HT_ ?_; refine pq 2 5 rfl rfl HT_ ?_; refine tq2 1 4 rfl rfl HT_ HW_ hHeld ?_; refine tq2 3 6 rfl rfl HT_ HW_ hHeld ?_; refine pq 4 7 rfl rfl HT_ ?_; refine pq 5 8 rfl rfl HT_ ?_; refine oq 6 9 rfl rfl HT_ (fun K hK => ?_); refine goes_ Try.func192 (by kernel_rfl) rfl #[.int .i64 a0_0, .int .i64 (wrap64 ((ji3) - 1))] (by rfl) rfl rfl (by (try simp only [List.map_toArray, List.map_cons, List.map_nil]); first | done | (simp only [hji3]; rfl) | rfl | (simp only [List.length_drop, List.length_take]; rfl)) ?_
  with_reducible refine (spec_l2Bits.calls k a0_0 (wrap64 ((ji3) - 1)) t102 _ A4.out).mono ?_
  rintro e w7 ⟨v103, rfl, ho0, hb⟩; refine ⟨_, rfl, ?_⟩; have HO104 := am (Kd.R_lower ho0 (below_size (Q0 HB))); replace BK101 := bb BK101 hb; replace HB := bs HB hb; (try clear hb); (try clear hb2); (try clear hk); (try clear hi); (try clear ho0); refine hK.out _ _ ⟨(blk_cell BK101.out 0).trans rfl, (blk_cell BK101.out 1).trans rfl⟩ (fun hHeld => ?_); clear hK K; refine nz ?_
  refine pq 7 2 rfl rfl HT_ ?_; refine done_ (done_of HT_.out (by kernel_rfl)) ?_
  try go_wp2
  go_ret
  exact ⟨_, Q113, Q2 HO104, Q0 HB⟩
 ·rw [if_neg c2] at H
  exact absurd H (by simp)
end Go.Proofs.Ytcjddikalgnhpaa.P
