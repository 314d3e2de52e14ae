/- Functions of the program as Lean functions, that each call comes to what they say, and what holds of them; part 5 of 8; no conditions beyond those that each theorem names. -/
import Derived.Test.YtcjddikalgnhpaaK1
import Derived.Test.YtcjddikalgnhpaaK2
import Derived.Test.YtcjddikalgnhpaaK3
import Derived.Test.YtcjddikalgnhpaaK4
namespace Go.Proofs.Ytcjddikalgnhpaa.P
open Go.RowKit Go.Proofs.YtcjddikalgnhpaaW.PrintWords Go.Proofs.YtcjddikalgnhpaaW.PrintLast Go.Proofs.YtcjddikalgnhpaaW.PrintMore
attribute [local go_sem] max2_int min2_int max_two min_two max_three min_three max_four min_four   -- for this text's walks alone
set_option linter.unusedVariables false
set_option linter.unusedSimpArgs false
/-! ### spec_l1Cur_someGraph: function 118 -/
mutual
def spec_l1Cur_someGraph.j0 : Nat → Int → Int → Bool → List Int → Int → Int → Option (Int × (List (S71)) × Int × Int)
 | 0, _, _, _, _, _, _ => none
 | k + 1, x1, x5, x20, x1000, x1001, x1002 => if x20 = true then ((spec_l1Cur_pick.f x1000 x1001 x1002 2).bind fun bt111 => (spec_l1Cur_someGraph.j1 k x1 (wrap64 (7 + bt111.1)) x1000 bt111.2.1 bt111.2.2)) else (spec_l1Cur_someGraph.j1 k x1 x5 x1000 x1001 x1002)
def spec_l1Cur_someGraph.j1 : Nat → Int → Int → List Int → Int → Int → Option (Int × (List (S71)) × Int × Int)
 | 0, _, _, _, _, _ => none
 | k + 1, x1, x5, x1000, x1001, x1002 => (spec_l1Least.f x5 x1).bind fun t114 => ((some (([] : List (S71)) : List (S71))).bind fun y115 => ((spec_l1Cur_pick.f x1000 x1001 x1002 8).bind fun bt119 => (if bt119.1 = 0 then ((spec_l2Path.f k t114).bind fun bt122 => ((spec_l1Cur_marred.f x1000 bt119.2.1 bt119.2.2 bt122.1 bt122.2).bind fun bt126 => (some (bt126.1, bt126.2.1, bt126.2.2.1, bt126.2.2.2)))) else (if bt119.1 = 1 then (if t114 > 2 then ((spec_l2Cycle.f k t114).bind fun bt132 => ((spec_l1Cur_marred.f x1000 bt119.2.1 bt119.2.2 bt132.1 bt132.2).bind fun bt136 => (some (bt136.1, bt136.2.1, bt136.2.2.1, bt136.2.2.2)))) else ((spec_l1Cur_marred.f x1000 bt119.2.1 bt119.2.2 t114 y115).bind fun bt142 => (some (bt142.1, bt142.2.1, bt142.2.2.1, bt142.2.2.2)))) else (if bt119.1 = 2 then ((spec_l2Complete.f k t114).bind fun bt148 => ((spec_l1Cur_marred.f x1000 bt119.2.1 bt119.2.2 bt148.1 bt148.2).bind fun bt152 => (some (bt152.1, bt152.2.1, bt152.2.2.1, bt152.2.2.2)))) else ((spec_l1Cur_among.f x1000 bt119.2.1 bt119.2.2 (([3, 4, 6] : List Int))).bind fun bt161 => ((spec_l1Cur_one.f x1000 bt161.2.1 bt161.2.2 6).bind fun bt164 => (spec_l1Cur_someGraph.l0 k t114 bt161.1 bt164.1 0 x1000 bt164.2.1 bt164.2.2 t114 y115))))))))
def spec_l1Cur_someGraph.l0 : Nat → Int → Int → Bool → Int → List Int → Int → Int → Int → List (S71) → Option (Int × (List (S71)) × Int × Int)
 | 0, _, _, _, _, _, _, _, _, _ => none
 | k + 1, x5, x7, x8, x9, x1000, x1001, x1002, x119000, x119001 => if x9 < x5 then (spec_l1Cur_someGraph.l1 k x5 x7 x8 x9 (wrap64 (x9 + 1)) x1000 x1001 x1002 x119000 x119001) else ((spec_l1Cur_marred.f x1000 x1001 x1002 x119000 x119001).bind fun bt167 => (some (bt167.1, bt167.2.1, bt167.2.2.1, bt167.2.2.2)))
def spec_l1Cur_someGraph.l1 : Nat → Int → Int → Bool → Int → Int → List Int → Int → Int → Int → List (S71) → Option (Int × (List (S71)) × Int × Int)
 | 0, _, _, _, _, _, _, _, _, _, _ => none
 | k + 1, x5, x7, x8, x9, x10, x1000, x1001, x1002, x119000, x119001 => if x10 < x5 then ((spec_l1Cur_pick.f x1000 x1001 x1002 x7).bind fun bt173 => (if bt173.1 = 0 then ((spec_l2Put.f k x119001 x9 x10).bind fun t176 => (spec_l1Cur_someGraph.l1 k x5 x7 x8 x9 (wrap64 (x10 + 1)) x1000 bt173.2.1 bt173.2.2 x119000 t176)) else (spec_l1Cur_someGraph.l1 k x5 x7 x8 x9 (wrap64 (x10 + 1)) x1000 bt173.2.1 bt173.2.2 x119000 x119001))) else ((spec_l1Most.f x9 1).bind fun t179 => ((spec_l1Cur_pick.f x1000 x1001 x1002 t179).bind fun bt180 => (if x9 > 0 then (if x8 = true then (spec_l1Cur_someGraph.l0 k x5 x7 x8 (wrap64 (x9 + 1)) x1000 bt180.2.1 bt180.2.2 x119000 x119001) else ((spec_l2Near.f k x119000 x119001 x9 bt180.1).bind fun t183 => (if t183 = true then (spec_l1Cur_someGraph.l0 k x5 x7 x8 (wrap64 (x9 + 1)) x1000 bt180.2.1 bt180.2.2 x119000 x119001) else ((spec_l2Put.f k x119001 bt180.1 x9).bind fun t184 => (spec_l1Cur_someGraph.l0 k x5 x7 x8 (wrap64 (x9 + 1)) x1000 bt180.2.1 bt180.2.2 x119000 t184))))) else (spec_l1Cur_someGraph.l0 k x5 x7 x8 (wrap64 (x9 + 1)) x1000 bt180.2.1 bt180.2.2 x119000 x119001))))
end
def spec_l1Cur_someGraph.f (k : Nat) (s0_0 : List Int) (s0_1 : Int) (s0_2 : Int) (a1 : Int) : Option (Int × (List (S71)) × Int × Int) := (spec_l1Cur_among.f s0_0 s0_1 s0_2 (([4, 5, 3, 6, 2, 1, 0] : List Int))).bind fun bt105 => (if a1 > 6 then ((spec_l1Cur_one.f s0_0 bt105.2.1 bt105.2.2 4).bind fun bt108 => (spec_l1Cur_someGraph.j0 k a1 bt105.1 bt108.1 s0_0 bt108.2.1 bt108.2.2)) else (spec_l1Cur_someGraph.j0 k a1 bt105.1 false s0_0 bt105.2.1 bt105.2.2))
theorem spec_l1Cur_someGraph.mono_l : ∀ k, (∀ y0 y1 y2 y3 y4 y5, LeO (spec_l1Cur_someGraph.j0 k y0 y1 y2 y3 y4 y5) (spec_l1Cur_someGraph.j0 (k + 1) y0 y1 y2 y3 y4 y5)) ∧ (∀ y0 y1 y2 y3 y4, LeO (spec_l1Cur_someGraph.j1 k y0 y1 y2 y3 y4) (spec_l1Cur_someGraph.j1 (k + 1) y0 y1 y2 y3 y4)) ∧ (∀ y0 y1 y2 y3 y4 y5 y6 y7 y8, LeO (spec_l1Cur_someGraph.l0 k y0 y1 y2 y3 y4 y5 y6 y7 y8) (spec_l1Cur_someGraph.l0 (k + 1) y0 y1 y2 y3 y4 y5 y6 y7 y8)) ∧ (∀ y0 y1 y2 y3 y4 y5 y6 y7 y8 y9, LeO (spec_l1Cur_someGraph.l1 k y0 y1 y2 y3 y4 y5 y6 y7 y8 y9) (spec_l1Cur_someGraph.l1 (k + 1) y0 y1 y2 y3 y4 y5 y6 y7 y8 y9))
 | 0 => ⟨fun _ _ _ _ _ _ r h => by simp [spec_l1Cur_someGraph.j0] at h, fun _ _ _ _ _ r h => by simp [spec_l1Cur_someGraph.j1] at h, fun _ _ _ _ _ _ _ _ _ r h => by simp [spec_l1Cur_someGraph.l0] at h, fun _ _ _ _ _ _ _ _ _ _ r h => by simp [spec_l1Cur_someGraph.l1] at h⟩
 | k + 1 => by
  obtain ⟨ih0, ih1, ih2, ih3⟩ := spec_l1Cur_someGraph.mono_l k; refine ⟨?_, ?_, ?_, ?_⟩
  all_goals
   intros
   first | unfold spec_l1Cur_someGraph.j0 | unfold spec_l1Cur_someGraph.j1 | unfold spec_l1Cur_someGraph.l0 | unfold spec_l1Cur_someGraph.l1
   repeat' first | (with_reducible first | exact ih0 _ _ _ _ _ _ | exact ih1 _ _ _ _ _ | exact ih2 _ _ _ _ _ _ _ _ _ | exact ih3 _ _ _ _ _ _ _ _ _ _ | exact spec_l2Complete.mono _ _ | exact spec_l2Cycle.mono _ _ | exact spec_l2Near.mono _ _ _ _ _ | exact spec_l2Path.mono _ _ | exact spec_l2Put.mono _ _ _ _ | exact LeO.refl _ | exact LeO.none _ | refine LeO.ite ?_ ?_ | refine LeO.bind ?_ (fun _ => ?_))
theorem spec_l1Cur_someGraph.mono : ∀ a0 a1 a2 a3 k, LeO (spec_l1Cur_someGraph.f k a0 a1 a2 a3) (spec_l1Cur_someGraph.f (k + 1) a0 a1 a2 a3) := by
 intro a0 a1 a2 a3 k
 obtain ⟨ih0, ih1, ih2, ih3⟩ := spec_l1Cur_someGraph.mono_l k
 unfold spec_l1Cur_someGraph.f
 repeat' first | (with_reducible first | exact ih0 _ _ _ _ _ _ | exact ih1 _ _ _ _ _ | exact ih2 _ _ _ _ _ _ _ _ _ | exact ih3 _ _ _ _ _ _ _ _ _ _ | exact spec_l2Complete.mono _ _ | exact spec_l2Cycle.mono _ _ | exact spec_l2Near.mono _ _ _ _ _ | exact spec_l2Path.mono _ _ | exact spec_l2Put.mono _ _ _ _ | exact LeO.refl _ | exact LeO.none _ | refine LeO.ite ?_ ?_ | refine LeO.bind ?_ (fun _ => ?_))
set_option maxHeartbeats 8000000 in
set_option maxRecDepth 100000 in
theorem spec_l1Cur_someGraph.calls (k : Nat) (g : Nat) (s0_0 : List Int) (s0_1 : Int) (s0_2 : Int) (a1 : Int) (r1 : Int) (r2 : List (S71)) (r3 : Int) (r4 : Int) (w0 w : World) (hI : IsS96 w0 w g s0_0 s0_1 s0_2) (hB : Below w0.heap.size w0 w) (h : spec_l1Cur_someGraph.f k s0_0 s0_1 s0_2 a1 = some (r1, r2, r3, r4)) :
  Calls Try.prog 118 #[.pointer (some ⟨g, 0, none⟩), .int .i64 a1] w fun e w' => ∃ v1_ : Value, e = .returned (.agg #[.int .i64 r1, v1_]) ∧ Kd.R k71 71 w' w.heap.size (fun _ => True) v1_ r2 ∧ IsS96 w0 w' g s0_0 r3 r4 ∧ Below w0.heap.size w0 w' ∧ KeepBut w w' g none := by
 have hu30 := Try.underlying30
 have hu71 := Try.underlying71
 have HI0 := Aside0.mk hI
 have HK := am (KeepBut.refl w g none)
 have HL := Aside0.mk hB.size
 clear hI
 have HW0 := Aside0.mk hB.size
 have HB := Aside0.mk hB
 clear hB
 have H : ((spec_l1Cur_among.f s0_0 s0_1 s0_2 (([4, 5, 3, 6, 2, 1, 0] : List Int))).bind fun bt105 => (if a1 > 6 then ((spec_l1Cur_one.f s0_0 bt105.2.1 bt105.2.2 4).bind fun bt108 => (spec_l1Cur_someGraph.j0 k a1 bt105.1 bt108.1 s0_0 bt108.2.1 bt108.2.2)) else (spec_l1Cur_someGraph.j0 k a1 bt105.1 false s0_0 bt105.2.1 bt105.2.2))) = some (r1, r2, r3, r4) := h
 clear h
 obtain ⟨y102, hy102⟩ : ∃ y_ : List Int, y_ = (([4, 5, 3, 6, 2, 1, 0] : List Int)) := ⟨_, rfl⟩
 replace H : ((spec_l1Cur_among.f s0_0 s0_1 s0_2 y102).bind fun bt105 => (if a1 > 6 then ((spec_l1Cur_one.f s0_0 bt105.2.1 bt105.2.2 4).bind fun bt108 => (spec_l1Cur_someGraph.j0 k a1 bt105.1 bt108.1 s0_0 bt108.2.1 bt108.2.2)) else (spec_l1Cur_someGraph.j0 k a1 bt105.1 false s0_0 bt105.2.1 bt105.2.2))) = some (r1, r2, r3, r4) := RH hy102 H
 have Ny102 := Aside0.mk hy102
 clear hy102
 replace H := (ob H)
 obtain ⟨⟨t105, t106, t107⟩, A30, H⟩ := H
 (try dsimp only at H)
 have A3 := Aside0.mk A30
 clear A30
 have HU4 := Aside0.mk H
 clear H
 go_enter Try.func118, Try.ntmps118
 go_upto_region 2 with (first | ((with_reducible refine gate_dst (N := 4) rfl ?_); refine box_event ?hg (N := 4) ?hd (cs := #[.int .i64 0, .slice none 0 0]) (t := 30) ?hr ?_; (case hd => rfl); (case hg => rfl); (case hr => first | (go_simp; done) | (go_simp; rfl)); intro gb101 hg w5 hbox hb; replace HB := am (below_step (Q5 HB HI0) hb); have BK101 := am (hbox); have GW101 := am ((Q51 : w.heap.size ≤ gb101)); have GE101 := am ((Nat.le_trans HW0.out (Q51 : w.heap.size ≤ gb101) : w0.heap.size ≤ gb101)); replace HK := am (KeepBut.trans (Q18 HK) (KeepBut.of_below hb g none) (.inl rfl)); have NB0_101 := am ((Q60 : g ≠ gb101)); have NB101_0 := am ((Q61 : gb101 ≠ g)); replace HI0 := am (IsS96.below (Q15 HI0) hb); clear hb hbox hg) | ((with_reducible refine gate_dst (N := 13) rfl ?_); refine Kd.R_lit (Kd.int .i64) _ 3 ?hg (N := 13) ?hd (xs := ([4, 5, 3, 6, 2, 1, 0] : List Int)) (inner := [.int .i64 4, .int .i64 5, .int .i64 3, .int .i64 6, .int .i64 2, .int .i64 1, .int .i64 0]) (ok := fun _ => True) (okp := fun _ => True) ?hr ?hp (fun _ hk => hk) trivial (Below.refl _ _) (Nat.le_refl _) (by simp) ?_; (case hd => rfl); (case hg => rfl); (case hr => first | (go_simp; done) | (go_simp; rfl)); (case hp => exact (Reps.one (show Kd.M (Kd.int .i64) _ _ _ 4 [.int .i64 4] from rfl) (Reps.one (show Kd.M (Kd.int .i64) _ _ _ 5 [.int .i64 5] from rfl) (Reps.one (show Kd.M (Kd.int .i64) _ _ _ 3 [.int .i64 3] from rfl) (Reps.one (show Kd.M (Kd.int .i64) _ _ _ 6 [.int .i64 6] from rfl) (Reps.one (show Kd.M (Kd.int .i64) _ _ _ 2 [.int .i64 2] from rfl) (Reps.one (show Kd.M (Kd.int .i64) _ _ _ 1 [.int .i64 1] from rfl) (Reps.one (show Kd.M (Kd.int .i64) _ _ _ 0 [.int .i64 0] from rfl) (Reps.none _ _))))))))); intro v103 w6 ho7 hb hg_ hnew_; clear hg_ hnew_; (first | rw [← Ny102.out] at ho7 | (simp only [Int.reduceToNat] at ho7; rw [← Ny102.out] at ho7)); have HO104 := am (Kd.R_lower ho7 (keep_size (w := w) (g := g) (row := none) (Q9 HK GW101))); replace BK101 := am (blk_below (g := gb101) (o := .cells #[.int .i64 0, .slice none 0 0] 30 (0, 0)) (Q1 BK101) hb); replace HK := am (KeepBut.trans (Q9 HK GW101) (KeepBut.of_below hb g none) (.inl rfl)); replace HB := am (below_step (Q5 HB HI0) hb); replace HI0 := am (IsS96.below (Q8 HI0 NB0_101) hb); clear hb ho7; obtain ⟨Ao8, co8, eo8⟩ := Kd.R_slice HO104.out; subst eo8) | ((with_reducible refine gate_callee (f := 106) rfl ?_); refine goesL_ (some 14) rfl rfl Try.func106 (by kernel_rfl) rfl #[.pointer (some ⟨g, 0, none⟩), .slice Ao8 y102.length co8] rfl Q3 ?_; (with_reducible refine (spec_l1Cur_among.calls g s0_0 s0_1 s0_2 _ _ y102 t105 t106 t107 w0 _ ?side1 ?side2 ?side3 ?side4 ?side5 A3.out).mono ?_); (case side1 => exact (Q8 HI0 NB0_101)); (case side2 => exact (Q5 HB HI0)); (case side3 => exact (Q14 HO104)); (case side4 => exact (Kd.R_reads' HO104.out).2.1); (case side5 => exact far_slice (IsS96.own_ne HI0.out HO104.out (by decide))); rintro e w9 ⟨rfl, hi, hb, hk⟩; refine ⟨_, rfl, ?_⟩; replace BK101 := am (KeepBut.blk hk (g' := gb101) (o := .cells #[.int .i64 0, .slice none 0 0] 30 (0, 0)) (Q1 BK101) NB101_0.out (by simp)); replace HO104 := am (Kd.R_mono (Kd.R_keep (IsS96.apart (show IsS96 w0 _ g s0_0 s0_1 s0_2 from Q8 HI0 NB0_101) (Q2 HO104) (by decide)) hk (fun _ h => h.2)) (fun _ h => h.1)); replace HK := am (KeepBut.trans (Q9 HK GW101) hk (.inl rfl)); replace HB := am (hb); replace HI0 := am (hi); (try clear hb); (try clear hb2); (try clear hk); (try clear hi)))
 (try simp only [Act.put, List.setIfInBounds_toArray, List.set_cons_zero, List.set_cons_succ])
 have H := HU4.out
 clear HU4
 have HC10 := Aside0.mk H
 clear H
 go_upto_region 2 with (fail)
 go_cut [20] (fun v20 wc => ∃ (kq : Nat) (x20_9 : Bool) (x1001_9 : Int) (x1002_9 : Int), v20 = .bool x20_9 ∧ Aside0 (spec_l1Cur_someGraph.j0 kq a1 t105 x20_9 s0_0 x1001_9 x1002_9 = some (r1, r2, r3, r4)) ∧ Aside0 (kq ≤ k) ∧ Aside0 (wc.heap[gb101]? = some (.cells #[.int .i64 0, (.slice none 0 0)] 30 (0, 0))) ∧ Aside0 (IsS96 w0 wc g s0_0 x1001_9 x1002_9) ∧ Aside0 (KeepBut w wc g none) ∧ Aside0 (Below w0.heap.size w0 wc))
 case first =>
  have H := HC10.out; clear HC10
  by_cases c11 : a1 > 6
  ·rw [if_pos c11] at H
   have c11b0 : decide (6 < a1) = true := decide_eq_true c11; clear c11
   (first | rw [c11b0] | (simp only [i64_w, i32_w]; rw [c11b0]) | skip)
   replace H := (ob H); obtain ⟨⟨t108, t109, t110⟩, A120, H⟩ := H; (try dsimp only at H); have A12 := Aside0.mk A120; clear A120; have H' := Aside0.mk H; clear H
   go_wp2_with (first | (go_at_call 129; (with_reducible refine (spec_l1Cur_one.calls g s0_0 t106 t107 4 t108 t109 t110 w0 _ ?side1 ?side2 A12.out).mono ?_); (case side1 => exact (Q8 HI0 NB0_101)); (case side2 => exact (Q5 HB HI0)); rintro e w13 ⟨rfl, hi, hb, hk⟩; replace BK101 := am (KeepBut.blk hk (g' := gb101) (o := .cells #[.int .i64 0, .slice none 0 0] 30 (0, 0)) (Q1 BK101) NB101_0.out (by simp)); replace HO104 := am (Kd.R_mono (Kd.R_keep (IsS96.apart (show IsS96 w0 _ g s0_0 t106 t107 from Q8 HI0 NB0_101) (Q2 HO104) (by decide)) hk (fun _ h => h.2)) (fun _ h => h.1)); replace HK := am (KeepBut.trans (Q9 HK GW101) hk (.inl rfl)); replace HB := am (hb); replace HI0 := am (hi); (try clear hb); (try clear hb2); (try clear hk); (try clear hi)))
   go_meet
   case rel => exact ⟨_, (t108), (t109), (t110), Q13, H', ⟨Q58⟩, ⟨Q1 BK101⟩, ⟨Q8 HI0 NB0_101⟩, ⟨Q9 HK GW101⟩, ⟨Q5 HB HI0⟩⟩
  ·rw [if_neg c11] at H
   have c11b0 : decide (6 < a1) = false := decide_eq_false c11; clear c11
   (first | rw [c11b0] | (simp only [i64_w, i32_w]; rw [c11b0]) | skip)
   have H' := Aside0.mk H; clear H
   go_wp2
   go_meet
   case rel => exact ⟨_, (false), (t106), (t107), Q13, H', ⟨Q58⟩, ⟨Q1 BK101⟩, ⟨Q8 HI0 NB0_101⟩, ⟨Q9 HK GW101⟩, ⟨Q5 HB HI0⟩⟩
 case rest =>
  clear HC10
  try clear c1
  try clear p2
  try clear c10
  try clear c11
  try clear c11b0
  obtain ⟨kq, x20_9, x1001_9, x1002_9, rfl, HA, HJ9, BK101, HI0, HK, HB⟩ := hcut
  cases kq with
  | zero => exact absurd HA.out (by simp [spec_l1Cur_someGraph.j0])
  | succ kj9 =>
   have H := HA.out; clear HA
   simp only [spec_l1Cur_someGraph.j0] at H
   have HC14 := Aside0.mk H; clear H
   go_upto_if 20 with (fail)
   go_cut [5] (fun v5 wc => ∃ (kq : Nat) (x5_13 : Int) (x1001_13 : Int) (x1002_13 : Int), v5 = .int .i64 x5_13 ∧ Aside0 (spec_l1Cur_someGraph.j1 kq a1 x5_13 s0_0 x1001_13 x1002_13 = some (r1, r2, r3, r4)) ∧ Aside0 (kq ≤ kj9) ∧ Aside0 (wc.heap[gb101]? = some (.cells #[.int .i64 0, (.slice none 0 0)] 30 (0, 0))) ∧ Aside0 (IsS96 w0 wc g s0_0 x1001_13 x1002_13) ∧ Aside0 (KeepBut w wc g none) ∧ Aside0 (Below w0.heap.size w0 wc))
   case first =>
    have H := HC14.out; clear HC14
    by_cases c15 : x20_9 = true
    ·subst c15
     have H1 : ((spec_l1Cur_pick.f s0_0 x1001_9 x1002_9 2).bind fun bt111 => (spec_l1Cur_someGraph.j1 kj9 a1 (wrap64 (7 + bt111.1)) s0_0 bt111.2.1 bt111.2.2)) = some (r1, r2, r3, r4) := by rw [if_pos rfl] at H; exact H
     clear H; have H := H1; clear H1; replace H := (ob H); obtain ⟨⟨t111, t112, t113⟩, A160, H⟩ := H; (try dsimp only at H); have A16 := Aside0.mk A160; clear A160; have H' := Aside0.mk H; clear H
     go_wp2_with (first | ((with_reducible refine gate_callee (f := 141) rfl ?_); refine goesL_ (some 22) rfl rfl Try.func141 (by kernel_rfl) rfl #[.pointer (some ⟨g, 0, none⟩), .int .i64 2] rfl Q3 ?_; (with_reducible refine (spec_l1Cur_pick.calls g s0_0 x1001_9 x1002_9 2 t111 t112 t113 w0 _ ?side1 ?side2 A16.out).mono ?_); (case side1 => exact (Q8 HI0 NB0_101)); (case side2 => exact (Q5 HB HI0)); rintro e w17 ⟨rfl, hi, hb, hk⟩; refine ⟨_, rfl, ?_⟩; replace BK101 := am (KeepBut.blk hk (g' := gb101) (o := .cells #[.int .i64 0, .slice none 0 0] 30 (0, 0)) (Q1 BK101) NB101_0.out (by simp)); replace HK := am (KeepBut.trans (Q9 HK GW101) hk (.inl rfl)); replace HB := am (hb); replace HI0 := am (hi); (try clear hb); (try clear hb2); (try clear hk); (try clear hi)))
     go_meet
     case rel => exact ⟨_, (wrap64 (7 + t111)), (t112), (t113), Q13, H', ⟨by have := HJ9.out; first | omega | exact Nat.le_refl _⟩, ⟨Q1 BK101⟩, ⟨Q8 HI0 NB0_101⟩, ⟨Q9 HK GW101⟩, ⟨Q5 HB HI0⟩⟩
    ·replace c15 := Bool.eq_false_iff.mpr c15
     subst c15; have H1 : (spec_l1Cur_someGraph.j1 kj9 a1 t105 s0_0 x1001_9 x1002_9) = some (r1, r2, r3, r4) := by rw [if_neg (show ¬ (false = true) by decide)] at H; exact H
     clear H; have H := H1; clear H1; have H' := Aside0.mk H; clear H
     go_wp2
     go_meet
     case rel => exact ⟨_, (t105), (x1001_9), (x1002_9), Q13, H', ⟨by have := HJ9.out; first | omega | exact Nat.le_refl _⟩, ⟨Q1 BK101⟩, ⟨Q8 HI0 NB0_101⟩, ⟨Q9 HK GW101⟩, ⟨Q5 HB HI0⟩⟩
   case rest =>
    clear HC14
    try clear c1
    try clear p2
    try clear p6
    try clear c10
    try clear c11
    try clear c11b0
    try clear c14
    try clear c15
    try clear p2
    obtain ⟨kq, x5_13, x1001_13, x1002_13, rfl, HA, HJ13, BK101, HI0, HK, HB⟩ := hcut
    cases kq with
    | zero => exact absurd HA.out (by simp [spec_l1Cur_someGraph.j1])
    | succ kj13 =>
     have H := HA.out; clear HA
     simp only [spec_l1Cur_someGraph.j1] at H
     replace H := (ob H); obtain ⟨t114, A180, H⟩ := H; (try dsimp only at H); have A18 := Aside0.mk A180; clear A180; obtain ⟨y115, hy115⟩ : ∃ y_ : List (S71), y_ = (([] : List (S71))) := ⟨_, rfl⟩; replace H : ((spec_l1Cur_pick.f s0_0 x1001_13 x1002_13 8).bind fun bt119 => (if bt119.1 = 0 then ((spec_l2Path.f kj13 t114).bind fun bt122 => ((spec_l1Cur_marred.f s0_0 bt119.2.1 bt119.2.2 bt122.1 bt122.2).bind fun bt126 => (some (bt126.1, bt126.2.1, bt126.2.2.1, bt126.2.2.2)))) else (if bt119.1 = 1 then (if t114 > 2 then ((spec_l2Cycle.f kj13 t114).bind fun bt132 => ((spec_l1Cur_marred.f s0_0 bt119.2.1 bt119.2.2 bt132.1 bt132.2).bind fun bt136 => (some (bt136.1, bt136.2.1, bt136.2.2.1, bt136.2.2.2)))) else ((spec_l1Cur_marred.f s0_0 bt119.2.1 bt119.2.2 t114 y115).bind fun bt142 => (some (bt142.1, bt142.2.1, bt142.2.2.1, bt142.2.2.2)))) else (if bt119.1 = 2 then ((spec_l2Complete.f kj13 t114).bind fun bt148 => ((spec_l1Cur_marred.f s0_0 bt119.2.1 bt119.2.2 bt148.1 bt148.2).bind fun bt152 => (some (bt152.1, bt152.2.1, bt152.2.2.1, bt152.2.2.2)))) else ((spec_l1Cur_among.f s0_0 bt119.2.1 bt119.2.2 (([3, 4, 6] : List Int))).bind fun bt161 => ((spec_l1Cur_one.f s0_0 bt161.2.1 bt161.2.2 6).bind fun bt164 => (spec_l1Cur_someGraph.l0 kj13 t114 bt161.1 bt164.1 0 s0_0 bt164.2.1 bt164.2.2 t114 y115))))))) = some (r1, r2, r3, r4) := RH hy115 H; have Ny115 := Aside0.mk hy115; clear hy115; replace H := (ob H); obtain ⟨⟨t119, t120, t121⟩, A190, H⟩ := H; (try dsimp only at H); have A19 := Aside0.mk A190; clear A190; have HU20 := Aside0.mk H; clear H
     go_upto_if 84 with (first | ((with_reducible refine gate_callee (f := 186) rfl ?_); refine goesL_ (some 26) rfl rfl Try.func186 (by kernel_rfl) rfl #[.int .i64 x5_13, .int .i64 a1] rfl Q3 ?_; (with_reducible refine (spec_l1Least.calls x5_13 a1 t114 _ A18.out).mono ?_); rintro e w' ⟨rfl, ⟨nd, rfl⟩⟩; refine ⟨_, rfl, ?_⟩; (try (rw [drewN_self wc]; generalize hq_ : World.drewN wc _ = wc; have n0_ : Aside0 (wc.heap[gb101]? = some (.cells #[.int .i64 0, .slice none 0 0] 30 (0, 0))) := ⟨by rw [← hq_]; exact (Q1 BK101)⟩; have n1_ : Aside0 (IsS96 w0 wc g s0_0 x1001_13 x1002_13) := ⟨by rw [← hq_]; exact (Q8 HI0 NB0_101)⟩; have n2_ : Aside0 (KeepBut w wc g none) := ⟨by rw [← hq_]; exact (Q9 HK GW101)⟩; have n3_ : Aside0 (Below w0.heap.size w0 wc) := ⟨by rw [← hq_]; exact (Q5 HB HI0)⟩; clear BK101 HI0 HK HB hq_; have BK101 := n0_; have HI0 := n1_; have HK := n2_; have HB := n3_; clear n0_ n1_ n2_ n3_))) | ((with_reducible refine gate_dst (N := 28) rfl ?_); refine Kd.R_lit k71 _ 71 ?hg (N := 28) ?hd (xs := ([] : List (S71))) (inner := []) (ok := fun _ => True) (okp := fun _ => True) ?hr ?hp (fun _ hk => hk) trivial (Below.refl _ _) (Nat.le_refl _) (by simp) ?_; (case hd => rfl); (case hg => rfl); (case hr => first | (go_simp; done) | (go_simp; rfl)); (case hp => exact (Reps.none _ _)); intro v116 w21 ho22 hb hg_ hnew_; clear hg_ hnew_; (first | rw [← Ny115.out] at ho22 | (simp only [Int.reduceToNat] at ho22; rw [← Ny115.out] at ho22)); have HO117 := am (Kd.R_lower ho22 (keep_size (w := w) (g := g) (row := none) (Q9 HK GW101))); replace BK101 := am (blk_below (g := gb101) (o := .cells #[.int .i64 0, .slice none 0 0] 30 (0, 0)) (Q1 BK101) hb); replace HK := am (KeepBut.trans (Q9 HK GW101) (KeepBut.of_below hb g none) (.inl rfl)); replace HB := am (below_step (Q5 HB HI0) hb); replace HI0 := am (IsS96.below (Q8 HI0 NB0_101) hb); clear hb ho22; obtain ⟨Ao23, co23, eo23⟩ := Kd.R_slice HO117.out; subst eo23) | ((with_reducible refine gate_dst (N := 6) rfl ?_); refine box_event ?hg (N := 6) ?hd (cs := #[.int .i64 0, .slice none 0 0]) (t := 30) ?hr ?_; (case hd => rfl); (case hg => rfl); (case hr => first | (go_simp; done) | (go_simp; rfl)); intro gb118 hg w24 hbox hb; replace HO117 := am (Kd.R_below (Q2 HO117) hb); replace HB := am (below_step (Q5 HB HI0) hb); have BK118 := am (hbox); have GW118 := am ((Q64 : w.heap.size ≤ gb118)); have GE118 := am ((Nat.le_trans HW0.out (Q64 : w.heap.size ≤ gb118) : w0.heap.size ≤ gb118)); replace HK := am (KeepBut.trans (Q9 HK GW101) (KeepBut.of_below hb g none) (.inl rfl)); have NB101_118 := am ((Q46 : gb101 ≠ gb118)); have NB118_101 := am ((Q47 : gb118 ≠ gb101)); replace BK101 := am (blk_below (g := gb101) (o := .cells #[.int .i64 0, .slice none 0 0] 30 (0, 0)) (Q1 BK101) hb); have NB0_118 := am ((by rw [hg]; exact Nat.ne_of_lt (IsS96.lt (show IsS96 w0 _ g s0_0 x1001_13 x1002_13 from Q8 HI0 NB0_101)) : g ≠ gb118)); have NB118_0 := am ((by rw [hg]; exact Nat.ne_of_gt (IsS96.lt (show IsS96 w0 _ g s0_0 x1001_13 x1002_13 from Q8 HI0 NB0_101)) : gb118 ≠ g)); replace HI0 := am (IsS96.below (Q8 HI0 NB0_101) hb); clear hb hbox hg; have hnb25 := NB118_101.out; have hnc25 := NB101_118.out; have hnb26 := NB118_0.out; have hnc26 := NB0_118.out; have hcz27_0 : w24.cell? ⟨gb118, 0, none⟩ = some (.int .i64 0) := (blk_cell BK118.out 0).trans rfl; have hcz27_1 : w24.cell? ⟨gb118, 1, none⟩ = some (.slice none 0 0) := (blk_cell BK118.out 1).trans rfl; have hfz27_0 := blk_frozen BK118.out 0; have hfz27_1 := blk_frozen BK118.out 1) | ((with_reducible refine gate_callee (f := 141) rfl ?_); refine goesL_ (some 31) rfl rfl Try.func141 (by kernel_rfl) rfl #[.pointer (some ⟨g, 0, none⟩), .int .i64 8] rfl Q3 ?_; (with_reducible refine (spec_l1Cur_pick.calls g s0_0 x1001_13 x1002_13 8 t119 t120 t121 w0 _ ?side1 ?side2 A19.out).mono ?_); (case side1 => exact (Q4 HI0 NB0_101 NB0_118)); (case side2 => exact (Q17 HB HI0 GE118)); rintro e w28 ⟨rfl, hi, hb, hk⟩; refine ⟨_, rfl, ?_⟩; replace BK101 := am (KeepBut.blk hk (g' := gb101) (o := .cells #[.int .i64 0, .slice none 0 0] 30 (0, 0)) (Q12 NB101_118 BK101) NB101_0.out (by simp)); replace HO117 := am (Kd.R_mono (Kd.R_keep (IsS96.apart (show IsS96 w0 _ g s0_0 x1001_13 x1002_13 from Q4 HI0 NB0_101 NB0_118) (by (with_reducible repeat (first | apply Kd.R_alloc | apply Kd.R_drewN | apply Kd.R_drew)); exact (Kd.R_mono (Kd.R_far (p := ⟨gb118, 1, none⟩) (Kd.R_far (p := ⟨gb118, 0, none⟩) (Kd.R_types HO117.out BK118.out (by decide)) (fun _ hk => hk.2) (.int .i64 t114)) (fun _ hk => hk.2) (.slice Ao23 y115.length co23)) (fun _ h_ => h_.1))) (by decide)) hk (fun _ h => h.2)) (fun _ h => h.1)); replace BK118 := am (KeepBut.blk hk (g' := gb118) (o := .cells #[.int .i64 t114, .slice Ao23 y115.length co23] 30 (0, 0)) (by (with_reducible repeat (first | refine blk_drewN ?_ _ | refine blk_drew ?_ | refine blk_alloc ?_ _)); refine blk_put (cs := #[.int .i64 t114, .slice none 0 0]) ?_ 1 _ rfl; (with_reducible repeat (first | refine blk_drewN ?_ _ | refine blk_drew ?_ | refine blk_alloc ?_ _)); refine blk_put (cs := #[.int .i64 0, .slice none 0 0]) ?_ 0 _ rfl; (with_reducible repeat (first | refine blk_drewN ?_ _ | refine blk_drew ?_ | refine blk_alloc ?_ _)); exact BK118.out) NB118_0.out (by simp)); replace HK := am (KeepBut.trans (Q6 HK GW101 GW118) hk (.inl rfl)); replace HB := am (hb); replace HI0 := am (hi); (try clear hb); (try clear hb2); (try clear hk); (try clear hi)))
     (try simp only [Act.put, List.setIfInBounds_toArray, List.set_cons_zero, List.set_cons_succ]); have H := HU20.out; clear HU20
     by_cases c29 : t119 = 0
     ·rw [if_pos c29] at H
      have c29b0 := beq_iff_eq.mpr c29; have c29b1 := bne_eq_false_iff_eq.mpr c29; clear c29
      (first | rw [c29b0] | (simp only [i64_w, i32_w]; rw [c29b0]) | rw [c29b1] | skip)
      replace H := (ob H); obtain ⟨⟨t122, t123⟩, A300, H⟩ := H; (try dsimp only at H); have A30 := Aside0.mk A300; clear A300; replace H := (ob H); obtain ⟨⟨t126, t127, t130, t131⟩, A310, H⟩ := H; (try dsimp only at H); have A31 := Aside0.mk A310; clear A310
      simp only [Option.some.injEq, Prod.mk.injEq] at H
      obtain ⟨rfl, rfl, rfl, rfl⟩ := H
      go_wp2_with (first | ((with_reducible refine gate_callee (f := 111) rfl ?_); refine goesL_ (some 87) rfl rfl Try.func111 (by kernel_rfl) rfl #[.int .i64 t114] rfl Q3 ?_; (with_reducible refine (spec_l2Path.calls kj13 t114 t122 t123 _ A30.out).mono ?_); rintro e w32 ⟨v124, rfl, ho0, hb⟩; refine ⟨_, rfl, ?_⟩; have HO125 := am (Kd.R_lower (Kd.R_new' ho0 (Kd.R_lt (Q2 HO117))) (keep_size (w := w) (g := g) (row := none) (Q6 HK GW101 GW118))); replace HO117 := am (Kd.R_elder' (Q2 HO117) (Kd.R_base ho0) hb); replace BK101 := am (blk_below (g := gb101) (o := .cells #[.int .i64 0, .slice none 0 0] 30 (0, 0)) (Q1 BK101) hb); replace BK118 := am (blk_below (g := gb118) (o := .cells #[.int .i64 t114, .slice Ao23 y115.length co23] 30 (0, 0)) (Q1 BK118) hb); replace HK := am (KeepBut.trans (Q6 HK GW101 GW118) (KeepBut.of_below hb g none) (.inl rfl)); replace HB := am (below_step (Q5 HB HI0) hb); replace HI0 := am (IsS96.below (Q4 HI0 NB0_101 NB0_118) hb); (try clear hb); (try clear hb2); (try clear hk); (try clear hi); (try clear ho0); have hnb33 := NB118_101.out; have hnc33 := NB101_118.out; have hnb34 := NB118_0.out; have hnc34 := NB0_118.out; have hcz35_0 : w32.cell? ⟨gb118, 0, none⟩ = some (.int .i64 t114) := (blk_cell BK118.out 0).trans rfl; have hcz35_1 : w32.cell? ⟨gb118, 1, none⟩ = some (.slice Ao23 y115.length co23) := (blk_cell BK118.out 1).trans rfl; have hfz35_0 := blk_frozen BK118.out 0; have hfz35_1 := blk_frozen BK118.out 1; obtain ⟨Ao36, co36, eo36⟩ := Kd.R_slice HO125.out; subst eo36) | ((with_reducible refine gate_store (t := 30) (p := 6) rfl ?_); refine store_event (t := 30) (p := 6) (v := ?vo_w37) (w1 := ((w32.setCell ⟨gb118, 0, none⟩ (.int .i64 t122)).setCell ⟨gb118, 1, none⟩ (.slice Ao36 t123.length co36))) ?hg ?ho ?hn ?hr ?_; (case ho => rfl); (case hg => rfl); (case hn => rfl); (case hr => first | (go_simp; done) | (go_simp; rfl)); intro w37 hw; replace HO117 : Aside0 (Kd.R k71 71 w37 w.heap.size (fun k_ => some k_ ≠ (.slice Ao36 t123.length co36 : Value).ownBlock) (.slice Ao23 y115.length co23) y115) := ⟨(Q82 HO117 BK118)⟩; replace HO125 : Aside0 (Kd.R k71 71 w37 w.heap.size (fun k_ => some k_ ≠ (.slice Ao23 y115.length co23 : Value).ownBlock) (.slice Ao36 t123.length co36) t123) := ⟨(Q82 HO125 BK118)⟩; replace BK101 : Aside0 (w37.heap[gb101]? = some (.cells #[.int .i64 0, .slice none 0 0] 30 (0, 0))) := ⟨(by rw [hw]; exact (Q12 NB101_118 BK101))⟩; replace BK118 : Aside0 (w37.heap[gb118]? = some (.cells #[.int .i64 t122, .slice Ao36 t123.length co36] 30 (0, 0))) := ⟨(by rw [hw]; exact (by (with_reducible repeat (first | refine blk_drewN ?_ _ | refine blk_drew ?_ | refine blk_alloc ?_ _)); refine blk_put (cs := #[.int .i64 t122, .slice Ao23 y115.length co23]) ?_ 1 _ rfl; (with_reducible repeat (first | refine blk_drewN ?_ _ | refine blk_drew ?_ | refine blk_alloc ?_ _)); refine blk_put (cs := #[.int .i64 t114, .slice Ao23 y115.length co23]) ?_ 0 _ rfl; (with_reducible repeat (first | refine blk_drewN ?_ _ | refine blk_drew ?_ | refine blk_alloc ?_ _)); exact BK118.out))⟩; replace HK : Aside0 (KeepBut w w37 g none) := ⟨(by rw [hw]; exact (Q6 HK GW101 GW118))⟩; replace HB : Aside0 (Below w0.heap.size w0 w37) := ⟨(by rw [hw]; exact (Q17 HB HI0 GE118))⟩; replace HI0 : Aside0 (IsS96 w0 w37 g s0_0 t120 t121) := ⟨(by rw [hw]; exact (Q4 HI0 NB0_101 NB0_118))⟩; clear hw; have hcz38_0 : w37.cell? ⟨gb118, 0, none⟩ = some (.int .i64 t122) := (blk_cell BK118.out 0).trans rfl; have hcz38_1 : w37.cell? ⟨gb118, 1, none⟩ = some (.slice Ao36 t123.length co36) := (blk_cell BK118.out 1).trans rfl; have hfz38_0 := blk_frozen BK118.out 0; have hfz38_1 := blk_frozen BK118.out 1) | ((with_reducible refine gate_callee (f := 188) rfl ?_); refine goesL_ (some 100) rfl rfl Try.func188 (by kernel_rfl) rfl #[.pointer (some ⟨g, 0, none⟩), .agg #[.int .i64 t122, .slice Ao36 t123.length co36]] rfl Q3 ?_; (with_reducible refine (spec_l1Cur_marred.calls g s0_0 t120 t121 t122 (fun k_ => some k_ = (.slice Ao36 t123.length co36 : Value).ownBlock) (.slice Ao36 t123.length co36) t123 t126 t127 t130 t131 w0 _ ?side1 ?side2 ?side3 A31.out).mono ?_); (case side1 => exact (Q4 HI0 NB0_101 NB0_118)); (case side2 => exact (Q5 HB HI0)); (case side3 => exact Kd.R_lower (Kd.R_tight rfl HO125.out) HL.out); rintro e w39 ⟨v128, rfl, ho0, hi, hb, hkp⟩; refine ⟨_, rfl, ?_⟩; replace BK101 := am (blk_kept (Q31 BK101) hkp (fun hs_ => Or.elim hs_ (fun hs_ => (fun e_ => (Kd.R_ne HO125.out BK101.out (by decide)) e_) hs_) (fun e_ => NB101_0.out e_))); replace BK118 := am (blk_kept (Q31 BK118) hkp (fun hs_ => Or.elim hs_ (fun hs_ => (fun e_ => (Kd.R_ne HO125.out BK118.out (by decide)) e_) hs_) (fun e_ => NB118_0.out e_))); have HO129 := am (Kd.R_mono (ok' := fun k_ => some k_ ≠ (.slice Ao23 y115.length co23 : Value).ownBlock) (Kd.R_raise (d := k71) (b := w0.heap.size) (b' := w.heap.size) (fun _ _ _ _ h_ => h_) ho0 (fun k_ e_ => Or.elim (ho0.1 k_ e_) (fun hs_ => (fun e_ => Kd.R_base HO125.out k_ e_.symm) hs_) (fun hn_ => Nat.le_trans (keep_size (w := w) (g := g) (row := none) (Q6 HK GW101 GW118)) hn_))) (fun k_ hk_ => Or.elim hk_ (fun hs_ => fun e_ => ((((IsS96.apart HI0.out HO117.out (by decide))).1 k_ e_.symm).1) hs_) (fun hn_ => (Kd.fresh' (Kd.R_lt (Q2 HO117)) k_ hn_)))); replace HO117 := am (Kd.R_mono (ok' := fun k_ => some k_ ≠ (v128 : Value).ownBlock) (Kd.R_keptB ((IsS96.apart HI0.out HO117.out (by decide))) hkp (fun k_ hk_ hs_ => Or.elim hs_ (fun hs_ => (hk_.1) hs_) (fun e_ => (hk_.2) e_))) (fun k_ hk_ => fun e_ => Or.elim (ho0.1 k_ e_.symm) (fun hs_ => hk_.2.1 (by first | exact .inl hs_ | exact hs_)) (fun hn_ => Nat.not_le.2 hk_.2.2 hn_))); replace HI0 := am (hi); replace HK := am (Kept.keepG (Q6 HK GW101 GW118) hkp (fun k_ hs_ => Or.elim hs_ (fun hs_ => (fun e_ => .inr (Kd.R_base HO125.out k_ e_.symm)) hs_) (fun e_ => .inl e_))); replace HB := am (hb); clear HO125; (try clear hb); (try clear hkp); (try clear ho0); have hnb40 := NB101_0.out; have hnc40 := NB0_101.out; have hcz41_0 : w39.cell? ⟨gb101, 0, none⟩ = some (.int .i64 0) := (blk_cell BK101.out 0).trans rfl; have hcz41_1 : w39.cell? ⟨gb101, 1, none⟩ = some (.slice none 0 0) := (blk_cell BK101.out 1).trans rfl; have hfz41_0 := blk_frozen BK101.out 0; have hfz41_1 := blk_frozen BK101.out 1; obtain ⟨Ao42, co42, eo42⟩ := Kd.R_slice HO129.out; subst eo42))
      refine bodyPost_ret (results_cell_row rfl _ _ gb101 30 #[.int .i64 t126, .slice Ao42 t127.length co42] (0, 0) _ rfl (Q68 BK101) Try.underlying30 rfl (by kernel_rfl)) rfl ?_; exact ⟨_, Q11, by (with_reducible repeat (first | apply Kd.R_alloc | apply Kd.R_drewN | apply Kd.R_drew)); exact Kd.R_mono (Kd.R_far (p := ⟨gb101, 1, none⟩) (Kd.R_far (p := ⟨gb101, 0, none⟩) (Kd.R_types HO129.out BK101.out (by decide)) (fun _ hk => hk.2) (.int .i64 t126)) (fun _ hk => hk.2) (.slice Ao42 t127.length co42)) (fun _ hk => trivial), Q4 HI0 NB0_101 NB0_118, Q17 HB HI0 GE101, Q6 HK GW101 GW118⟩
     ·rw [if_neg c29] at H
      have c29b0 := beq_eq_false_iff_ne.mpr c29; have c29b1 := bne_iff_ne.mpr c29
      (first | rw [c29b0] | (simp only [i64_w, i32_w]; rw [c29b0]) | rw [c29b1] | skip)
      by_cases c43 : t119 = 1
      ·rw [if_pos c43] at H
       have c43b0 := beq_iff_eq.mpr c43; have c43b1 := bne_eq_false_iff_eq.mpr c43; clear c43
       by_cases c44 : t114 > 2
       ·rw [if_pos c44] at H
        have c44b0 : decide (2 < t114) = true := decide_eq_true c44; clear c44; replace H := (ob H); obtain ⟨⟨t132, t133⟩, A450, H⟩ := H; (try dsimp only at H); have A45 := Aside0.mk A450; clear A450; replace H := (ob H); obtain ⟨⟨t136, t137, t140, t141⟩, A460, H⟩ := H; (try dsimp only at H); have A46 := Aside0.mk A460; clear A460
        simp only [Option.some.injEq, Prod.mk.injEq] at H
        obtain ⟨rfl, rfl, rfl, rfl⟩ := H
        go_wp2_with (first | ((with_reducible refine gate_callee (f := 113) rfl ?_); refine goesL_ (some 93) rfl rfl Try.func113 (by kernel_rfl) rfl #[.int .i64 t114] rfl Q3 ?_; (with_reducible refine (spec_l2Cycle.calls kj13 t114 t132 t133 _ A45.out).mono ?_); rintro e w47 ⟨v134, rfl, ho0, hb⟩; refine ⟨_, rfl, ?_⟩; have HO135 := am (Kd.R_lower (Kd.R_new' ho0 (Kd.R_lt (Q2 HO117))) (keep_size (w := w) (g := g) (row := none) (Q6 HK GW101 GW118))); replace HO117 := am (Kd.R_elder' (Q2 HO117) (Kd.R_base ho0) hb); replace BK101 := am (blk_below (g := gb101) (o := .cells #[.int .i64 0, .slice none 0 0] 30 (0, 0)) (Q1 BK101) hb); replace BK118 := am (blk_below (g := gb118) (o := .cells #[.int .i64 t114, .slice Ao23 y115.length co23] 30 (0, 0)) (Q1 BK118) hb); replace HK := am (KeepBut.trans (Q6 HK GW101 GW118) (KeepBut.of_below hb g none) (.inl rfl)); replace HB := am (below_step (Q5 HB HI0) hb); replace HI0 := am (IsS96.below (Q4 HI0 NB0_101 NB0_118) hb); (try clear hb); (try clear hb2); (try clear hk); (try clear hi); (try clear ho0); have hnb48 := NB118_101.out; have hnc48 := NB101_118.out; have hnb49 := NB118_0.out; have hnc49 := NB0_118.out; have hcz50_0 : w47.cell? ⟨gb118, 0, none⟩ = some (.int .i64 t114) := (blk_cell BK118.out 0).trans rfl; have hcz50_1 : w47.cell? ⟨gb118, 1, none⟩ = some (.slice Ao23 y115.length co23) := (blk_cell BK118.out 1).trans rfl; have hfz50_0 := blk_frozen BK118.out 0; have hfz50_1 := blk_frozen BK118.out 1; obtain ⟨Ao51, co51, eo51⟩ := Kd.R_slice HO135.out; subst eo51) | ((with_reducible refine gate_store (t := 30) (p := 6) rfl ?_); refine store_event (t := 30) (p := 6) (v := ?vo_w52) (w1 := ((w47.setCell ⟨gb118, 0, none⟩ (.int .i64 t132)).setCell ⟨gb118, 1, none⟩ (.slice Ao51 t133.length co51))) ?hg ?ho ?hn ?hr ?_; (case ho => rfl); (case hg => rfl); (case hn => rfl); (case hr => first | (go_simp; done) | (go_simp; rfl)); intro w52 hw; replace HO117 : Aside0 (Kd.R k71 71 w52 w.heap.size (fun k_ => some k_ ≠ (.slice Ao51 t133.length co51 : Value).ownBlock) (.slice Ao23 y115.length co23) y115) := ⟨(Q83 HO117 BK118)⟩; replace HO135 : Aside0 (Kd.R k71 71 w52 w.heap.size (fun k_ => some k_ ≠ (.slice Ao23 y115.length co23 : Value).ownBlock) (.slice Ao51 t133.length co51) t133) := ⟨(Q83 HO135 BK118)⟩; replace BK101 : Aside0 (w52.heap[gb101]? = some (.cells #[.int .i64 0, .slice none 0 0] 30 (0, 0))) := ⟨(by rw [hw]; exact (Q12 NB101_118 BK101))⟩; replace BK118 : Aside0 (w52.heap[gb118]? = some (.cells #[.int .i64 t132, .slice Ao51 t133.length co51] 30 (0, 0))) := ⟨(by rw [hw]; exact (by (with_reducible repeat (first | refine blk_drewN ?_ _ | refine blk_drew ?_ | refine blk_alloc ?_ _)); refine blk_put (cs := #[.int .i64 t132, .slice Ao23 y115.length co23]) ?_ 1 _ rfl; (with_reducible repeat (first | refine blk_drewN ?_ _ | refine blk_drew ?_ | refine blk_alloc ?_ _)); refine blk_put (cs := #[.int .i64 t114, .slice Ao23 y115.length co23]) ?_ 0 _ rfl; (with_reducible repeat (first | refine blk_drewN ?_ _ | refine blk_drew ?_ | refine blk_alloc ?_ _)); exact BK118.out))⟩; replace HK : Aside0 (KeepBut w w52 g none) := ⟨(by rw [hw]; exact (Q6 HK GW101 GW118))⟩; replace HB : Aside0 (Below w0.heap.size w0 w52) := ⟨(by rw [hw]; exact (Q17 HB HI0 GE118))⟩; replace HI0 : Aside0 (IsS96 w0 w52 g s0_0 t120 t121) := ⟨(by rw [hw]; exact (Q4 HI0 NB0_101 NB0_118))⟩; clear hw; have hcz53_0 : w52.cell? ⟨gb118, 0, none⟩ = some (.int .i64 t132) := (blk_cell BK118.out 0).trans rfl; have hcz53_1 : w52.cell? ⟨gb118, 1, none⟩ = some (.slice Ao51 t133.length co51) := (blk_cell BK118.out 1).trans rfl; have hfz53_0 := blk_frozen BK118.out 0; have hfz53_1 := blk_frozen BK118.out 1) | ((with_reducible refine gate_callee (f := 188) rfl ?_); refine goesL_ (some 100) rfl rfl Try.func188 (by kernel_rfl) rfl #[.pointer (some ⟨g, 0, none⟩), .agg #[.int .i64 t132, .slice Ao51 t133.length co51]] rfl Q3 ?_; (with_reducible refine (spec_l1Cur_marred.calls g s0_0 t120 t121 t132 (fun k_ => some k_ = (.slice Ao51 t133.length co51 : Value).ownBlock) (.slice Ao51 t133.length co51) t133 t136 t137 t140 t141 w0 _ ?side1 ?side2 ?side3 A46.out).mono ?_); (case side1 => exact (Q4 HI0 NB0_101 NB0_118)); (case side2 => exact (Q5 HB HI0)); (case side3 => exact Kd.R_lower (Kd.R_tight rfl HO135.out) HL.out); rintro e w54 ⟨v138, rfl, ho0, hi, hb, hkp⟩; refine ⟨_, rfl, ?_⟩; replace BK101 := am (blk_kept (Q31 BK101) hkp (fun hs_ => Or.elim hs_ (fun hs_ => (fun e_ => (Kd.R_ne HO135.out BK101.out (by decide)) e_) hs_) (fun e_ => NB101_0.out e_))); replace BK118 := am (blk_kept (Q31 BK118) hkp (fun hs_ => Or.elim hs_ (fun hs_ => (fun e_ => (Kd.R_ne HO135.out BK118.out (by decide)) e_) hs_) (fun e_ => NB118_0.out e_))); have HO139 := am (Kd.R_mono (ok' := fun k_ => some k_ ≠ (.slice Ao23 y115.length co23 : Value).ownBlock) (Kd.R_raise (d := k71) (b := w0.heap.size) (b' := w.heap.size) (fun _ _ _ _ h_ => h_) ho0 (fun k_ e_ => Or.elim (ho0.1 k_ e_) (fun hs_ => (fun e_ => Kd.R_base HO135.out k_ e_.symm) hs_) (fun hn_ => Nat.le_trans (keep_size (w := w) (g := g) (row := none) (Q6 HK GW101 GW118)) hn_))) (fun k_ hk_ => Or.elim hk_ (fun hs_ => fun e_ => ((((IsS96.apart HI0.out HO117.out (by decide))).1 k_ e_.symm).1) hs_) (fun hn_ => (Kd.fresh' (Kd.R_lt (Q2 HO117)) k_ hn_)))); replace HO117 := am (Kd.R_mono (ok' := fun k_ => some k_ ≠ (v138 : Value).ownBlock) (Kd.R_keptB ((IsS96.apart HI0.out HO117.out (by decide))) hkp (fun k_ hk_ hs_ => Or.elim hs_ (fun hs_ => (hk_.1) hs_) (fun e_ => (hk_.2) e_))) (fun k_ hk_ => fun e_ => Or.elim (ho0.1 k_ e_.symm) (fun hs_ => hk_.2.1 (by first | exact .inl hs_ | exact hs_)) (fun hn_ => Nat.not_le.2 hk_.2.2 hn_))); replace HI0 := am (hi); replace HK := am (Kept.keepG (Q6 HK GW101 GW118) hkp (fun k_ hs_ => Or.elim hs_ (fun hs_ => (fun e_ => .inr (Kd.R_base HO135.out k_ e_.symm)) hs_) (fun e_ => .inl e_))); replace HB := am (hb); clear HO135; (try clear hb); (try clear hkp); (try clear ho0); have hnb55 := NB101_0.out; have hnc55 := NB0_101.out; have hcz56_0 : w54.cell? ⟨gb101, 0, none⟩ = some (.int .i64 0) := (blk_cell BK101.out 0).trans rfl; have hcz56_1 : w54.cell? ⟨gb101, 1, none⟩ = some (.slice none 0 0) := (blk_cell BK101.out 1).trans rfl; have hfz56_0 := blk_frozen BK101.out 0; have hfz56_1 := blk_frozen BK101.out 1; obtain ⟨Ao57, co57, eo57⟩ := Kd.R_slice HO139.out; subst eo57))
        refine bodyPost_ret (results_cell_row rfl _ _ gb101 30 #[.int .i64 t136, .slice Ao57 t137.length co57] (0, 0) _ rfl (by (with_reducible repeat (first | refine blk_drewN ?_ _ | refine blk_drew ?_ | refine blk_alloc ?_ _)); refine blk_put (cs := #[.int .i64 t136, .slice none 0 0]) ?_ 1 _ rfl; (with_reducible repeat (first | refine blk_drewN ?_ _ | refine blk_drew ?_ | refine blk_alloc ?_ _)); refine blk_put (cs := #[.int .i64 0, .slice none 0 0]) ?_ 0 _ rfl; (with_reducible repeat (first | refine blk_drewN ?_ _ | refine blk_drew ?_ | refine blk_alloc ?_ _)); exact BK101.out) Try.underlying30 rfl (by kernel_rfl)) rfl ?_; exact ⟨_, Q11, by (with_reducible repeat (first | apply Kd.R_alloc | apply Kd.R_drewN | apply Kd.R_drew)); exact Kd.R_mono (Kd.R_far (p := ⟨gb101, 1, none⟩) (Kd.R_far (p := ⟨gb101, 0, none⟩) (Kd.R_types HO139.out BK101.out (by decide)) (fun _ hk => hk.2) (.int .i64 t136)) (fun _ hk => hk.2) (.slice Ao57 t137.length co57)) (fun _ hk => trivial), Q4 HI0 NB0_101 NB0_118, Q17 HB HI0 GE101, Q6 HK GW101 GW118⟩
       ·rw [if_neg c44] at H
        have c44b0 : decide (2 < t114) = false := decide_eq_false c44; clear c44; replace H := (ob H); obtain ⟨⟨t142, t143, t146, t147⟩, A580, H⟩ := H; (try dsimp only at H); have A58 := Aside0.mk A580; clear A580
        simp only [Option.some.injEq, Prod.mk.injEq] at H
        obtain ⟨rfl, rfl, rfl, rfl⟩ := H; have hnb59 := NB118_101.out; have hnc59 := NB101_118.out; have hnb60 := NB118_0.out; have hnc60 := NB0_118.out; have hcz61_0 : w28.cell? ⟨gb118, 0, none⟩ = some (.int .i64 t114) := (blk_cell BK118.out 0).trans rfl; have hcz61_1 : w28.cell? ⟨gb118, 1, none⟩ = some (.slice Ao23 y115.length co23) := (blk_cell BK118.out 1).trans rfl; have hfz61_0 := blk_frozen BK118.out 0; have hfz61_1 := blk_frozen BK118.out 1
        go_wp2_with (first | ((with_reducible refine gate_callee (f := 188) rfl ?_); refine goesL_ (some 100) rfl rfl Try.func188 (by kernel_rfl) rfl #[.pointer (some ⟨g, 0, none⟩), .agg #[.int .i64 t114, .slice Ao23 y115.length co23]] rfl Q3 ?_; (with_reducible refine (spec_l1Cur_marred.calls g s0_0 t120 t121 t114 (fun k_ => some k_ = (.slice Ao23 y115.length co23 : Value).ownBlock) (.slice Ao23 y115.length co23) y115 t142 t143 t146 t147 w0 _ ?side1 ?side2 ?side3 A58.out).mono ?_); (case side1 => exact (Q4 HI0 NB0_101 NB0_118)); (case side2 => exact (Q5 HB HI0)); (case side3 => exact Kd.R_lower (Kd.R_tight rfl HO117.out) HL.out); rintro e w62 ⟨v144, rfl, ho0, hi, hb, hkp⟩; refine ⟨_, rfl, ?_⟩; replace BK101 := am (blk_kept (Q31 BK101) hkp (fun hs_ => Or.elim hs_ (fun hs_ => (fun e_ => (Kd.R_ne HO117.out BK101.out (by decide)) e_) hs_) (fun e_ => NB101_0.out e_))); replace HI0 := am (hi); replace BK118 := am (blk_kept (Q31 BK118) hkp (fun hs_ => Or.elim hs_ (fun hs_ => (fun e_ => (Kd.R_ne HO117.out BK118.out (by decide)) e_) hs_) (fun e_ => NB118_0.out e_))); have HO145 := am (Kd.R_mono (ok' := fun k_ => True) (Kd.R_raise (d := k71) (b := w0.heap.size) (b' := w.heap.size) (fun _ _ _ _ h_ => h_) ho0 (fun k_ e_ => Or.elim (ho0.1 k_ e_) (fun hs_ => (fun e_ => Kd.R_base HO117.out k_ e_.symm) hs_) (fun hn_ => Nat.le_trans (keep_size (w := w) (g := g) (row := none) (Q6 HK GW101 GW118)) hn_))) (fun k_ hk_ => trivial)); replace HK := am (Kept.keepG (Q6 HK GW101 GW118) hkp (fun k_ hs_ => Or.elim hs_ (fun hs_ => (fun e_ => .inr (Kd.R_base HO117.out k_ e_.symm)) hs_) (fun e_ => .inl e_))); replace HB := am (hb); clear HO117; (try clear hb); (try clear hkp); (try clear ho0); have hnb63 := NB101_0.out; have hnc63 := NB0_101.out; have hcz64_0 : w62.cell? ⟨gb101, 0, none⟩ = some (.int .i64 0) := (blk_cell BK101.out 0).trans rfl; have hcz64_1 : w62.cell? ⟨gb101, 1, none⟩ = some (.slice none 0 0) := (blk_cell BK101.out 1).trans rfl; have hfz64_0 := blk_frozen BK101.out 0; have hfz64_1 := blk_frozen BK101.out 1; obtain ⟨Ao65, co65, eo65⟩ := Kd.R_slice HO145.out; subst eo65))
        refine bodyPost_ret (results_cell_row rfl _ _ gb101 30 #[.int .i64 t142, .slice Ao65 t143.length co65] (0, 0) _ rfl (by (with_reducible repeat (first | refine blk_drewN ?_ _ | refine blk_drew ?_ | refine blk_alloc ?_ _)); refine blk_put (cs := #[.int .i64 t142, .slice none 0 0]) ?_ 1 _ rfl; (with_reducible repeat (first | refine blk_drewN ?_ _ | refine blk_drew ?_ | refine blk_alloc ?_ _)); refine blk_put (cs := #[.int .i64 0, .slice none 0 0]) ?_ 0 _ rfl; (with_reducible repeat (first | refine blk_drewN ?_ _ | refine blk_drew ?_ | refine blk_alloc ?_ _)); exact BK101.out) Try.underlying30 rfl (by kernel_rfl)) rfl ?_; exact ⟨_, Q11, by (with_reducible repeat (first | apply Kd.R_alloc | apply Kd.R_drewN | apply Kd.R_drew)); exact Kd.R_mono (Kd.R_far (p := ⟨gb101, 1, none⟩) (Kd.R_far (p := ⟨gb101, 0, none⟩) (Kd.R_types HO145.out BK101.out (by decide)) (fun _ hk => hk.2) (.int .i64 t142)) (fun _ hk => hk.2) (.slice Ao65 t143.length co65)) (fun _ hk => trivial), Q4 HI0 NB0_101 NB0_118, Q17 HB HI0 GE101, Q6 HK GW101 GW118⟩
      ·rw [if_neg c43] at H
       have c43b0 := beq_eq_false_iff_ne.mpr c43; have c43b1 := bne_iff_ne.mpr c43
       by_cases c66 : t119 = 2
       ·rw [if_pos c66] at H
        have c66b0 := beq_iff_eq.mpr c66; have c66b1 := bne_eq_false_iff_eq.mpr c66; clear c66; replace H := (ob H); obtain ⟨⟨t148, t149⟩, A670, H⟩ := H; (try dsimp only at H); have A67 := Aside0.mk A670; clear A670; replace H := (ob H); obtain ⟨⟨t152, t153, t156, t157⟩, A680, H⟩ := H; (try dsimp only at H); have A68 := Aside0.mk A680; clear A680
        simp only [Option.some.injEq, Prod.mk.injEq] at H
        obtain ⟨rfl, rfl, rfl, rfl⟩ := H
        go_wp2_with (first | ((with_reducible refine gate_callee (f := 115) rfl ?_); refine goesL_ (some 97) rfl rfl Try.func115 (by kernel_rfl) rfl #[.int .i64 t114] rfl Q3 ?_; (with_reducible refine (spec_l2Complete.calls kj13 t114 t148 t149 _ A67.out).mono ?_); rintro e w69 ⟨v150, rfl, ho0, hb⟩; refine ⟨_, rfl, ?_⟩; have HO151 := am (Kd.R_lower (Kd.R_new' ho0 (Kd.R_lt (Q2 HO117))) (keep_size (w := w) (g := g) (row := none) (Q6 HK GW101 GW118))); replace HO117 := am (Kd.R_elder' (Q2 HO117) (Kd.R_base ho0) hb); replace BK101 := am (blk_below (g := gb101) (o := .cells #[.int .i64 0, .slice none 0 0] 30 (0, 0)) (Q1 BK101) hb); replace BK118 := am (blk_below (g := gb118) (o := .cells #[.int .i64 t114, .slice Ao23 y115.length co23] 30 (0, 0)) (Q1 BK118) hb); replace HK := am (KeepBut.trans (Q6 HK GW101 GW118) (KeepBut.of_below hb g none) (.inl rfl)); replace HB := am (below_step (Q5 HB HI0) hb); replace HI0 := am (IsS96.below (Q4 HI0 NB0_101 NB0_118) hb); (try clear hb); (try clear hb2); (try clear hk); (try clear hi); (try clear ho0); have hnb70 := NB118_101.out; have hnc70 := NB101_118.out; have hnb71 := NB118_0.out; have hnc71 := NB0_118.out; have hcz72_0 : w69.cell? ⟨gb118, 0, none⟩ = some (.int .i64 t114) := (blk_cell BK118.out 0).trans rfl; have hcz72_1 : w69.cell? ⟨gb118, 1, none⟩ = some (.slice Ao23 y115.length co23) := (blk_cell BK118.out 1).trans rfl; have hfz72_0 := blk_frozen BK118.out 0; have hfz72_1 := blk_frozen BK118.out 1; obtain ⟨Ao73, co73, eo73⟩ := Kd.R_slice HO151.out; subst eo73) | ((with_reducible refine gate_store (t := 30) (p := 6) rfl ?_); refine store_event (t := 30) (p := 6) (v := ?vo_w74) (w1 := ((w69.setCell ⟨gb118, 0, none⟩ (.int .i64 t148)).setCell ⟨gb118, 1, none⟩ (.slice Ao73 t149.length co73))) ?hg ?ho ?hn ?hr ?_; (case ho => rfl); (case hg => rfl); (case hn => rfl); (case hr => first | (go_simp; done) | (go_simp; rfl)); intro w74 hw; replace HO117 : Aside0 (Kd.R k71 71 w74 w.heap.size (fun k_ => some k_ ≠ (.slice Ao73 t149.length co73 : Value).ownBlock) (.slice Ao23 y115.length co23) y115) := ⟨(Q84 HO117 BK118)⟩; replace HO151 : Aside0 (Kd.R k71 71 w74 w.heap.size (fun k_ => some k_ ≠ (.slice Ao23 y115.length co23 : Value).ownBlock) (.slice Ao73 t149.length co73) t149) := ⟨(Q84 HO151 BK118)⟩; replace BK101 : Aside0 (w74.heap[gb101]? = some (.cells #[.int .i64 0, .slice none 0 0] 30 (0, 0))) := ⟨(by rw [hw]; exact (Q12 NB101_118 BK101))⟩; replace BK118 : Aside0 (w74.heap[gb118]? = some (.cells #[.int .i64 t148, .slice Ao73 t149.length co73] 30 (0, 0))) := ⟨(by rw [hw]; exact (by (with_reducible repeat (first | refine blk_drewN ?_ _ | refine blk_drew ?_ | refine blk_alloc ?_ _)); refine blk_put (cs := #[.int .i64 t148, .slice Ao23 y115.length co23]) ?_ 1 _ rfl; (with_reducible repeat (first | refine blk_drewN ?_ _ | refine blk_drew ?_ | refine blk_alloc ?_ _)); refine blk_put (cs := #[.int .i64 t114, .slice Ao23 y115.length co23]) ?_ 0 _ rfl; (with_reducible repeat (first | refine blk_drewN ?_ _ | refine blk_drew ?_ | refine blk_alloc ?_ _)); exact BK118.out))⟩; replace HK : Aside0 (KeepBut w w74 g none) := ⟨(by rw [hw]; exact (Q6 HK GW101 GW118))⟩; replace HB : Aside0 (Below w0.heap.size w0 w74) := ⟨(by rw [hw]; exact (Q17 HB HI0 GE118))⟩; replace HI0 : Aside0 (IsS96 w0 w74 g s0_0 t120 t121) := ⟨(by rw [hw]; exact (Q4 HI0 NB0_101 NB0_118))⟩; clear hw; have hcz75_0 : w74.cell? ⟨gb118, 0, none⟩ = some (.int .i64 t148) := (blk_cell BK118.out 0).trans rfl; have hcz75_1 : w74.cell? ⟨gb118, 1, none⟩ = some (.slice Ao73 t149.length co73) := (blk_cell BK118.out 1).trans rfl; have hfz75_0 := blk_frozen BK118.out 0; have hfz75_1 := blk_frozen BK118.out 1) | ((with_reducible refine gate_callee (f := 188) rfl ?_); refine goesL_ (some 100) rfl rfl Try.func188 (by kernel_rfl) rfl #[.pointer (some ⟨g, 0, none⟩), .agg #[.int .i64 t148, .slice Ao73 t149.length co73]] rfl Q3 ?_; (with_reducible refine (spec_l1Cur_marred.calls g s0_0 t120 t121 t148 (fun k_ => some k_ = (.slice Ao73 t149.length co73 : Value).ownBlock) (.slice Ao73 t149.length co73) t149 t152 t153 t156 t157 w0 _ ?side1 ?side2 ?side3 A68.out).mono ?_); (case side1 => exact (Q4 HI0 NB0_101 NB0_118)); (case side2 => exact (Q5 HB HI0)); (case side3 => exact Kd.R_lower (Kd.R_tight rfl HO151.out) HL.out); rintro e w76 ⟨v154, rfl, ho0, hi, hb, hkp⟩; refine ⟨_, rfl, ?_⟩; replace BK101 := am (blk_kept (Q31 BK101) hkp (fun hs_ => Or.elim hs_ (fun hs_ => (fun e_ => (Kd.R_ne HO151.out BK101.out (by decide)) e_) hs_) (fun e_ => NB101_0.out e_))); replace BK118 := am (blk_kept (Q31 BK118) hkp (fun hs_ => Or.elim hs_ (fun hs_ => (fun e_ => (Kd.R_ne HO151.out BK118.out (by decide)) e_) hs_) (fun e_ => NB118_0.out e_))); have HO155 := am (Kd.R_mono (ok' := fun k_ => some k_ ≠ (.slice Ao23 y115.length co23 : Value).ownBlock) (Kd.R_raise (d := k71) (b := w0.heap.size) (b' := w.heap.size) (fun _ _ _ _ h_ => h_) ho0 (fun k_ e_ => Or.elim (ho0.1 k_ e_) (fun hs_ => (fun e_ => Kd.R_base HO151.out k_ e_.symm) hs_) (fun hn_ => Nat.le_trans (keep_size (w := w) (g := g) (row := none) (Q6 HK GW101 GW118)) hn_))) (fun k_ hk_ => Or.elim hk_ (fun hs_ => fun e_ => ((((IsS96.apart HI0.out HO117.out (by decide))).1 k_ e_.symm).1) hs_) (fun hn_ => (Kd.fresh' (Kd.R_lt (Q2 HO117)) k_ hn_)))); replace HO117 := am (Kd.R_mono (ok' := fun k_ => some k_ ≠ (v154 : Value).ownBlock) (Kd.R_keptB ((IsS96.apart HI0.out HO117.out (by decide))) hkp (fun k_ hk_ hs_ => Or.elim hs_ (fun hs_ => (hk_.1) hs_) (fun e_ => (hk_.2) e_))) (fun k_ hk_ => fun e_ => Or.elim (ho0.1 k_ e_.symm) (fun hs_ => hk_.2.1 (by first | exact .inl hs_ | exact hs_)) (fun hn_ => Nat.not_le.2 hk_.2.2 hn_))); replace HI0 := am (hi); replace HK := am (Kept.keepG (Q6 HK GW101 GW118) hkp (fun k_ hs_ => Or.elim hs_ (fun hs_ => (fun e_ => .inr (Kd.R_base HO151.out k_ e_.symm)) hs_) (fun e_ => .inl e_))); replace HB := am (hb); clear HO151; (try clear hb); (try clear hkp); (try clear ho0); have hnb77 := NB101_0.out; have hnc77 := NB0_101.out; have hcz78_0 : w76.cell? ⟨gb101, 0, none⟩ = some (.int .i64 0) := (blk_cell BK101.out 0).trans rfl; have hcz78_1 : w76.cell? ⟨gb101, 1, none⟩ = some (.slice none 0 0) := (blk_cell BK101.out 1).trans rfl; have hfz78_0 := blk_frozen BK101.out 0; have hfz78_1 := blk_frozen BK101.out 1; obtain ⟨Ao79, co79, eo79⟩ := Kd.R_slice HO155.out; subst eo79))
        refine bodyPost_ret (results_cell_row rfl _ _ gb101 30 #[.int .i64 t152, .slice Ao79 t153.length co79] (0, 0) _ rfl (by (with_reducible repeat (first | refine blk_drewN ?_ _ | refine blk_drew ?_ | refine blk_alloc ?_ _)); refine blk_put (cs := #[.int .i64 t152, .slice none 0 0]) ?_ 1 _ rfl; (with_reducible repeat (first | refine blk_drewN ?_ _ | refine blk_drew ?_ | refine blk_alloc ?_ _)); refine blk_put (cs := #[.int .i64 0, .slice none 0 0]) ?_ 0 _ rfl; (with_reducible repeat (first | refine blk_drewN ?_ _ | refine blk_drew ?_ | refine blk_alloc ?_ _)); exact BK101.out) Try.underlying30 rfl (by kernel_rfl)) rfl ?_; exact ⟨_, Q11, by (with_reducible repeat (first | apply Kd.R_alloc | apply Kd.R_drewN | apply Kd.R_drew)); exact Kd.R_mono (Kd.R_far (p := ⟨gb101, 1, none⟩) (Kd.R_far (p := ⟨gb101, 0, none⟩) (Kd.R_types HO155.out BK101.out (by decide)) (fun _ hk => hk.2) (.int .i64 t152)) (fun _ hk => hk.2) (.slice Ao79 t153.length co79)) (fun _ hk => trivial), Q4 HI0 NB0_101 NB0_118, Q17 HB HI0 GE101, Q6 HK GW101 GW118⟩
       ·rw [if_neg c66] at H
        have c66b0 := beq_eq_false_iff_ne.mpr c66; have c66b1 := bne_iff_ne.mpr c66; obtain ⟨y158, hy158⟩ : ∃ y_ : List Int, y_ = (([3, 4, 6] : List Int)) := ⟨_, rfl⟩; replace H : ((spec_l1Cur_among.f s0_0 t120 t121 y158).bind fun bt161 => ((spec_l1Cur_one.f s0_0 bt161.2.1 bt161.2.2 6).bind fun bt164 => (spec_l1Cur_someGraph.l0 kj13 t114 bt161.1 bt164.1 0 s0_0 bt164.2.1 bt164.2.2 t114 y115))) = some (r1, r2, r3, r4) := RH hy158 H; have Ny158 := Aside0.mk hy158; clear hy158; replace H := (ob H); obtain ⟨⟨t161, t162, t163⟩, A800, H⟩ := H; (try dsimp only at H); have A80 := Aside0.mk A800; clear A800; replace H := (ob H); obtain ⟨⟨t164, t165, t166⟩, A810, H⟩ := H; (try dsimp only at H); have A81 := Aside0.mk A810; clear A810; have H' := Aside0.mk H; clear H
        go_wp2_with (first | ((with_reducible refine gate_dst (N := 33) rfl ?_); refine Kd.R_lit (Kd.int .i64) _ 3 ?hg (N := 33) ?hd (xs := ([3, 4, 6] : List Int)) (inner := [.int .i64 3, .int .i64 4, .int .i64 6]) (ok := fun _ => True) (okp := fun _ => True) ?hr ?hp (fun _ hk => hk) trivial (Below.refl _ _) (Nat.le_refl _) (by simp) ?_; (case hd => rfl); (case hg => rfl); (case hr => first | (go_simp; done) | (go_simp; rfl)); (case hp => exact (Reps.one (show Kd.M (Kd.int .i64) _ _ _ 3 [.int .i64 3] from rfl) (Reps.one (show Kd.M (Kd.int .i64) _ _ _ 4 [.int .i64 4] from rfl) (Reps.one (show Kd.M (Kd.int .i64) _ _ _ 6 [.int .i64 6] from rfl) (Reps.none _ _))))); intro v159 w82 ho83 hb hg_ hnew_; clear hg_ hnew_; (first | rw [← Ny158.out] at ho83 | (simp only [Int.reduceToNat] at ho83; rw [← Ny158.out] at ho83)); replace HO117 := am (Kd.R_below (Q2 HO117) hb); have HO160 := am (Kd.R_lower ho83 (keep_size (w := w) (g := g) (row := none) (Q6 HK GW101 GW118))); replace BK101 := am (blk_below (g := gb101) (o := .cells #[.int .i64 0, .slice none 0 0] 30 (0, 0)) (Q1 BK101) hb); replace BK118 := am (blk_below (g := gb118) (o := .cells #[.int .i64 t114, .slice Ao23 y115.length co23] 30 (0, 0)) (Q1 BK118) hb); replace HK := am (KeepBut.trans (Q6 HK GW101 GW118) (KeepBut.of_below hb g none) (.inl rfl)); replace HB := am (below_step (Q5 HB HI0) hb); replace HI0 := am (IsS96.below (Q4 HI0 NB0_101 NB0_118) hb); clear hb ho83; obtain ⟨Ao84, co84, eo84⟩ := Kd.R_slice HO160.out; subst eo84) | ((with_reducible refine gate_callee (f := 106) rfl ?_); refine goesL_ (some 34) rfl rfl Try.func106 (by kernel_rfl) rfl #[.pointer (some ⟨g, 0, none⟩), .slice Ao84 y158.length co84] rfl Q3 ?_; (with_reducible refine (spec_l1Cur_among.calls g s0_0 t120 t121 _ _ y158 t161 t162 t163 w0 _ ?side1 ?side2 ?side3 ?side4 ?side5 A80.out).mono ?_); (case side1 => exact (Q4 HI0 NB0_101 NB0_118)); (case side2 => exact (Q5 HB HI0)); (case side3 => exact (Q14 HO160)); (case side4 => exact (Kd.R_reads' HO160.out).2.1); (case side5 => exact far_slice (IsS96.own_ne HI0.out HO160.out (by decide))); rintro e w85 ⟨rfl, hi, hb, hk⟩; refine ⟨_, rfl, ?_⟩; replace BK101 := am (KeepBut.blk hk (g' := gb101) (o := .cells #[.int .i64 0, .slice none 0 0] 30 (0, 0)) (Q1 BK101) NB101_0.out (by simp)); replace HO117 := am (Kd.R_mono (Kd.R_keep (IsS96.apart (show IsS96 w0 _ g s0_0 t120 t121 from Q4 HI0 NB0_101 NB0_118) (Q2 HO117) (by decide)) hk (fun _ h => h.2)) (fun _ h => h.1)); replace BK118 := am (KeepBut.blk hk (g' := gb118) (o := .cells #[.int .i64 t114, .slice Ao23 y115.length co23] 30 (0, 0)) (Q1 BK118) NB118_0.out (by simp)); replace HO160 := am (Kd.R_mono (Kd.R_keep (IsS96.apart (show IsS96 w0 _ g s0_0 t120 t121 from Q4 HI0 NB0_101 NB0_118) (Q2 HO160) (by decide)) hk (fun _ h => h.2)) (fun _ h => h.1)); replace HK := am (KeepBut.trans (Q6 HK GW101 GW118) hk (.inl rfl)); replace HB := am (hb); replace HI0 := am (hi); (try clear hb); (try clear hb2); (try clear hk); (try clear hi)) | ((with_reducible refine gate_callee (f := 129) rfl ?_); refine goesL_ (some 36) rfl rfl Try.func129 (by kernel_rfl) rfl #[.pointer (some ⟨g, 0, none⟩), .int .i64 6] rfl Q3 ?_; (with_reducible refine (spec_l1Cur_one.calls g s0_0 t162 t163 6 t164 t165 t166 w0 _ ?side1 ?side2 A81.out).mono ?_); (case side1 => exact (Q4 HI0 NB0_101 NB0_118)); (case side2 => exact (Q5 HB HI0)); rintro e w86 ⟨rfl, hi, hb, hk⟩; refine ⟨_, rfl, ?_⟩; replace BK101 := am (KeepBut.blk hk (g' := gb101) (o := .cells #[.int .i64 0, .slice none 0 0] 30 (0, 0)) (Q1 BK101) NB101_0.out (by simp)); replace HO117 := am (Kd.R_mono (Kd.R_keep (IsS96.apart (show IsS96 w0 _ g s0_0 t162 t163 from Q4 HI0 NB0_101 NB0_118) (Q2 HO117) (by decide)) hk (fun _ h => h.2)) (fun _ h => h.1)); replace BK118 := am (KeepBut.blk hk (g' := gb118) (o := .cells #[.int .i64 t114, .slice Ao23 y115.length co23] 30 (0, 0)) (Q1 BK118) NB118_0.out (by simp)); replace HO160 := am (Kd.R_mono (Kd.R_keep (IsS96.apart (show IsS96 w0 _ g s0_0 t162 t163 from Q4 HI0 NB0_101 NB0_118) (Q2 HO160) (by decide)) hk (fun _ h => h.2)) (fun _ h => h.1)); replace HK := am (KeepBut.trans (Q6 HK GW101 GW118) hk (.inl rfl)); replace HB := am (hb); replace HI0 := am (hi); (try clear hb); (try clear hb2); (try clear hk); (try clear hi)))
        go_loopg [9] kj13 (fun kq v9 w' => ∃ (x9_3 : Int) (x1001_3 : Int) (x1002_3 : Int) (x119001_3 : List (S71)) (u119001 : Value), v9 = .int .i64 x9_3 ∧ Aside0 (spec_l1Cur_someGraph.l0 kq t114 t161 t164 x9_3 s0_0 x1001_3 x1002_3 t114 x119001_3 = some (r1, r2, r3, r4)) ∧ Aside0 (kq ≤ kj13) ∧ Aside0 (Kd.R k71 71 w' w.heap.size (fun _ => True) u119001 x119001_3) ∧ Aside0 (w'.heap[gb101]? = some (.cells #[.int .i64 0, (.slice none 0 0)] 30 (0, 0))) ∧ Aside0 (w'.heap[gb118]? = some (.cells #[.int .i64 t114, u119001] 30 (0, 0))) ∧ Aside0 (IsS96 w0 w' g s0_0 x1001_3 x1002_3) ∧ Aside0 (KeepBut w w' g none) ∧ Aside0 (Below w0.heap.size w0 w'))
        case atStart => exact ⟨(0), (t165), (t166), (y115), (.slice Ao23 y115.length co23), Q13, H', ⟨Nat.le_refl _⟩, ⟨Q2 HO117⟩, ⟨Q1 BK101⟩, ⟨Q1 BK118⟩, ⟨Q4 HI0 NB0_101 NB0_118⟩, ⟨Q6 HK GW101 GW118⟩, ⟨Q5 HB HI0⟩⟩
        case round =>
         clear H'
         try clear c1
         try clear c2
         try clear p2
         try clear c3
         try clear c4
         try clear c5
         try clear c6
         try clear p6
         try clear c7
         try clear c10
         try clear c11
         try clear c11b0
         try clear c12
         try clear c14
         try clear c15
         try clear c18
         try clear c25
         try clear c26
         try clear c29
         try clear c29b0
         try clear c29b1
         try clear c33
         try clear c34
         try clear c40
         try clear c43
         try clear c43b0
         try clear c43b1
         try clear c44
         try clear c44b0
         try clear c48
         try clear c49
         try clear c55
         try clear c59
         try clear c60
         try clear c63
         try clear p64
         try clear c66
         try clear c66b0
         try clear c66b1
         try clear c70
         try clear c71
         try clear c77
         try clear hcz27_0
         try clear hcz27_1
         try clear hcz35_0
         try clear hcz35_1
         try clear hcz38_0
         try clear hcz38_1
         try clear hcz41_0
         try clear hcz41_1
         try clear hcz50_0
         try clear hcz50_1
         try clear hcz53_0
         try clear hcz53_1
         try clear hcz56_0
         try clear hcz56_1
         try clear hcz61_0
         try clear hcz61_1
         try clear hcz64_0
         try clear hcz64_1
         try clear hcz72_0
         try clear hcz72_1
         try clear hcz75_0
         try clear hcz75_1
         try clear hcz78_0
         try clear hcz78_1
         try clear hfz27_0
         try clear hfz27_1
         try clear hfz35_0
         try clear hfz35_1
         try clear hfz38_0
         try clear hfz38_1
         try clear hfz41_0
         try clear hfz41_1
         try clear hfz50_0
         try clear hfz50_1
         try clear hfz53_0
         try clear hfz53_1
         try clear hfz56_0
         try clear hfz56_1
         try clear hfz61_0
         try clear hfz61_1
         try clear hfz64_0
         try clear hfz64_1
         try clear hfz72_0
         try clear hfz72_1
         try clear hfz75_0
         try clear hfz75_1
         try clear hfz78_0
         try clear hfz78_1
         try clear p2
         try clear p6
         obtain ⟨x9_3, x1001_3, x1002_3, x119001_3, u119001, rfl, HA, HK3, HO_119001, BK101, BK118, HI0, HK, HB⟩ := hrel
         cases gk with
         | zero => exact absurd HA.out (by simp [spec_l1Cur_someGraph.l0])
         | succ k3 =>
          have H := HA.out; clear HA
          simp only [spec_l1Cur_someGraph.l0] at H
          by_cases c87 : x9_3 < t114
          ·rw [if_pos c87] at H
           have c87b0 := decide_eq_true c87; clear c87; have H' := Aside0.mk H; clear H
           go_wp2
           go_loopg [10] k3 (fun kq v10 w' => ∃ (x10_4 : Int) (x1001_4 : Int) (x1002_4 : Int) (x119001_4 : List (S71)) (u119001 : Value), v10 = .int .i64 x10_4 ∧ Aside0 (spec_l1Cur_someGraph.l1 kq t114 t161 t164 x9_3 x10_4 s0_0 x1001_4 x1002_4 t114 x119001_4 = some (r1, r2, r3, r4)) ∧ Aside0 (kq ≤ k3) ∧ Aside0 (Kd.R k71 71 w' w.heap.size (fun _ => True) u119001 x119001_4) ∧ Aside0 (w'.heap[gb101]? = some (.cells #[.int .i64 0, (.slice none 0 0)] 30 (0, 0))) ∧ Aside0 (w'.heap[gb118]? = some (.cells #[.int .i64 t114, u119001] 30 (0, 0))) ∧ Aside0 (IsS96 w0 w' g s0_0 x1001_4 x1002_4) ∧ Aside0 (KeepBut w w' g none) ∧ Aside0 (Below w0.heap.size w0 w'))
           case atStart => exact ⟨(wrap64 (x9_3 + 1)), (x1001_3), (x1002_3), (x119001_3), (u119001), Q13, H', ⟨Nat.le_refl _⟩, ⟨Q37⟩, ⟨Q1 BK101⟩, ⟨Q1 BK118⟩, ⟨Q4 HI0 NB0_101 NB0_118⟩, ⟨Q6 HK GW101 GW118⟩, ⟨Q5 HB HI0⟩⟩
           case round =>
            clear H'
            try clear c1
            try clear c2
            try clear p2
            try clear c3
            try clear c4
            try clear c5
            try clear c6
            try clear p6
            try clear c7
            try clear c8
            try clear c10
            try clear c11
            try clear c11b0
            try clear c12
            try clear c14
            try clear c15
            try clear c18
            try clear c25
            try clear c26
            try clear c29
            try clear c29b0
            try clear c29b1
            try clear c33
            try clear c34
            try clear c40
            try clear c43
            try clear c43b0
            try clear c43b1
            try clear c44
            try clear c44b0
            try clear c48
            try clear c49
            try clear c55
            try clear c59
            try clear c60
            try clear c63
            try clear p64
            try clear c66
            try clear c66b0
            try clear c66b1
            try clear c70
            try clear c71
            try clear c77
            try clear c87
            try clear c87b0
            try clear hcz27_0
            try clear hcz27_1
            try clear hcz35_0
            try clear hcz35_1
            try clear hcz38_0
            try clear hcz38_1
            try clear hcz41_0
            try clear hcz41_1
            try clear hcz50_0
            try clear hcz50_1
            try clear hcz53_0
            try clear hcz53_1
            try clear hcz56_0
            try clear hcz56_1
            try clear hcz61_0
            try clear hcz61_1
            try clear hcz64_0
            try clear hcz64_1
            try clear hcz72_0
            try clear hcz72_1
            try clear hcz75_0
            try clear hcz75_1
            try clear hcz78_0
            try clear hcz78_1
            try clear hfz27_0
            try clear hfz27_1
            try clear hfz35_0
            try clear hfz35_1
            try clear hfz38_0
            try clear hfz38_1
            try clear hfz41_0
            try clear hfz41_1
            try clear hfz50_0
            try clear hfz50_1
            try clear hfz53_0
            try clear hfz53_1
            try clear hfz56_0
            try clear hfz56_1
            try clear hfz61_0
            try clear hfz61_1
            try clear hfz64_0
            try clear hfz64_1
            try clear hfz72_0
            try clear hfz72_1
            try clear hfz75_0
            try clear hfz75_1
            try clear hfz78_0
            try clear hfz78_1
            try clear p2
            try clear p6
            try clear p64
            obtain ⟨x10_4, x1001_4, x1002_4, x119001_4, u119001, rfl, HA, HK4, HO_119001, BK101, BK118, HI0, HK, HB⟩ := hrel
            cases gk with
            | zero => exact absurd HA.out (by simp [spec_l1Cur_someGraph.l1])
            | succ k4 =>
             have H := HA.out; clear HA
             simp only [spec_l1Cur_someGraph.l1] at H
             by_cases c88 : x10_4 < t114
             ·rw [if_pos c88] at H
              have c88b0 := decide_eq_true c88; clear c88; replace H := (ob H); obtain ⟨⟨t173, t174, t175⟩, A890, H⟩ := H; (try dsimp only at H); have A89 := Aside0.mk A890; clear A890; have HU90 := Aside0.mk H; clear H
              go_upto_if 52 with (first | ((with_reducible refine gate_callee (f := 141) rfl ?_); refine goesL_ (some 51) rfl rfl Try.func141 (by kernel_rfl) rfl #[.pointer (some ⟨g, 0, none⟩), .int .i64 t161] rfl Q3 ?_; (with_reducible refine (spec_l1Cur_pick.calls g s0_0 x1001_4 x1002_4 t161 t173 t174 t175 w0 _ ?side1 ?side2 A89.out).mono ?_); (case side1 => exact (Q4 HI0 NB0_101 NB0_118)); (case side2 => exact (Q5 HB HI0)); rintro e w91 ⟨rfl, hi, hb, hk⟩; refine ⟨_, rfl, ?_⟩; replace HO_119001 := am (Kd.R_mono (Kd.R_keep (IsS96.apart (show IsS96 w0 _ g s0_0 x1001_4 x1002_4 from Q4 HI0 NB0_101 NB0_118) Q37 (by decide)) hk (fun _ h => h.2)) (fun _ h => h.1)); replace BK101 := am (KeepBut.blk hk (g' := gb101) (o := .cells #[.int .i64 0, .slice none 0 0] 30 (0, 0)) (Q1 BK101) NB101_0.out (by simp)); replace BK118 := am (KeepBut.blk hk (g' := gb118) (o := .cells #[.int .i64 t114, u119001] 30 (0, 0)) (Q1 BK118) NB118_0.out (by simp)); replace HK := am (KeepBut.trans (Q6 HK GW101 GW118) hk (.inl rfl)); replace HB := am (hb); replace HI0 := am (hi); (try clear hb); (try clear hb2); (try clear hk); (try clear hi)))
              (try simp only [Act.put, List.setIfInBounds_toArray, List.set_cons_zero, List.set_cons_succ]); have H := HU90.out; clear HU90
              by_cases c92 : t173 = 0
              ·rw [if_pos c92] at H
               have c92b0 := beq_iff_eq.mpr c92; have c92b1 := bne_eq_false_iff_eq.mpr c92; clear c92
               (first | rw [c92b0] | (simp only [i64_w, i32_w]; rw [c92b0]) | rw [c92b1] | skip)
               replace H := (ob H); obtain ⟨t176, A930, H⟩ := H; (try dsimp only at H); have A93 := Aside0.mk A930; clear A930; have H' := Aside0.mk H; clear H; have hnb94 := NB118_101.out; have hnc94 := NB101_118.out; have hnb95 := NB118_0.out; have hnc95 := NB0_118.out; have hcz96_0 : w91.cell? ⟨gb118, 0, none⟩ = some (.int .i64 t114) := (blk_cell BK118.out 0).trans rfl; have hcz96_1 : w91.cell? ⟨gb118, 1, none⟩ = some (u119001) := (blk_cell BK118.out 1).trans rfl; have hfz96_0 := blk_frozen BK118.out 0; have hfz96_1 := blk_frozen BK118.out 1; obtain ⟨Ao97, co97, eo97⟩ := Kd.R_slice HO_119001.out; subst eo97
               go_wp2_with (first | ((with_reducible refine gate_callee (f := 184) rfl ?_); refine goesL_ (some 58) rfl rfl Try.func184 (by kernel_rfl) rfl #[.slice Ao97 x119001_4.length co97, .agg #[.int .i64 x9_3, .int .i64 x10_4]] rfl Q3 ?_; (with_reducible refine (spec_l2Put.calls k4 _ _ x119001_4 x9_3 x10_4 t176 _ ?side1 ?side2 A93.out).mono ?_); (case side1 => exact Q73); (case side2 => exact (Kd.R_reads' HO_119001.out).2.1); rintro e w98 ⟨v177, rfl, ho0, hb⟩; refine ⟨_, rfl, ?_⟩; have HO178 := am (Kd.R_lower (Kd.R_new' ho0 (Kd.R_lt Q37)) (keep_size (w := w) (g := g) (row := none) (Q6 HK GW101 GW118))); replace HO_119001 := am (Kd.R_elder' Q37 (Kd.R_base ho0) hb); replace BK101 := am (blk_below (g := gb101) (o := .cells #[.int .i64 0, .slice none 0 0] 30 (0, 0)) (Q1 BK101) hb); replace BK118 := am (blk_below (g := gb118) (o := .cells #[.int .i64 t114, .slice Ao97 x119001_4.length co97] 30 (0, 0)) (Q1 BK118) hb); replace HK := am (KeepBut.trans (Q6 HK GW101 GW118) (KeepBut.of_below hb g none) (.inl rfl)); replace HB := am (below_step (Q5 HB HI0) hb); replace HI0 := am (IsS96.below (Q4 HI0 NB0_101 NB0_118) hb); (try clear hb); (try clear hb2); (try clear hk); (try clear hi); (try clear ho0); obtain ⟨Ao99, co99, eo99⟩ := Kd.R_slice HO178.out; subst eo99; have hcz100_0 : w98.cell? ⟨gb118, 0, none⟩ = some (.int .i64 t114) := (blk_cell BK118.out 0).trans rfl; have hcz100_1 : w98.cell? ⟨gb118, 1, none⟩ = some (.slice Ao97 x119001_4.length co97) := (blk_cell BK118.out 1).trans rfl; have hfz100_0 := blk_frozen BK118.out 0; have hfz100_1 := blk_frozen BK118.out 1))
               go_roundg k4
               case measure => have := HJ9.out; have := HJ13.out; have := HK3.out; have := HK4.out; omega
               case rel => exact ⟨(wrap64 (x10_4 + 1)), (t174), (t175), (t176), (.slice Ao99 t176.length co99), Q13, H', ⟨Q72⟩, ⟨by (with_reducible repeat (first | apply Kd.R_alloc | apply Kd.R_drewN | apply Kd.R_drew)); exact Kd.R_mono (Kd.R_far (p := ⟨gb118, 1, none⟩) (Kd.R_types HO178.out BK118.out (by decide)) (fun _ hk => hk.2) (.slice Ao99 t176.length co99)) (fun _ hk => trivial)⟩, ⟨Q29 NB101_118 BK101⟩, ⟨by (with_reducible repeat (first | refine blk_drewN ?_ _ | refine blk_drew ?_ | refine blk_alloc ?_ _)); refine blk_put (cs := #[.int .i64 t114, .slice Ao97 x119001_4.length co97]) ?_ 1 _ rfl; (with_reducible repeat (first | refine blk_drewN ?_ _ | refine blk_drew ?_ | refine blk_alloc ?_ _)); exact BK118.out⟩, ⟨Q4 HI0 NB0_101 NB0_118⟩, ⟨Q6 HK GW101 GW118⟩, ⟨Q17 HB HI0 GE118⟩⟩
              ·rw [if_neg c92] at H
               have c92b0 := beq_eq_false_iff_ne.mpr c92; have c92b1 := bne_iff_ne.mpr c92
               (first | rw [c92b0] | (simp only [i64_w, i32_w]; rw [c92b0]) | rw [c92b1] | skip)
               have H' := Aside0.mk H; clear H
               go_wp2
               go_roundg k4
               case measure => have := HJ9.out; have := HJ13.out; have := HK3.out; have := HK4.out; omega
               case rel => exact ⟨(wrap64 (x10_4 + 1)), (t174), (t175), (x119001_4), (u119001), Q13, H', ⟨Q72⟩, ⟨Q37⟩, ⟨Q1 BK101⟩, ⟨Q1 BK118⟩, ⟨Q4 HI0 NB0_101 NB0_118⟩, ⟨Q6 HK GW101 GW118⟩, ⟨Q5 HB HI0⟩⟩
             ·rw [if_neg c88] at H
              have c88b0 := decide_eq_false c88; clear c88; replace H := (ob H); obtain ⟨t179, A1010, H⟩ := H; (try dsimp only at H); have A101 := Aside0.mk A1010; clear A1010; replace H := (ob H); obtain ⟨⟨t180, t181, t182⟩, A1020, H⟩ := H; (try dsimp only at H); have A102 := Aside0.mk A1020; clear A1020; have HU103 := Aside0.mk H; clear H
              go_upto_region 17 with (first | ((with_reducible refine gate_callee (f := 187) rfl ?_); refine goesL_ (some 62) rfl rfl Try.func187 (by kernel_rfl) rfl #[.int .i64 x9_3, .int .i64 1] rfl Q3 ?_; (with_reducible refine (spec_l1Most.calls x9_3 1 t179 _ A101.out).mono ?_); rintro e w' ⟨rfl, ⟨nd, rfl⟩⟩; refine ⟨_, rfl, ?_⟩) | ((with_reducible refine gate_callee (f := 141) rfl ?_); refine goesL_ (some 63) rfl rfl Try.func141 (by kernel_rfl) rfl #[.pointer (some ⟨g, 0, none⟩), .int .i64 t179] rfl Q3 ?_; (with_reducible refine (spec_l1Cur_pick.calls g s0_0 x1001_4 x1002_4 t179 t180 t181 t182 w0 _ ?side1 ?side2 A102.out).mono ?_); (case side1 => exact (Q4 HI0 NB0_101 NB0_118)); (case side2 => exact (Q5 HB HI0)); rintro e w104 ⟨rfl, hi, hb, hk⟩; refine ⟨_, rfl, ?_⟩; replace HO_119001 := am (Kd.R_mono (Kd.R_keep (IsS96.apart (show IsS96 w0 _ g s0_0 x1001_4 x1002_4 from Q4 HI0 NB0_101 NB0_118) Q37 (by decide)) hk (fun _ h => h.2)) (fun _ h => h.1)); replace BK101 := am (KeepBut.blk hk (g' := gb101) (o := .cells #[.int .i64 0, .slice none 0 0] 30 (0, 0)) (Q1 BK101) NB101_0.out (by simp)); replace BK118 := am (KeepBut.blk hk (g' := gb118) (o := .cells #[.int .i64 t114, u119001] 30 (0, 0)) (Q1 BK118) NB118_0.out (by simp)); replace HK := am (KeepBut.trans (Q6 HK GW101 GW118) hk (.inl rfl)); replace HB := am (hb); replace HI0 := am (hi); (try clear hb); (try clear hb2); (try clear hk); (try clear hi)))
              (try simp only [Act.put, List.setIfInBounds_toArray, List.set_cons_zero, List.set_cons_succ]); have H := HU103.out; clear HU103
              by_cases c105 : x9_3 > 0
              ·rw [if_pos c105] at H
               have c105b0 : decide (0 < x9_3) = true := decide_eq_true c105; clear c105
               by_cases c106 : t164 = true
               ·subst c106
                have H1 : (spec_l1Cur_someGraph.l0 k4 t114 t161 true (wrap64 (x9_3 + 1)) s0_0 t181 t182 t114 x119001_4) = some (r1, r2, r3, r4) := by rw [if_pos rfl] at H; exact H
                clear H; have H := H1; clear H1; have H' := Aside0.mk H; clear H
                go_wp2
                go_roundg k4
                case measure => have := HJ9.out; have := HJ13.out; have := HK3.out; have := HK4.out; omega
                case rel => exact ⟨(wrap64 (x9_3 + 1)), (t181), (t182), (x119001_4), (u119001), Q13, H', ⟨Q72⟩, ⟨Q37⟩, ⟨Q1 BK101⟩, ⟨Q1 BK118⟩, ⟨Q4 HI0 NB0_101 NB0_118⟩, ⟨Q6 HK GW101 GW118⟩, ⟨Q5 HB HI0⟩⟩
               ·replace c106 := Bool.eq_false_iff.mpr c106
                subst c106; have H1 : ((spec_l2Near.f k4 t114 x119001_4 x9_3 t180).bind fun t183 => (if t183 = true then (spec_l1Cur_someGraph.l0 k4 t114 t161 false (wrap64 (x9_3 + 1)) s0_0 t181 t182 t114 x119001_4) else ((spec_l2Put.f k4 x119001_4 t180 x9_3).bind fun t184 => (spec_l1Cur_someGraph.l0 k4 t114 t161 false (wrap64 (x9_3 + 1)) s0_0 t181 t182 t114 t184)))) = some (r1, r2, r3, r4) := by rw [if_neg (show ¬ (false = true) by decide)] at H; exact H
                clear H; have H := H1; clear H1; replace H := (ob H); obtain ⟨t183, A1070, H⟩ := H; (try dsimp only at H); have A107 := Aside0.mk A1070; clear A1070; have HU108 := Aside0.mk H; clear H; have hnb109 := NB118_101.out; have hnc109 := NB101_118.out; have hnb110 := NB118_0.out; have hnc110 := NB0_118.out; have hcz111_0 : w104.cell? ⟨gb118, 0, none⟩ = some (.int .i64 t114) := (blk_cell BK118.out 0).trans rfl; have hcz111_1 : w104.cell? ⟨gb118, 1, none⟩ = some (u119001) := (blk_cell BK118.out 1).trans rfl; have hfz111_0 := blk_frozen BK118.out 0; have hfz111_1 := blk_frozen BK118.out 1; obtain ⟨Ao112, co112, eo112⟩ := Kd.R_slice HO_119001.out; subst eo112
                go_upto_if 76 with (first | (go_at_call 137; (with_reducible refine (spec_l2Near.calls k4 t114 _ _ x119001_4 x9_3 t180 t183 _ ?side1 ?side2 A107.out).mono ?_); (case side1 => exact Q73); (case side2 => exact (Kd.R_reads' HO_119001.out).2.1); rintro e w113 ⟨rfl, hb⟩; replace HO_119001 := am (Kd.R_below Q37 hb); replace BK101 := am (blk_below (g := gb101) (o := .cells #[.int .i64 0, .slice none 0 0] 30 (0, 0)) (Q1 BK101) hb); replace BK118 := am (blk_below (g := gb118) (o := .cells #[.int .i64 t114, .slice Ao112 x119001_4.length co112] 30 (0, 0)) (Q1 BK118) hb); replace HK := am (KeepBut.trans (Q6 HK GW101 GW118) (KeepBut.of_below hb g none) (.inl rfl)); replace HB := am (below_step (Q5 HB HI0) hb); replace HI0 := am (IsS96.below (Q4 HI0 NB0_101 NB0_118) hb); (try clear hb); (try clear hb2); (try clear hk); (try clear hi)))
                (try simp only [Act.put, List.setIfInBounds_toArray, List.set_cons_zero, List.set_cons_succ]); have H := HU108.out; clear HU108
                by_cases c114 : t183 = true
                ·subst c114
                 have H1 : (spec_l1Cur_someGraph.l0 k4 t114 t161 false (wrap64 (x9_3 + 1)) s0_0 t181 t182 t114 x119001_4) = some (r1, r2, r3, r4) := by rw [if_pos rfl] at H; exact H
                 clear H; have H := H1; clear H1; have H' := Aside0.mk H; clear H
                 go_wp2
                 go_roundg k4
                 case measure => have := HJ9.out; have := HJ13.out; have := HK3.out; have := HK4.out; omega
                 case rel => exact ⟨(wrap64 (x9_3 + 1)), (t181), (t182), (x119001_4), (.slice Ao112 x119001_4.length co112), Q13, H', ⟨Q72⟩, ⟨Q37⟩, ⟨Q1 BK101⟩, ⟨Q1 BK118⟩, ⟨Q4 HI0 NB0_101 NB0_118⟩, ⟨Q6 HK GW101 GW118⟩, ⟨Q5 HB HI0⟩⟩
                ·replace c114 := Bool.eq_false_iff.mpr c114
                 subst c114; have H1 : ((spec_l2Put.f k4 x119001_4 t180 x9_3).bind fun t184 => (spec_l1Cur_someGraph.l0 k4 t114 t161 false (wrap64 (x9_3 + 1)) s0_0 t181 t182 t114 t184)) = some (r1, r2, r3, r4) := by rw [if_neg (show ¬ (false = true) by decide)] at H; exact H
                 clear H; have H := H1; clear H1; replace H := (ob H); obtain ⟨t184, A1150, H⟩ := H; (try dsimp only at H); have A115 := Aside0.mk A1150; clear A1150; have H' := Aside0.mk H; clear H; have hnb116 := NB118_101.out; have hnc116 := NB101_118.out; have hnb117 := NB118_0.out; have hnc117 := NB0_118.out; have hcz118_0 : w113.cell? ⟨gb118, 0, none⟩ = some (.int .i64 t114) := (blk_cell BK118.out 0).trans rfl; have hcz118_1 : w113.cell? ⟨gb118, 1, none⟩ = some (.slice Ao112 x119001_4.length co112) := (blk_cell BK118.out 1).trans rfl; have hfz118_0 := blk_frozen BK118.out 0; have hfz118_1 := blk_frozen BK118.out 1
                 go_wp2_with (first | ((with_reducible refine gate_callee (f := 184) rfl ?_); refine goesL_ (some 82) rfl rfl Try.func184 (by kernel_rfl) rfl #[.slice Ao112 x119001_4.length co112, .agg #[.int .i64 t180, .int .i64 x9_3]] rfl Q3 ?_; (with_reducible refine (spec_l2Put.calls k4 _ _ x119001_4 t180 x9_3 t184 _ ?side1 ?side2 A115.out).mono ?_); (case side1 => exact Q73); (case side2 => exact (Kd.R_reads' HO_119001.out).2.1); rintro e w119 ⟨v185, rfl, ho0, hb⟩; refine ⟨_, rfl, ?_⟩; have HO186 := am (Kd.R_lower (Kd.R_new' ho0 (Kd.R_lt Q37)) (keep_size (w := w) (g := g) (row := none) (Q6 HK GW101 GW118))); replace HO_119001 := am (Kd.R_elder' Q37 (Kd.R_base ho0) hb); replace BK101 := am (blk_below (g := gb101) (o := .cells #[.int .i64 0, .slice none 0 0] 30 (0, 0)) (Q1 BK101) hb); replace BK118 := am (blk_below (g := gb118) (o := .cells #[.int .i64 t114, .slice Ao112 x119001_4.length co112] 30 (0, 0)) (Q1 BK118) hb); replace HK := am (KeepBut.trans (Q6 HK GW101 GW118) (KeepBut.of_below hb g none) (.inl rfl)); replace HB := am (below_step (Q5 HB HI0) hb); replace HI0 := am (IsS96.below (Q4 HI0 NB0_101 NB0_118) hb); (try clear hb); (try clear hb2); (try clear hk); (try clear hi); (try clear ho0); obtain ⟨Ao120, co120, eo120⟩ := Kd.R_slice HO186.out; subst eo120; have hcz121_0 : w119.cell? ⟨gb118, 0, none⟩ = some (.int .i64 t114) := (blk_cell BK118.out 0).trans rfl; have hcz121_1 : w119.cell? ⟨gb118, 1, none⟩ = some (.slice Ao112 x119001_4.length co112) := (blk_cell BK118.out 1).trans rfl; have hfz121_0 := blk_frozen BK118.out 0; have hfz121_1 := blk_frozen BK118.out 1))
                 go_roundg k4
                 case measure => have := HJ9.out; have := HJ13.out; have := HK3.out; have := HK4.out; omega
                 case rel => exact ⟨(wrap64 (x9_3 + 1)), (t181), (t182), (t184), (.slice Ao120 t184.length co120), Q13, H', ⟨Q72⟩, ⟨by (with_reducible repeat (first | apply Kd.R_alloc | apply Kd.R_drewN | apply Kd.R_drew)); exact Kd.R_mono (Kd.R_far (p := ⟨gb118, 1, none⟩) (Kd.R_types HO186.out BK118.out (by decide)) (fun _ hk => hk.2) (.slice Ao120 t184.length co120)) (fun _ hk => trivial)⟩, ⟨Q29 NB101_118 BK101⟩, ⟨by (with_reducible repeat (first | refine blk_drewN ?_ _ | refine blk_drew ?_ | refine blk_alloc ?_ _)); refine blk_put (cs := #[.int .i64 t114, .slice Ao112 x119001_4.length co112]) ?_ 1 _ rfl; (with_reducible repeat (first | refine blk_drewN ?_ _ | refine blk_drew ?_ | refine blk_alloc ?_ _)); exact BK118.out⟩, ⟨Q4 HI0 NB0_101 NB0_118⟩, ⟨Q6 HK GW101 GW118⟩, ⟨Q17 HB HI0 GE118⟩⟩
              ·rw [if_neg c105] at H
               have c105b0 : decide (0 < x9_3) = false := decide_eq_false c105; clear c105; have H' := Aside0.mk H; clear H
               go_wp2
               go_roundg k4
               case measure => have := HJ9.out; have := HJ13.out; have := HK3.out; have := HK4.out; omega
               case rel => exact ⟨(wrap64 (x9_3 + 1)), (t181), (t182), (x119001_4), (u119001), Q13, H', ⟨Q72⟩, ⟨Q37⟩, ⟨Q1 BK101⟩, ⟨Q1 BK118⟩, ⟨Q4 HI0 NB0_101 NB0_118⟩, ⟨Q6 HK GW101 GW118⟩, ⟨Q5 HB HI0⟩⟩
          ·rw [if_neg c87] at H
           have c87b0 := decide_eq_false c87; clear c87; replace H := (ob H); obtain ⟨⟨t167, t168, t171, t172⟩, A1220, H⟩ := H; (try dsimp only at H); have A122 := Aside0.mk A1220; clear A1220
           simp only [Option.some.injEq, Prod.mk.injEq] at H
           obtain ⟨rfl, rfl, rfl, rfl⟩ := H; have hnb123 := NB118_101.out; have hnc123 := NB101_118.out; have hnb124 := NB118_0.out; have hnc124 := NB0_118.out; have hcz125_0 : wr.cell? ⟨gb118, 0, none⟩ = some (.int .i64 t114) := (blk_cell BK118.out 0).trans rfl; have hcz125_1 : wr.cell? ⟨gb118, 1, none⟩ = some (u119001) := (blk_cell BK118.out 1).trans rfl; have hfz125_0 := blk_frozen BK118.out 0; have hfz125_1 := blk_frozen BK118.out 1; obtain ⟨Ao126, co126, eo126⟩ := Kd.R_slice HO_119001.out; subst eo126
           go_wp2_with (first | ((with_reducible refine gate_callee (f := 188) rfl ?_); refine goesL_ (some 100) rfl rfl Try.func188 (by kernel_rfl) rfl #[.pointer (some ⟨g, 0, none⟩), .agg #[.int .i64 t114, .slice Ao126 x119001_3.length co126]] rfl Q3 ?_; (with_reducible refine (spec_l1Cur_marred.calls g s0_0 x1001_3 x1002_3 t114 (fun k_ => some k_ = (.slice Ao126 x119001_3.length co126 : Value).ownBlock) (.slice Ao126 x119001_3.length co126) x119001_3 t167 t168 t171 t172 w0 _ ?side1 ?side2 ?side3 A122.out).mono ?_); (case side1 => exact (Q4 HI0 NB0_101 NB0_118)); (case side2 => exact (Q5 HB HI0)); (case side3 => exact Kd.R_lower (Kd.R_tight rfl HO_119001.out) HL.out); rintro e w127 ⟨v169, rfl, ho0, hi, hb, hkp⟩; refine ⟨_, rfl, ?_⟩; replace BK101 := am (blk_kept (Q31 BK101) hkp (fun hs_ => Or.elim hs_ (fun hs_ => (fun e_ => (Kd.R_ne HO_119001.out BK101.out (by decide)) e_) hs_) (fun e_ => NB101_0.out e_))); replace BK118 := am (blk_kept (Q31 BK118) hkp (fun hs_ => Or.elim hs_ (fun hs_ => (fun e_ => (Kd.R_ne HO_119001.out BK118.out (by decide)) e_) hs_) (fun e_ => NB118_0.out e_))); replace HI0 := am (hi); have HO170 := am (Kd.R_mono (ok' := fun k_ => True) (Kd.R_raise (d := k71) (b := w0.heap.size) (b' := w.heap.size) (fun _ _ _ _ h_ => h_) ho0 (fun k_ e_ => Or.elim (ho0.1 k_ e_) (fun hs_ => (fun e_ => Kd.R_base HO_119001.out k_ e_.symm) hs_) (fun hn_ => Nat.le_trans (keep_size (w := w) (g := g) (row := none) (Q6 HK GW101 GW118)) hn_))) (fun k_ hk_ => trivial)); replace HK := am (Kept.keepG (Q6 HK GW101 GW118) hkp (fun k_ hs_ => Or.elim hs_ (fun hs_ => (fun e_ => .inr (Kd.R_base HO_119001.out k_ e_.symm)) hs_) (fun e_ => .inl e_))); replace HB := am (hb); clear HO_119001; (try clear hb); (try clear hkp); (try clear ho0); have hnb128 := NB101_0.out; have hnc128 := NB0_101.out; have hcz129_0 : w127.cell? ⟨gb101, 0, none⟩ = some (.int .i64 0) := (blk_cell BK101.out 0).trans rfl; have hcz129_1 : w127.cell? ⟨gb101, 1, none⟩ = some (.slice none 0 0) := (blk_cell BK101.out 1).trans rfl; have hfz129_0 := blk_frozen BK101.out 0; have hfz129_1 := blk_frozen BK101.out 1; obtain ⟨Ao130, co130, eo130⟩ := Kd.R_slice HO170.out; subst eo130))
           refine bodyPost_ret (results_cell_row rfl _ _ gb101 30 #[.int .i64 t167, .slice Ao130 t168.length co130] (0, 0) _ rfl (by (with_reducible repeat (first | refine blk_drewN ?_ _ | refine blk_drew ?_ | refine blk_alloc ?_ _)); refine blk_put (cs := #[.int .i64 t167, .slice none 0 0]) ?_ 1 _ rfl; (with_reducible repeat (first | refine blk_drewN ?_ _ | refine blk_drew ?_ | refine blk_alloc ?_ _)); refine blk_put (cs := #[.int .i64 0, .slice none 0 0]) ?_ 0 _ rfl; (with_reducible repeat (first | refine blk_drewN ?_ _ | refine blk_drew ?_ | refine blk_alloc ?_ _)); exact BK101.out) Try.underlying30 rfl (by kernel_rfl)) rfl ?_; exact ⟨_, Q11, by (with_reducible repeat (first | apply Kd.R_alloc | apply Kd.R_drewN | apply Kd.R_drew)); exact Kd.R_mono (Kd.R_far (p := ⟨gb101, 1, none⟩) (Kd.R_far (p := ⟨gb101, 0, none⟩) (Kd.R_types HO170.out BK101.out (by decide)) (fun _ hk => hk.2) (.int .i64 t167)) (fun _ hk => hk.2) (.slice Ao130 t168.length co130)) (fun _ hk => trivial), Q4 HI0 NB0_101 NB0_118, Q17 HB HI0 GE101, Q6 HK GW101 GW118⟩
/-! ### spec_l1Cur_graph: function 168 -/
def spec_l1Cur_graph.f (k : Nat) (s0_0 : List Int) (s0_1 : Int) (s0_2 : Int) : Option (Int × (List (S71)) × Int × Int) := (spec_l1Cur_someGraph.f k s0_0 s0_1 s0_2 6).bind fun bt102 => (some (bt102.1, bt102.2.1, bt102.2.2.1, bt102.2.2.2))
theorem spec_l1Cur_graph.mono : ∀ a0 a1 a2 k, LeO (spec_l1Cur_graph.f k a0 a1 a2) (spec_l1Cur_graph.f (k + 1) a0 a1 a2) := by
 intro a0 a1 a2 k
 unfold spec_l1Cur_graph.f
 repeat' first | (with_reducible first | exact spec_l1Cur_someGraph.mono _ _ _ _ _ | exact LeO.refl _ | exact LeO.none _ | refine LeO.ite ?_ ?_ | refine LeO.bind ?_ (fun _ => ?_))
set_option maxHeartbeats 8000000 in
set_option maxRecDepth 100000 in
theorem spec_l1Cur_graph.calls (k : Nat) (g : Nat) (s0_0 : List Int) (s0_1 : Int) (s0_2 : Int) (r1 : Int) (r2 : List (S71)) (r3 : Int) (r4 : Int) (w0 w : World) (hI : IsS96 w0 w g s0_0 s0_1 s0_2) (hB : Below w0.heap.size w0 w) (h : spec_l1Cur_graph.f k s0_0 s0_1 s0_2 = some (r1, r2, r3, r4)) :
  Calls Try.prog 168 #[.pointer (some ⟨g, 0, none⟩)] w fun e w' => ∃ v1_ : Value, e = .returned (.agg #[.int .i64 r1, v1_]) ∧ Kd.R k71 71 w' w.heap.size (fun _ => True) v1_ r2 ∧ IsS96 w0 w' g s0_0 r3 r4 ∧ Below w0.heap.size w0 w' ∧ KeepBut w w' g none := by
 have hu30 := Try.underlying30
 have HI0 := Aside0.mk hI
 have HK := am (KeepBut.refl w g none)
 have HL := Aside0.mk hB.size
 clear hI
 have HW0 := Aside0.mk hB.size
 have HB := Aside0.mk hB
 clear hB
 have H : ((spec_l1Cur_someGraph.f k s0_0 s0_1 s0_2 6).bind fun bt102 => (some (bt102.1, bt102.2.1, bt102.2.2.1, bt102.2.2.2))) = some (r1, r2, r3, r4) := h
 clear h
 replace H := (ob H)
 obtain ⟨⟨t102, t103, t106, t107⟩, A20, H⟩ := H
 (try dsimp only at H)
 have A2 := Aside0.mk A20
 clear A20
 simp only [Option.some.injEq, Prod.mk.injEq] at H
 obtain ⟨rfl, rfl, rfl, rfl⟩ := H
 go_enter Try.func168, Try.ntmps168
 go_wp2_with (first | ((with_reducible refine gate_dst (N := 2) rfl ?_); refine box_event ?hg (N := 2) ?hd (cs := #[.int .i64 0, .slice none 0 0]) (t := 30) ?hr ?_; (case hd => rfl); (case hg => rfl); (case hr => first | (go_simp; done) | (go_simp; rfl)); intro gb101 hg w3 hbox hb; replace HB := am (below_step (Q5 HB HI0) hb); have BK101 := am (hbox); have GW101 := am ((Q51 : w.heap.size ≤ gb101)); have GE101 := am ((Nat.le_trans HW0.out (Q51 : w.heap.size ≤ gb101) : w0.heap.size ≤ gb101)); replace HK := am (KeepBut.trans (Q18 HK) (KeepBut.of_below hb g none) (.inl rfl)); have NB0_101 := am ((Q60 : g ≠ gb101)); have NB101_0 := am ((Q61 : gb101 ≠ g)); replace HI0 := am (IsS96.below (Q15 HI0) hb); clear hb hbox hg) | ((with_reducible refine gate_callee (f := 118) rfl ?_); refine goesL_ (some 4) rfl rfl Try.func118 (by kernel_rfl) rfl #[.pointer (some ⟨g, 0, none⟩), .int .i64 6] rfl Q3 ?_; (with_reducible refine (spec_l1Cur_someGraph.calls k g s0_0 s0_1 s0_2 6 t102 t103 t106 t107 w0 _ ?side1 ?side2 A2.out).mono ?_); (case side1 => exact (Q8 HI0 NB0_101)); (case side2 => exact (Q5 HB HI0)); rintro e w4 ⟨v104, rfl, ho0, hi, hb, hk⟩; refine ⟨_, rfl, ?_⟩; replace BK101 := am (KeepBut.blk hk (g' := gb101) (o := .cells #[.int .i64 0, .slice none 0 0] 30 (0, 0)) (Q1 BK101) NB101_0.out (by simp)); have HO105 := am (Kd.R_lower ho0 (keep_size (w := w) (g := g) (row := none) (Q9 HK GW101))); replace HK := am (KeepBut.trans (Q9 HK GW101) hk (.inl rfl)); replace HB := am (hb); replace HI0 := am (hi); (try clear hb); (try clear hb2); (try clear hk); (try clear hi); (try clear ho0); have hnb5 := NB101_0.out; have hnc5 := NB0_101.out; have hcz6_0 : w4.cell? ⟨gb101, 0, none⟩ = some (.int .i64 0) := (blk_cell BK101.out 0).trans rfl; have hcz6_1 : w4.cell? ⟨gb101, 1, none⟩ = some (.slice none 0 0) := (blk_cell BK101.out 1).trans rfl; have hfz6_0 := blk_frozen BK101.out 0; have hfz6_1 := blk_frozen BK101.out 1; obtain ⟨Ao7, co7, eo7⟩ := Kd.R_slice HO105.out; subst eo7))
 refine bodyPost_ret (results_cell_row rfl _ _ gb101 30 #[.int .i64 t102, .slice Ao7 t103.length co7] (0, 0) _ rfl (Q27 BK101) Try.underlying30 rfl (by kernel_rfl)) rfl ?_
 exact ⟨_, Q11, by (with_reducible repeat (first | apply Kd.R_alloc | apply Kd.R_drewN | apply Kd.R_drew)); exact Kd.R_mono (Kd.R_far (p := ⟨gb101, 1, none⟩) (Kd.R_far (p := ⟨gb101, 0, none⟩) (Kd.R_types HO105.out BK101.out (by decide)) (fun _ hk => hk.2) (.int .i64 t102)) (fun _ hk => hk.2) (.slice Ao7 t103.length co7)) (fun _ hk => trivial), Q8 HI0 NB0_101, Q17 HB HI0 GE101, Q9 HK GW101⟩
/-! ### spec_l1Cur_tame: function 196 -/
mutual
def spec_l1Cur_tame.l0 : Nat → Int → List Int → Int → Int → Int → List (S71) → Option (Int × (List (S71)) × Int × Int)
 | 0, _, _, _, _, _, _ => none
 | k + 1, x6, x1000, x1001, x1002, x109000, x109001 => if x6 < x109000 then ((spec_l1Cur_pick.f x1000 x1001 x1002 x6).bind fun bt109 => ((spec_l2Ball.f k x109000 x109001 bt109.1).bind fun t112 => (spec_l1Cur_tame.l1 k x6 bt109.1 t112 0 x1000 bt109.2.1 bt109.2.2 x109000 x109001))) else ((spec_l1Cur_one.f x1000 x1001 x1002 6).bind fun bt128 => (if bt128.1 = true then ((spec_l1Cur_marred.f x1000 bt128.2.1 bt128.2.2 x109000 x109001).bind fun bt131 => (some (bt131.1, bt131.2.1, bt131.2.2.1, bt131.2.2.2))) else (some (x109000, x109001, bt128.2.1, bt128.2.2))))
def spec_l1Cur_tame.l1 : Nat → Int → Int → List Int → Int → List Int → Int → Int → Int → List (S71) → Option (Int × (List (S71)) × Int × Int)
 | 0, _, _, _, _, _, _, _, _, _ => none
 | k + 1, x6, x7, x8, x9, x1000, x1001, x1002, x109000, x109001 => if x9 < (x8.length : Int) then (if 0 ≤ x9 then (if (rd x8 x9) < x6 then (if (rd x8 x9) = x7 then ((spec_l2Put.f k x109001 (rd x8 x9) x6).bind fun t118 => (spec_l1Cur_tame.l1 k x6 x7 x8 (wrap64 (x9 + 1)) x1000 x1001 x1002 x109000 t118)) else ((spec_l1Cur_one.f x1000 x1001 x1002 2).bind fun bt121 => (if bt121.1 = true then ((spec_l2Put.f k x109001 (rd x8 x9) x6).bind fun t125 => (spec_l1Cur_tame.l1 k x6 x7 x8 (wrap64 (x9 + 1)) x1000 bt121.2.1 bt121.2.2 x109000 t125)) else (spec_l1Cur_tame.l1 k x6 x7 x8 (wrap64 (x9 + 1)) x1000 bt121.2.1 bt121.2.2 x109000 x109001)))) else (spec_l1Cur_tame.l1 k x6 x7 x8 (wrap64 (x9 + 1)) x1000 x1001 x1002 x109000 x109001)) else (none)) else (spec_l1Cur_tame.l0 k (wrap64 (x6 + 1)) x1000 x1001 x1002 x109000 x109001)
end
def spec_l1Cur_tame.f (k : Nat) (s0_0 : List Int) (s0_1 : Int) (s0_2 : Int) (a1 : Int) : Option (Int × (List (S71)) × Int × Int) := (spec_l1Cur_pick.f s0_0 s0_1 s0_2 a1).bind fun bt102 => (spec_l1Cur_tame.l0 k 1 s0_0 bt102.2.1 bt102.2.2 (wrap64 (1 + bt102.1)) (([] : List (S71))))
theorem spec_l1Cur_tame.mono_l : ∀ k, (∀ y0 y1 y2 y3 y4 y5, LeO (spec_l1Cur_tame.l0 k y0 y1 y2 y3 y4 y5) (spec_l1Cur_tame.l0 (k + 1) y0 y1 y2 y3 y4 y5)) ∧ (∀ y0 y1 y2 y3 y4 y5 y6 y7 y8, LeO (spec_l1Cur_tame.l1 k y0 y1 y2 y3 y4 y5 y6 y7 y8) (spec_l1Cur_tame.l1 (k + 1) y0 y1 y2 y3 y4 y5 y6 y7 y8))
 | 0 => ⟨fun _ _ _ _ _ _ r h => by simp [spec_l1Cur_tame.l0] at h, fun _ _ _ _ _ _ _ _ _ r h => by simp [spec_l1Cur_tame.l1] at h⟩
 | k + 1 => by
  obtain ⟨ih0, ih1⟩ := spec_l1Cur_tame.mono_l k; refine ⟨?_, ?_⟩
  all_goals
   intros
   first | unfold spec_l1Cur_tame.l0 | unfold spec_l1Cur_tame.l1
   repeat' first | (with_reducible first | exact ih0 _ _ _ _ _ _ | exact ih1 _ _ _ _ _ _ _ _ _ | exact spec_l2Ball.mono _ _ _ _ | exact spec_l2Put.mono _ _ _ _ | exact LeO.refl _ | exact LeO.none _ | refine LeO.ite ?_ ?_ | refine LeO.bind ?_ (fun _ => ?_))
theorem spec_l1Cur_tame.mono : ∀ a0 a1 a2 a3 k, LeO (spec_l1Cur_tame.f k a0 a1 a2 a3) (spec_l1Cur_tame.f (k + 1) a0 a1 a2 a3) := by
 intro a0 a1 a2 a3 k
 obtain ⟨ih0, ih1⟩ := spec_l1Cur_tame.mono_l k
 unfold spec_l1Cur_tame.f
 repeat' first | (with_reducible first | exact ih0 _ _ _ _ _ _ | exact ih1 _ _ _ _ _ _ _ _ _ | exact spec_l2Ball.mono _ _ _ _ | exact spec_l2Put.mono _ _ _ _ | exact LeO.refl _ | exact LeO.none _ | refine LeO.ite ?_ ?_ | refine LeO.bind ?_ (fun _ => ?_))
def spec_l1Cur_tame.T11 : Bool × List (List Nat × List Nat) := (true, [([], []), ([0], [0]), ([], []), ([], []), ([2, 3], [2, 3]), ([4], [4]), ([], []), ([5, 6], [5, 6]), ([1, 7], [1, 7]), ([0, 1, 2, 3, 4, 5, 6, 7, 8], []), ([9, 8, 8, 0, 1, 2, 3, 4, 5, 6, 7, 8], [8, 9])])
def spec_l1Cur_tame.B11 : List Nat := [0, 1, 0, 0, 12, 28, 0, 124, 255, 511, 1023]
theorem spec_l1Cur_tame.tab11 : rtab .any (opsOf Try.f196 11) = spec_l1Cur_tame.T11 := by kernel_rfl
theorem spec_l1Cur_tame.bits11 : waitsOk spec_l1Cur_tame.T11.2 spec_l1Cur_tame.B11 = true := by kernel_rfl
set_option maxHeartbeats 8000000 in
set_option maxRecDepth 100000 in
theorem spec_l1Cur_tame.calls (k : Nat) (g : Nat) (s0_0 : List Int) (s0_1 : Int) (s0_2 : Int) (a1 : Int) (r1 : Int) (r2 : List (S71)) (r3 : Int) (r4 : Int) (w0 w : World) (hI : IsS96 w0 w g s0_0 s0_1 s0_2) (hB : Below w0.heap.size w0 w) (h : spec_l1Cur_tame.f k s0_0 s0_1 s0_2 a1 = some (r1, r2, r3, r4)) :
  Calls Try.prog 196 #[.pointer (some ⟨g, 0, none⟩), .int .i64 a1] w fun e w' => ∃ v1_ : Value, e = .returned (.agg #[.int .i64 r1, v1_]) ∧ Kd.R k71 71 w' w.heap.size (fun _ => True) v1_ r2 ∧ IsS96 w0 w' g s0_0 r3 r4 ∧ Below w0.heap.size w0 w' ∧ KeepBut w w' g none := by
 have hu30 := Try.underlying30
 have hu71 := Try.underlying71
 have HI0 := Aside0.mk hI
 have HK := am (KeepBut.refl w g none)
 have HL := Aside0.mk hB.size
 clear hI
 have HW0 := Aside0.mk hB.size
 have HB := Aside0.mk hB
 clear hB
 have H : ((spec_l1Cur_pick.f s0_0 s0_1 s0_2 a1).bind fun bt102 => (spec_l1Cur_tame.l0 k 1 s0_0 bt102.2.1 bt102.2.2 (wrap64 (1 + bt102.1)) (([] : List (S71))))) = some (r1, r2, r3, r4) := h
 clear h
 replace H := (ob H)
 obtain ⟨⟨t102, t103, t104⟩, A30, H⟩ := H
 (try dsimp only at H)
 have A3 := Aside0.mk A30
 clear A30
 obtain ⟨y105, hy105⟩ : ∃ y_ : List (S71), y_ = (([] : List (S71))) := ⟨_, rfl⟩
 replace H : (spec_l1Cur_tame.l0 k 1 s0_0 t103 t104 (wrap64 (1 + t102)) y105) = some (r1, r2, r3, r4) := RH hy105 H
 have Ny105 := Aside0.mk hy105
 clear hy105
 have H' := Aside0.mk H
 clear H
 go_enter Try.func196, Try.ntmps196
 go_wp2_with (first | ((with_reducible refine gate_dst (N := 4) rfl ?_); refine box_event ?hg (N := 4) ?hd (cs := #[.int .i64 0, .slice none 0 0]) (t := 30) ?hr ?_; (case hd => rfl); (case hg => rfl); (case hr => first | (go_simp; done) | (go_simp; rfl)); intro gb101 hg w4 hbox hb; replace HB := am (below_step (Q5 HB HI0) hb); have BK101 := am (hbox); have GW101 := am ((Q51 : w.heap.size ≤ gb101)); have GE101 := am ((Nat.le_trans HW0.out (Q51 : w.heap.size ≤ gb101) : w0.heap.size ≤ gb101)); replace HK := am (KeepBut.trans (Q18 HK) (KeepBut.of_below hb g none) (.inl rfl)); have NB0_101 := am ((Q60 : g ≠ gb101)); have NB101_0 := am ((Q61 : gb101 ≠ g)); replace HI0 := am (IsS96.below (Q15 HI0) hb); clear hb hbox hg) | ((with_reducible refine gate_callee (f := 141) rfl ?_); refine goesL_ (some 12) rfl rfl Try.func141 (by kernel_rfl) rfl #[.pointer (some ⟨g, 0, none⟩), .int .i64 a1] rfl Q3 ?_; (with_reducible refine (spec_l1Cur_pick.calls g s0_0 s0_1 s0_2 a1 t102 t103 t104 w0 _ ?side1 ?side2 A3.out).mono ?_); (case side1 => exact (Q8 HI0 NB0_101)); (case side2 => exact (Q5 HB HI0)); rintro e w5 ⟨rfl, hi, hb, hk⟩; refine ⟨_, rfl, ?_⟩; replace BK101 := am (KeepBut.blk hk (g' := gb101) (o := .cells #[.int .i64 0, .slice none 0 0] 30 (0, 0)) (Q1 BK101) NB101_0.out (by simp)); replace HK := am (KeepBut.trans (Q9 HK GW101) hk (.inl rfl)); replace HB := am (hb); replace HI0 := am (hi); (try clear hb); (try clear hb2); (try clear hk); (try clear hi)) | ((with_reducible refine gate_dst (N := 14) rfl ?_); refine Kd.R_lit k71 _ 71 ?hg (N := 14) ?hd (xs := ([] : List (S71))) (inner := []) (ok := fun _ => True) (okp := fun _ => True) ?hr ?hp (fun _ hk => hk) trivial (Below.refl _ _) (Nat.le_refl _) (by simp) ?_; (case hd => rfl); (case hg => rfl); (case hr => first | (go_simp; done) | (go_simp; rfl)); (case hp => exact (Reps.none _ _)); intro v106 w6 ho7 hb hg_ hnew_; clear hg_ hnew_; (first | rw [← Ny105.out] at ho7 | (simp only [Int.reduceToNat] at ho7; rw [← Ny105.out] at ho7)); have HO107 := am (Kd.R_lower ho7 (keep_size (w := w) (g := g) (row := none) (Q9 HK GW101))); replace BK101 := am (blk_below (g := gb101) (o := .cells #[.int .i64 0, .slice none 0 0] 30 (0, 0)) (Q1 BK101) hb); replace HK := am (KeepBut.trans (Q9 HK GW101) (KeepBut.of_below hb g none) (.inl rfl)); replace HB := am (below_step (Q5 HB HI0) hb); replace HI0 := am (IsS96.below (Q8 HI0 NB0_101) hb); clear hb ho7; obtain ⟨Ao8, co8, eo8⟩ := Kd.R_slice HO107.out; subst eo8) | ((with_reducible refine gate_dst (N := 5) rfl ?_); refine box_event ?hg (N := 5) ?hd (cs := #[.int .i64 0, .slice none 0 0]) (t := 30) ?hr ?_; (case hd => rfl); (case hg => rfl); (case hr => first | (go_simp; done) | (go_simp; rfl)); intro gb108 hg w9 hbox hb; replace HO107 := am (Kd.R_below (Q2 HO107) hb); replace HB := am (below_step (Q5 HB HI0) hb); have BK108 := am (hbox); have GW108 := am ((Q64 : w.heap.size ≤ gb108)); have GE108 := am ((Nat.le_trans HW0.out (Q64 : w.heap.size ≤ gb108) : w0.heap.size ≤ gb108)); replace HK := am (KeepBut.trans (Q9 HK GW101) (KeepBut.of_below hb g none) (.inl rfl)); have NB101_108 := am ((Q46 : gb101 ≠ gb108)); have NB108_101 := am ((Q47 : gb108 ≠ gb101)); replace BK101 := am (blk_below (g := gb101) (o := .cells #[.int .i64 0, .slice none 0 0] 30 (0, 0)) (Q1 BK101) hb); have NB0_108 := am ((by rw [hg]; exact Nat.ne_of_lt (IsS96.lt (show IsS96 w0 _ g s0_0 t103 t104 from Q8 HI0 NB0_101)) : g ≠ gb108)); have NB108_0 := am ((by rw [hg]; exact Nat.ne_of_gt (IsS96.lt (show IsS96 w0 _ g s0_0 t103 t104 from Q8 HI0 NB0_101)) : gb108 ≠ g)); replace HI0 := am (IsS96.below (Q8 HI0 NB0_101) hb); clear hb hbox hg; have hnb10 := NB108_101.out; have hnc10 := NB101_108.out; have hnb11 := NB108_0.out; have hnc11 := NB0_108.out; have hcz12_0 : w9.cell? ⟨gb108, 0, none⟩ = some (.int .i64 0) := (blk_cell BK108.out 0).trans rfl; have hcz12_1 : w9.cell? ⟨gb108, 1, none⟩ = some (.slice none 0 0) := (blk_cell BK108.out 1).trans rfl; have hfz12_0 := blk_frozen BK108.out 0; have hfz12_1 := blk_frozen BK108.out 1))
 go_loopg [6] k (fun kq v6 w' => ∃ (x6_1 : Int) (x1001_1 : Int) (x1002_1 : Int) (x109001_1 : List (S71)) (u109001 : Value), v6 = .int .i64 x6_1 ∧ Aside0 (spec_l1Cur_tame.l0 kq x6_1 s0_0 x1001_1 x1002_1 (wrap64 (1 + t102)) x109001_1 = some (r1, r2, r3, r4)) ∧ Aside0 (kq ≤ k) ∧ Aside0 (Kd.R k71 71 w' w.heap.size (fun _ => True) u109001 x109001_1) ∧ Aside0 (w'.heap[gb101]? = some (.cells #[.int .i64 0, (.slice none 0 0)] 30 (0, 0))) ∧ Aside0 (w'.heap[gb108]? = some (.cells #[.int .i64 (wrap64 (1 + t102)), u109001] 30 (0, 0))) ∧ Aside0 (IsS96 w0 w' g s0_0 x1001_1 x1002_1) ∧ Aside0 (KeepBut w w' g none) ∧ Aside0 (Below w0.heap.size w0 w'))
 case atStart => exact ⟨(1), (t103), (t104), (y105), (.slice Ao8 y105.length co8), Q13, H', ⟨Nat.le_refl _⟩, ⟨by (with_reducible repeat (first | apply Kd.R_alloc | apply Kd.R_drewN | apply Kd.R_drew)); exact Kd.R_mono (Kd.R_far (p := ⟨gb108, 1, none⟩) (Kd.R_far (p := ⟨gb108, 0, none⟩) (Kd.R_types HO107.out BK108.out (by decide)) (fun _ hk => hk.2) (.int .i64 (wrap64 (1 + t102)))) (fun _ hk => hk.2) (.slice Ao8 y105.length co8)) (fun _ hk => trivial)⟩, ⟨Q12 NB101_108 BK101⟩, ⟨Q66 BK108⟩, ⟨Q4 HI0 NB0_101 NB0_108⟩, ⟨Q6 HK GW101 GW108⟩, ⟨Q17 HB HI0 GE108⟩⟩
 case round =>
  clear H'
  try clear c1
  try clear p2
  try clear p6
  try clear c10
  try clear c11
  try clear hcz12_0
  try clear hcz12_1
  try clear hfz12_0
  try clear hfz12_1
  obtain ⟨x6_1, x1001_1, x1002_1, x109001_1, u109001, rfl, HA, HK1, HO_109001, BK101, BK108, HI0, HK, HB⟩ := hrel
  cases gk with
  | zero => exact absurd HA.out (by simp [spec_l1Cur_tame.l0])
  | succ k1 =>
   have H := HA.out; clear HA
   simp only [spec_l1Cur_tame.l0] at H
   by_cases c13 : x6_1 < (wrap64 (1 + t102))
   ·rw [if_pos c13] at H
    have c13b0 := decide_eq_true c13; clear c13; replace H := (ob H); obtain ⟨⟨t109, t110, t111⟩, A140, H⟩ := H; (try dsimp only at H); have A14 := Aside0.mk A140; clear A140; replace H := (ob H); obtain ⟨t112, A150, H⟩ := H; (try dsimp only at H); have A15 := Aside0.mk A150; clear A150; have H' := Aside0.mk H; clear H; have hnb16 := NB108_101.out; have hnc16 := NB101_108.out; have hnb17 := NB108_0.out; have hnc17 := NB0_108.out; have hcz18_0 : wr.cell? ⟨gb108, 0, none⟩ = some (.int .i64 (wrap64 (1 + t102))) := (blk_cell BK108.out 0).trans rfl; have hcz18_1 : wr.cell? ⟨gb108, 1, none⟩ = some (u109001) := (blk_cell BK108.out 1).trans rfl; have hfz18_0 := blk_frozen BK108.out 0; have hfz18_1 := blk_frozen BK108.out 1
    go_wp2_with (first | ((with_reducible refine gate_callee (f := 141) rfl ?_); refine goesL_ (some 24) rfl rfl Try.func141 (by kernel_rfl) rfl #[.pointer (some ⟨g, 0, none⟩), .int .i64 x6_1] rfl Q3 ?_; (with_reducible refine (spec_l1Cur_pick.calls g s0_0 x1001_1 x1002_1 x6_1 t109 t110 t111 w0 _ ?side1 ?side2 A14.out).mono ?_); (case side1 => exact (Q4 HI0 NB0_101 NB0_108)); (case side2 => exact (Q5 HB HI0)); rintro e w19 ⟨rfl, hi, hb, hk⟩; refine ⟨_, rfl, ?_⟩; replace HO_109001 := am (Kd.R_mono (Kd.R_keep (IsS96.apart (show IsS96 w0 _ g s0_0 x1001_1 x1002_1 from Q4 HI0 NB0_101 NB0_108) Q24 (by decide)) hk (fun _ h => h.2)) (fun _ h => h.1)); replace BK101 := am (KeepBut.blk hk (g' := gb101) (o := .cells #[.int .i64 0, .slice none 0 0] 30 (0, 0)) (Q1 BK101) NB101_0.out (by simp)); replace BK108 := am (KeepBut.blk hk (g' := gb108) (o := .cells #[.int .i64 (wrap64 (1 + t102)), u109001] 30 (0, 0)) (Q1 BK108) NB108_0.out (by simp)); replace HK := am (KeepBut.trans (Q6 HK GW101 GW108) hk (.inl rfl)); replace HB := am (hb); replace HI0 := am (hi); (try clear hb); (try clear hb2); (try clear hk); (try clear hi); have hcz20_0 : w19.cell? ⟨gb108, 0, none⟩ = some (.int .i64 (wrap64 (1 + t102))) := (blk_cell BK108.out 0).trans rfl; have hcz20_1 : w19.cell? ⟨gb108, 1, none⟩ = some (u109001) := (blk_cell BK108.out 1).trans rfl; have hfz20_0 := blk_frozen BK108.out 0; have hfz20_1 := blk_frozen BK108.out 1; obtain ⟨Ao21, co21, eo21⟩ := Kd.R_slice HO_109001.out; subst eo21) | ((with_reducible refine gate_callee (f := 170) rfl ?_); refine goesL_ (some 27) rfl rfl Try.func170 (by kernel_rfl) rfl #[.agg #[.int .i64 (wrap64 (1 + t102)), .slice Ao21 x109001_1.length co21], .int .i64 t109] rfl Q3 ?_; (with_reducible refine (spec_l2Ball.calls k1 (wrap64 (1 + t102)) _ _ x109001_1 t109 t112 _ ?side1 ?side2 A15.out).mono ?_); (case side1 => exact Q74); (case side2 => exact (Kd.R_reads' HO_109001.out).2.1); rintro e w22 ⟨v113, rfl, ho0, hb⟩; refine ⟨_, rfl, ?_⟩; replace HO_109001 := am (Kd.R_below Q24 hb); have HO114 := am (Kd.R_lower ho0 (keep_size (w := w) (g := g) (row := none) (Q6 HK GW101 GW108))); replace BK101 := am (blk_below (g := gb101) (o := .cells #[.int .i64 0, .slice none 0 0] 30 (0, 0)) (Q1 BK101) hb); replace BK108 := am (blk_below (g := gb108) (o := .cells #[.int .i64 (wrap64 (1 + t102)), .slice Ao21 x109001_1.length co21] 30 (0, 0)) (Q1 BK108) hb); replace HK := am (KeepBut.trans (Q6 HK GW101 GW108) (KeepBut.of_below hb g none) (.inl rfl)); replace HB := am (below_step (Q5 HB HI0) hb); replace HI0 := am (IsS96.below (Q4 HI0 NB0_101 NB0_108) hb); (try clear hb); (try clear hb2); (try clear hk); (try clear hi); (try clear ho0)))
    go_loopg [9] k1 (fun kq v9 w' => ∃ (x9_2 : Int) (x1001_2 : Int) (x1002_2 : Int) (x109001_2 : List (S71)) (u109001 : Value), v9 = .int .i64 x9_2 ∧ Aside0 (spec_l1Cur_tame.l1 kq x6_1 t109 t112 x9_2 s0_0 x1001_2 x1002_2 (wrap64 (1 + t102)) x109001_2 = some (r1, r2, r3, r4)) ∧ Aside0 (kq ≤ k1) ∧ Aside0 (Kd.R (Kd.int .i64) 3 w' w.heap.size (fun _ => True) v113 t112) ∧ Aside0 (Kd.R k71 71 w' w.heap.size (fun _ => True) u109001 x109001_2) ∧ Aside0 (w'.heap[gb101]? = some (.cells #[.int .i64 0, (.slice none 0 0)] 30 (0, 0))) ∧ Aside0 (w'.heap[gb108]? = some (.cells #[.int .i64 (wrap64 (1 + t102)), u109001] 30 (0, 0))) ∧ Aside0 (IsS96 w0 w' g s0_0 x1001_2 x1002_2) ∧ Aside0 (KeepBut w w' g none) ∧ Aside0 (Below w0.heap.size w0 w'))
    case atStart => exact ⟨(0), (t110), (t111), (x109001_1), (.slice Ao21 x109001_1.length co21), Q13, H', ⟨Nat.le_refl _⟩, ⟨Q2 HO114⟩, ⟨Q24⟩, ⟨Q1 BK101⟩, ⟨Q1 BK108⟩, ⟨Q4 HI0 NB0_101 NB0_108⟩, ⟨Q6 HK GW101 GW108⟩, ⟨Q5 HB HI0⟩⟩
    case round =>
     clear H'
     try clear c1
     try clear p2
     try clear p6
     try clear c10
     try clear c11
     try clear c13
     try clear c13b0
     try clear c14
     try clear c16
     try clear c17
     try clear c19
     try clear hcz12_0
     try clear hcz12_1
     try clear hcz18_0
     try clear hcz18_1
     try clear hcz20_0
     try clear hcz20_1
     try clear hfz12_0
     try clear hfz12_1
     try clear hfz18_0
     try clear hfz18_1
     try clear hfz20_0
     try clear hfz20_1
     try clear p2
     try clear p6
     obtain ⟨x9_2, x1001_2, x1002_2, x109001_2, u109001, rfl, HA, HK2, HO_8, HO_109001, BK101, BK108, HI0, HK, HB⟩ := hrel
     cases gk with
     | zero => exact absurd HA.out (by simp [spec_l1Cur_tame.l1])
     | succ k2 =>
      have H := HA.out; clear HA
      simp only [spec_l1Cur_tame.l1] at H
      by_cases c23 : x9_2 < (t112.length : Int)
      ·rw [if_pos c23] at H
       have c23b0 := decide_eq_true c23; clear c23
       by_cases c24 : 0 ≤ x9_2
       ·rw [if_pos c24] at H
        have c24b0 := decide_eq_true c24; clear c24
        by_cases c25 : (rd t112 x9_2) < x6_1
        ·rw [if_pos c25] at H
         have c25b0 := decide_eq_true c25; clear c25
         by_cases c26 : (rd t112 x9_2) = t109
         ·rw [if_pos c26] at H
          have c26b0 := beq_iff_eq.mpr c26; have c26b1 := bne_eq_false_iff_eq.mpr c26; clear c26; have HU27 := Aside0.mk H; clear H; obtain ⟨Ao28, co28, eo28⟩ := Kd.R_slice HO_8.out; subst eo28; have p115 : 0 ≤ (x9_2 : Int) := of_decide_eq_true Q10; have q115 : x9_2 < (t112.length : Int) := of_decide_eq_true Q10; obtain ⟨ad115, e115, hx115_0⟩ := Kd.at_int (Kd.R_reads' HO_8.out).2.2 x9_2 p115 q115
          cases e115
          replace p115 := eq_true p115; replace q115 := eq_true q115; have p116 : 0 ≤ (x9_2 : Int) := of_decide_eq_true Q10; have q116 : x9_2 < (t112.length : Int) := of_decide_eq_true Q10; obtain ⟨ad116, e116, hx116_0⟩ := Kd.at_int (Kd.R_reads' HO_8.out).2.2 x9_2 p116 q116; obtain rfl : ad115 = ad116 := (by injection e116); replace p116 := eq_true p116; replace q116 := eq_true q116
          go_upto_if 51 with (fail)
          have H := HU27.out; clear HU27; replace H := (ob H); obtain ⟨t118, A290, H⟩ := H; (try dsimp only at H); have A29 := Aside0.mk A290; clear A290; have H' := Aside0.mk H; clear H
          try go_wp2
          replace HO_8 := am (Kd.R_drew HO_8.out); replace HO_109001 := am (Kd.R_drew HO_109001.out); replace BK101 := am (blk_drew BK101.out); replace BK108 := am (blk_drew BK108.out); replace HI0 := am (IsS96.drew HI0.out); replace HK := am (keep_drew HK.out); replace HB := am (below_drew1 HB.out); have p117 : 0 ≤ (x9_2 : Int) := of_decide_eq_true Q10; have q117 : x9_2 < (t112.length : Int) := of_decide_eq_true Q10; obtain ⟨ad117, e117, hx117_0⟩ := Kd.at_int (Kd.R_reads' HO_8.out).2.2 x9_2 p117 q117; obtain rfl : ad115 = ad117 := (by injection e117); replace p117 := eq_true p117; replace q117 := eq_true q117; obtain ⟨Ao31, co31, eo31⟩ := Kd.R_slice HO_109001.out
          (first | subst eo31 | (injection eo31 with f1_ f2_ f3_; have f4_ := f1_.symm; have f5_ := f3_.symm; clear f1_ f2_ f3_; subst f4_; subst f5_))
          refine start_ (n := 11) (S := fun w' => w'.cell? ⟨gb108, 0, none⟩ = some (.int .i64 (wrap64 (1 + t102))) ∧ w'.cell? ⟨gb108, 1, none⟩ = some (.slice Ao31 x109001_2.length co31) ∧ w'.cell? (ad115.add (x9_2).toNat) = some (.int .i64 (rd t112 x9_2))) (ds := [10]) #[false, false, false, false, false, false, false, false, false, false, false] (by kernel_rfl) rfl rfl ⟨(blk_cell BK108.out 0).trans rfl, (blk_cell BK108.out 1).trans rfl, hx117_0⟩ (fun hHeld => ?_); refine with_tabW spec_l1Cur_tame.tab11 spec_l1Cur_tame.bits11 (fun HT_ HW_ => ?_); generalize wr.drew = w30 at HO_8 HO_109001 BK101 BK108 HI0 HK HB hx117_0 hHeld ⊢; refine pq 0 52 rfl rfl HT_ ?_; refine pq 2 54 rfl rfl HT_ ?_; refine pq 3 55 rfl rfl HT_ ?_; refine pq 4 56 rfl rfl HT_ ?_; refine pq 6 58 rfl rfl HT_ ?_; refine tq3 1 53 rfl rfl HT_ HW_ hHeld ?_; refine tq3 5 57 rfl rfl HT_ HW_ hHeld ?_; refine pq 7 59 rfl rfl HT_ ?_; refine oq 8 60 rfl rfl HT_ (fun K hK => ?_); refine goes_ Try.func184 (by kernel_rfl) rfl #[.slice Ao31 x109001_2.length co31, .agg #[.int .i64 (rd t112 x9_2), .int .i64 x6_1]] (by rfl) rfl rfl Q3 ?_
          with_reducible refine (spec_l2Put.calls k2 _ _ x109001_2 (rd t112 x9_2) x6_1 t118 _ ?side1 ?side2 A29.out).mono ?_
          (case side1 => exact Q74)
          (case side2 => exact (Kd.R_reads' HO_109001.out).2.1)
          rintro e w32 ⟨v119, rfl, ho0, hb⟩; have HS2_ := (hb.cell (World.block_lt_of_cell? _ _ (hHeld.2.2))).trans (hHeld.2.2); refine ⟨_, rfl, ?_⟩; replace HO_8 := am (Kd.R_below Q70 hb); have HO120 := am (Kd.R_lower (Kd.R_new' ho0 (Kd.R_lt Q24)) (keep_size (w := w) (g := g) (row := none) (Q6 HK GW101 GW108))); replace HO_109001 := am (Kd.R_elder' Q24 (Kd.R_base ho0) hb); replace BK101 := am (blk_below (g := gb101) (o := .cells #[.int .i64 0, .slice none 0 0] 30 (0, 0)) (Q1 BK101) hb); replace BK108 := am (blk_below (g := gb108) (o := .cells #[.int .i64 (wrap64 (1 + t102)), .slice Ao31 x109001_2.length co31] 30 (0, 0)) (Q1 BK108) hb); replace HK := am (KeepBut.trans (Q6 HK GW101 GW108) (KeepBut.of_below hb g none) (.inl rfl)); replace HB := am (below_step (Q5 HB HI0) hb); replace HI0 := am (IsS96.below (Q4 HI0 NB0_101 NB0_108) hb); (try clear hb); (try clear hb2); (try clear hk); (try clear hi); (try clear ho0); obtain ⟨Ao33, co33, eo33⟩ := Kd.R_slice HO120.out
          (first | subst eo33 | (injection eo33 with f1_ f2_ f3_; have f4_ := f1_.symm; have f5_ := f3_.symm; clear f1_ f2_ f3_; subst f4_; subst f5_))
          refine hK.out _ _ ⟨(blk_cell BK108.out 0).trans rfl, (blk_cell BK108.out 1).trans rfl, HS2_⟩ (fun hHeld => ?_); clear hK K; refine norm_ (a' := ?_) ?_ ?_
          rotate_left
          ·show Act.put _ (some 60) _ = _
           simp only [Act.put, List.setIfInBounds_toArray, List.set_cons_zero, List.set_cons_succ, i64_w, i32_w]
           rfl
          refine pq 9 61 rfl rfl HT_ ?_; refine last_ (i := 10) (N := none) #[true, true, true, true, true, true, true, true, true, true, true] rfl rfl (one_of HT_.out (by kernel_rfl)) (by decide) (fun K hK => ?_); have hs34 : w32.cell? ⟨gb108, 1, none⟩ = some (.slice Ao31 x109001_2.length co31) := (blk_cell BK108.out 1).trans rfl; have hfs34 := blk_frozen BK108.out 1; have hns34_0 := NB101_108.out; have hms34_0 := NB108_101.out; refine skip_ (w1 := ?_) (by rfl) rfl ?_ ?_
          rotate_left
          ·go_simp
           rfl
          refine hK.out _ _ ?_; clear hK K; refine done_ (done_of HT_.out (by kernel_rfl)) ?_
          try go_wp2
          go_roundg k2
          case measure => have := HK1.out; have := HK2.out; omega
          case rel => exact ⟨(wrap64 (x9_2 + 1)), (x1001_2), (x1002_2), (t118), (.slice Ao33 t118.length co33), Q13, H', ⟨Q93⟩, ⟨by (with_reducible repeat (first | apply Kd.R_alloc | apply Kd.R_drewN | apply Kd.R_drew)); exact Kd.R_mono (Kd.R_far (p := ⟨gb108, 1, none⟩) (Kd.R_types HO_8.out BK108.out (by decide)) (fun _ hk => hk.2) (.slice Ao33 t118.length co33)) (fun _ hk => trivial)⟩, ⟨by (with_reducible repeat (first | apply Kd.R_alloc | apply Kd.R_drewN | apply Kd.R_drew)); exact Kd.R_mono (Kd.R_far (p := ⟨gb108, 1, none⟩) (Kd.R_types HO120.out BK108.out (by decide)) (fun _ hk => hk.2) (.slice Ao33 t118.length co33)) (fun _ hk => trivial)⟩, ⟨Q29 NB101_108 BK101⟩, ⟨by (with_reducible repeat (first | refine blk_drewN ?_ _ | refine blk_drew ?_ | refine blk_alloc ?_ _)); refine blk_put (cs := #[.int .i64 (wrap64 (1 + t102)), .slice Ao31 x109001_2.length co31]) ?_ 1 _ rfl; (with_reducible repeat (first | refine blk_drewN ?_ _ | refine blk_drew ?_ | refine blk_alloc ?_ _)); exact BK108.out⟩, ⟨Q4 HI0 NB0_101 NB0_108⟩, ⟨Q6 HK GW101 GW108⟩, ⟨Q17 HB HI0 GE108⟩⟩
         ·rw [if_neg c26] at H
          have c26b0 := beq_eq_false_iff_ne.mpr c26; have c26b1 := bne_iff_ne.mpr c26; replace H := (ob H); obtain ⟨⟨t121, t122, t123⟩, A350, H⟩ := H; (try dsimp only at H); have A35 := Aside0.mk A350; clear A350; have HU36 := Aside0.mk H; clear H; obtain ⟨Ao37, co37, eo37⟩ := Kd.R_slice HO_8.out; subst eo37; have p115 : 0 ≤ (x9_2 : Int) := of_decide_eq_true Q10; have q115 : x9_2 < (t112.length : Int) := of_decide_eq_true Q10; obtain ⟨ad115, e115, hx115_0⟩ := Kd.at_int (Kd.R_reads' HO_8.out).2.2 x9_2 p115 q115
          cases e115
          replace p115 := eq_true p115; replace q115 := eq_true q115; have p116 : 0 ≤ (x9_2 : Int) := of_decide_eq_true Q10; have q116 : x9_2 < (t112.length : Int) := of_decide_eq_true Q10; obtain ⟨ad116, e116, hx116_0⟩ := Kd.at_int (Kd.R_reads' HO_8.out).2.2 x9_2 p116 q116; obtain rfl : ad115 = ad116 := (by injection e116); replace p116 := eq_true p116; replace q116 := eq_true q116
          go_upto_if 51 with (first | (go_at_call 129; (with_reducible refine (spec_l1Cur_one.calls g s0_0 x1001_2 x1002_2 2 t121 t122 t123 w0 _ ?side1 ?side2 A35.out).mono ?_); (case side1 => exact (Q4 HI0 NB0_101 NB0_108)); (case side2 => exact (Q5 HB HI0)); rintro e w38 ⟨rfl, hi, hb, hk⟩; replace HO_8 := am (Kd.R_mono (Kd.R_keep (IsS96.apart (show IsS96 w0 _ g s0_0 x1001_2 x1002_2 from Q4 HI0 NB0_101 NB0_108) Q70 (by decide)) hk (fun _ h => h.2)) (fun _ h => h.1)); replace HO_109001 := am (Kd.R_mono (Kd.R_keep (IsS96.apart (show IsS96 w0 _ g s0_0 x1001_2 x1002_2 from Q4 HI0 NB0_101 NB0_108) Q24 (by decide)) hk (fun _ h => h.2)) (fun _ h => h.1)); replace BK101 := am (KeepBut.blk hk (g' := gb101) (o := .cells #[.int .i64 0, .slice none 0 0] 30 (0, 0)) (Q1 BK101) NB101_0.out (by simp)); replace BK108 := am (KeepBut.blk hk (g' := gb108) (o := .cells #[.int .i64 (wrap64 (1 + t102)), u109001] 30 (0, 0)) (Q1 BK108) NB108_0.out (by simp)); replace HK := am (KeepBut.trans (Q6 HK GW101 GW108) hk (.inl rfl)); replace HB := am (hb); replace HI0 := am (hi); (try clear hb); (try clear hb2); (try clear hk); (try clear hi)))
          (try simp only [Act.put, List.setIfInBounds_toArray, List.set_cons_zero, List.set_cons_succ]); have H := HU36.out; clear HU36
          by_cases c39 : t121 = true
          ·subst c39
           have H1 : ((spec_l2Put.f k2 x109001_2 (rd t112 x9_2) x6_1).bind fun t125 => (spec_l1Cur_tame.l1 k2 x6_1 t109 t112 (wrap64 (x9_2 + 1)) s0_0 t122 t123 (wrap64 (1 + t102)) t125)) = some (r1, r2, r3, r4) := by rw [if_pos rfl] at H; exact H
           clear H; have H := H1; clear H1; replace H := (ob H); obtain ⟨t125, A400, H⟩ := H; (try dsimp only at H); have A40 := Aside0.mk A400; clear A400; have H' := Aside0.mk H; clear H
           try go_wp2
           replace HO_8 := am (Kd.R_drew HO_8.out); replace HO_109001 := am (Kd.R_drew HO_109001.out); replace BK101 := am (blk_drew BK101.out); replace BK108 := am (blk_drew BK108.out); replace HI0 := am (IsS96.drew HI0.out); replace HK := am (keep_drew HK.out); replace HB := am (below_drew1 HB.out); have p124 : 0 ≤ (x9_2 : Int) := of_decide_eq_true Q10; have q124 : x9_2 < (t112.length : Int) := of_decide_eq_true Q10; obtain ⟨ad124, e124, hx124_0⟩ := Kd.at_int (Kd.R_reads' HO_8.out).2.2 x9_2 p124 q124; obtain rfl : ad115 = ad124 := (by injection e124); replace p124 := eq_true p124; replace q124 := eq_true q124; obtain ⟨Ao42, co42, eo42⟩ := Kd.R_slice HO_109001.out
           (first | subst eo42 | (injection eo42 with f1_ f2_ f3_; have f4_ := f1_.symm; have f5_ := f3_.symm; clear f1_ f2_ f3_; subst f4_; subst f5_))
           refine start_ (n := 11) (S := fun w' => w'.cell? ⟨gb108, 0, none⟩ = some (.int .i64 (wrap64 (1 + t102))) ∧ w'.cell? ⟨gb108, 1, none⟩ = some (.slice Ao42 x109001_2.length co42) ∧ w'.cell? (ad115.add (x9_2).toNat) = some (.int .i64 (rd t112 x9_2))) (ds := [10]) #[false, false, false, false, false, false, false, false, false, false, false] (by kernel_rfl) rfl rfl ⟨(blk_cell BK108.out 0).trans rfl, (blk_cell BK108.out 1).trans rfl, hx124_0⟩ (fun hHeld => ?_); refine with_tabW spec_l1Cur_tame.tab11 spec_l1Cur_tame.bits11 (fun HT_ HW_ => ?_); generalize w38.drew = w41 at HO_8 HO_109001 BK101 BK108 HI0 HK HB hx124_0 hHeld ⊢; refine pq 0 52 rfl rfl HT_ ?_; refine pq 2 54 rfl rfl HT_ ?_; refine pq 3 55 rfl rfl HT_ ?_; refine pq 4 56 rfl rfl HT_ ?_; refine pq 6 58 rfl rfl HT_ ?_; refine tq3 1 53 rfl rfl HT_ HW_ hHeld ?_; refine tq3 5 57 rfl rfl HT_ HW_ hHeld ?_; refine pq 7 59 rfl rfl HT_ ?_; refine oq 8 60 rfl rfl HT_ (fun K hK => ?_); refine goes_ Try.func184 (by kernel_rfl) rfl #[.slice Ao42 x109001_2.length co42, .agg #[.int .i64 (rd t112 x9_2), .int .i64 x6_1]] (by rfl) rfl rfl Q3 ?_
           with_reducible refine (spec_l2Put.calls k2 _ _ x109001_2 (rd t112 x9_2) x6_1 t125 _ ?side1 ?side2 A40.out).mono ?_
           (case side1 => exact Q74)
           (case side2 => exact (Kd.R_reads' HO_109001.out).2.1)
           rintro e w43 ⟨v126, rfl, ho0, hb⟩; have HS2_ := (hb.cell (World.block_lt_of_cell? _ _ (hHeld.2.2))).trans (hHeld.2.2); refine ⟨_, rfl, ?_⟩; replace HO_8 := am (Kd.R_below Q70 hb); have HO127 := am (Kd.R_lower (Kd.R_new' ho0 (Kd.R_lt Q24)) (keep_size (w := w) (g := g) (row := none) (Q6 HK GW101 GW108))); replace HO_109001 := am (Kd.R_elder' Q24 (Kd.R_base ho0) hb); replace BK101 := am (blk_below (g := gb101) (o := .cells #[.int .i64 0, .slice none 0 0] 30 (0, 0)) (Q1 BK101) hb); replace BK108 := am (blk_below (g := gb108) (o := .cells #[.int .i64 (wrap64 (1 + t102)), .slice Ao42 x109001_2.length co42] 30 (0, 0)) (Q1 BK108) hb); replace HK := am (KeepBut.trans (Q6 HK GW101 GW108) (KeepBut.of_below hb g none) (.inl rfl)); replace HB := am (below_step (Q5 HB HI0) hb); replace HI0 := am (IsS96.below (Q4 HI0 NB0_101 NB0_108) hb); (try clear hb); (try clear hb2); (try clear hk); (try clear hi); (try clear ho0); obtain ⟨Ao44, co44, eo44⟩ := Kd.R_slice HO127.out
           (first | subst eo44 | (injection eo44 with f1_ f2_ f3_; have f4_ := f1_.symm; have f5_ := f3_.symm; clear f1_ f2_ f3_; subst f4_; subst f5_))
           refine hK.out _ _ ⟨(blk_cell BK108.out 0).trans rfl, (blk_cell BK108.out 1).trans rfl, HS2_⟩ (fun hHeld => ?_); clear hK K; refine norm_ (a' := ?_) ?_ ?_
           rotate_left
           ·show Act.put _ (some 60) _ = _
            simp only [Act.put, List.setIfInBounds_toArray, List.set_cons_zero, List.set_cons_succ, i64_w, i32_w]
            rfl
           refine pq 9 61 rfl rfl HT_ ?_; refine last_ (i := 10) (N := none) #[true, true, true, true, true, true, true, true, true, true, true] rfl rfl (one_of HT_.out (by kernel_rfl)) (by decide) (fun K hK => ?_); have hs45 : w43.cell? ⟨gb108, 1, none⟩ = some (.slice Ao42 x109001_2.length co42) := (blk_cell BK108.out 1).trans rfl; have hfs45 := blk_frozen BK108.out 1; have hns45_0 := NB101_108.out; have hms45_0 := NB108_101.out; refine skip_ (w1 := ?_) (by rfl) rfl ?_ ?_
           rotate_left
           ·go_simp
            rfl
           refine hK.out _ _ ?_; clear hK K; refine done_ (done_of HT_.out (by kernel_rfl)) ?_
           try go_wp2
           go_roundg k2
           case measure => have := HK1.out; have := HK2.out; omega
           case rel => exact ⟨(wrap64 (x9_2 + 1)), (t122), (t123), (t125), (.slice Ao44 t125.length co44), Q13, H', ⟨Q93⟩, ⟨by (with_reducible repeat (first | apply Kd.R_alloc | apply Kd.R_drewN | apply Kd.R_drew)); exact Kd.R_mono (Kd.R_far (p := ⟨gb108, 1, none⟩) (Kd.R_types HO_8.out BK108.out (by decide)) (fun _ hk => hk.2) (.slice Ao44 t125.length co44)) (fun _ hk => trivial)⟩, ⟨by (with_reducible repeat (first | apply Kd.R_alloc | apply Kd.R_drewN | apply Kd.R_drew)); exact Kd.R_mono (Kd.R_far (p := ⟨gb108, 1, none⟩) (Kd.R_types HO127.out BK108.out (by decide)) (fun _ hk => hk.2) (.slice Ao44 t125.length co44)) (fun _ hk => trivial)⟩, ⟨Q29 NB101_108 BK101⟩, ⟨by (with_reducible repeat (first | refine blk_drewN ?_ _ | refine blk_drew ?_ | refine blk_alloc ?_ _)); refine blk_put (cs := #[.int .i64 (wrap64 (1 + t102)), .slice Ao42 x109001_2.length co42]) ?_ 1 _ rfl; (with_reducible repeat (first | refine blk_drewN ?_ _ | refine blk_drew ?_ | refine blk_alloc ?_ _)); exact BK108.out⟩, ⟨Q4 HI0 NB0_101 NB0_108⟩, ⟨Q6 HK GW101 GW108⟩, ⟨Q17 HB HI0 GE108⟩⟩
          ·replace c39 := Bool.eq_false_iff.mpr c39
           subst c39; have H1 : (spec_l1Cur_tame.l1 k2 x6_1 t109 t112 (wrap64 (x9_2 + 1)) s0_0 t122 t123 (wrap64 (1 + t102)) x109001_2) = some (r1, r2, r3, r4) := by rw [if_neg (show ¬ (false = true) by decide)] at H; exact H
           clear H; have H := H1; clear H1; have H' := Aside0.mk H; clear H
           go_wp2
           go_roundg k2
           case measure => have := HK1.out; have := HK2.out; omega
           case rel => exact ⟨(wrap64 (x9_2 + 1)), (t122), (t123), (x109001_2), (u109001), Q13, H', ⟨Q93⟩, ⟨Q70⟩, ⟨Q24⟩, ⟨Q1 BK101⟩, ⟨Q1 BK108⟩, ⟨Q4 HI0 NB0_101 NB0_108⟩, ⟨Q6 HK GW101 GW108⟩, ⟨Q5 HB HI0⟩⟩
        ·rw [if_neg c25] at H
         have c25b0 := decide_eq_false c25; clear c25; have HU46 := Aside0.mk H; clear H; obtain ⟨Ao47, co47, eo47⟩ := Kd.R_slice HO_8.out; subst eo47; have p115 : 0 ≤ (x9_2 : Int) := of_decide_eq_true Q10; have q115 : x9_2 < (t112.length : Int) := of_decide_eq_true Q10; obtain ⟨ad115, e115, hx115_0⟩ := Kd.at_int (Kd.R_reads' HO_8.out).2.2 x9_2 p115 q115
         cases e115
         replace p115 := eq_true p115; replace q115 := eq_true q115
         go_upto_if 51 with (fail)
         have H := HU46.out; clear HU46; have H' := Aside0.mk H; clear H
         go_wp2
         go_roundg k2
         case measure => have := HK1.out; have := HK2.out; omega
         case rel => exact ⟨(wrap64 (x9_2 + 1)), (x1001_2), (x1002_2), (x109001_2), (u109001), Q13, H', ⟨Q93⟩, ⟨Q70⟩, ⟨Q24⟩, ⟨Q1 BK101⟩, ⟨Q1 BK108⟩, ⟨Q4 HI0 NB0_101 NB0_108⟩, ⟨Q6 HK GW101 GW108⟩, ⟨Q5 HB HI0⟩⟩
       ·rw [if_neg c24] at H
        exact absurd H (by simp)
      ·rw [if_neg c23] at H
       have c23b0 := decide_eq_false c23; clear c23; have H' := Aside0.mk H; clear H; obtain ⟨Ao48, co48, eo48⟩ := Kd.R_slice HO_8.out; subst eo48
       go_wp2
       go_roundg k2
       case measure => have := HK1.out; have := HK2.out; omega
       case rel => exact ⟨(wrap64 (x6_1 + 1)), (x1001_2), (x1002_2), (x109001_2), (u109001), Q13, H', ⟨Q93⟩, ⟨Q24⟩, ⟨Q1 BK101⟩, ⟨Q1 BK108⟩, ⟨Q4 HI0 NB0_101 NB0_108⟩, ⟨Q6 HK GW101 GW108⟩, ⟨Q5 HB HI0⟩⟩
   ·rw [if_neg c13] at H
    have c13b0 := decide_eq_false c13; clear c13; replace H := (ob H); obtain ⟨⟨t128, t129, t130⟩, A490, H⟩ := H; (try dsimp only at H); have A49 := Aside0.mk A490; clear A490; have HU50 := Aside0.mk H; clear H; have hnb51 := NB108_101.out; have hnc51 := NB101_108.out; have hnb52 := NB108_0.out; have hnc52 := NB0_108.out; have hcz53_0 : wr.cell? ⟨gb108, 0, none⟩ = some (.int .i64 (wrap64 (1 + t102))) := (blk_cell BK108.out 0).trans rfl; have hcz53_1 : wr.cell? ⟨gb108, 1, none⟩ = some (u109001) := (blk_cell BK108.out 1).trans rfl; have hfz53_0 := blk_frozen BK108.out 0; have hfz53_1 := blk_frozen BK108.out 1
    go_upto_if 63 with (first | ((with_reducible refine gate_callee (f := 129) rfl ?_); refine goesL_ (some 63) rfl rfl Try.func129 (by kernel_rfl) rfl #[.pointer (some ⟨g, 0, none⟩), .int .i64 6] rfl Q3 ?_; (with_reducible refine (spec_l1Cur_one.calls g s0_0 x1001_1 x1002_1 6 t128 t129 t130 w0 _ ?side1 ?side2 A49.out).mono ?_); (case side1 => exact (Q4 HI0 NB0_101 NB0_108)); (case side2 => exact (Q5 HB HI0)); rintro e w54 ⟨rfl, hi, hb, hk⟩; refine ⟨_, rfl, ?_⟩; replace HO_109001 := am (Kd.R_mono (Kd.R_keep (IsS96.apart (show IsS96 w0 _ g s0_0 x1001_1 x1002_1 from Q4 HI0 NB0_101 NB0_108) Q24 (by decide)) hk (fun _ h => h.2)) (fun _ h => h.1)); replace BK101 := am (KeepBut.blk hk (g' := gb101) (o := .cells #[.int .i64 0, .slice none 0 0] 30 (0, 0)) (Q1 BK101) NB101_0.out (by simp)); replace BK108 := am (KeepBut.blk hk (g' := gb108) (o := .cells #[.int .i64 (wrap64 (1 + t102)), u109001] 30 (0, 0)) (Q1 BK108) NB108_0.out (by simp)); replace HK := am (KeepBut.trans (Q6 HK GW101 GW108) hk (.inl rfl)); replace HB := am (hb); replace HI0 := am (hi); (try clear hb); (try clear hb2); (try clear hk); (try clear hi)))
    (try simp only [Act.put, List.setIfInBounds_toArray, List.set_cons_zero, List.set_cons_succ]); have H := HU50.out; clear HU50
    by_cases c55 : t128 = true
    ·subst c55
     have H1 : ((spec_l1Cur_marred.f s0_0 t129 t130 (wrap64 (1 + t102)) x109001_1).bind fun bt131 => (some (bt131.1, bt131.2.1, bt131.2.2.1, bt131.2.2.2))) = some (r1, r2, r3, r4) := by rw [if_pos rfl] at H; exact H
     clear H; have H := H1; clear H1; replace H := (ob H); obtain ⟨⟨t131, t132, t135, t136⟩, A560, H⟩ := H; (try dsimp only at H); have A56 := Aside0.mk A560; clear A560
     simp only [Option.some.injEq, Prod.mk.injEq] at H
     obtain ⟨rfl, rfl, rfl, rfl⟩ := H; have hnb57 := NB108_101.out; have hnc57 := NB101_108.out; have hnb58 := NB108_0.out; have hnc58 := NB0_108.out; have hcz59_0 : w54.cell? ⟨gb108, 0, none⟩ = some (.int .i64 (wrap64 (1 + t102))) := (blk_cell BK108.out 0).trans rfl; have hcz59_1 : w54.cell? ⟨gb108, 1, none⟩ = some (u109001) := (blk_cell BK108.out 1).trans rfl; have hfz59_0 := blk_frozen BK108.out 0; have hfz59_1 := blk_frozen BK108.out 1; obtain ⟨Ao60, co60, eo60⟩ := Kd.R_slice HO_109001.out; subst eo60
     go_wp2_with (first | ((with_reducible refine gate_callee (f := 188) rfl ?_); refine goesL_ (some 66) rfl rfl Try.func188 (by kernel_rfl) rfl #[.pointer (some ⟨g, 0, none⟩), .agg #[.int .i64 (wrap64 (1 + t102)), .slice Ao60 x109001_1.length co60]] rfl Q3 ?_; (with_reducible refine (spec_l1Cur_marred.calls g s0_0 t129 t130 (wrap64 (1 + t102)) (fun k_ => some k_ = (.slice Ao60 x109001_1.length co60 : Value).ownBlock) (.slice Ao60 x109001_1.length co60) x109001_1 t131 t132 t135 t136 w0 _ ?side1 ?side2 ?side3 A56.out).mono ?_); (case side1 => exact (Q4 HI0 NB0_101 NB0_108)); (case side2 => exact (Q5 HB HI0)); (case side3 => exact Kd.R_lower (Kd.R_tight rfl HO_109001.out) HL.out); rintro e w61 ⟨v133, rfl, ho0, hi, hb, hkp⟩; refine ⟨_, rfl, ?_⟩; replace BK101 := am (blk_kept (Q31 BK101) hkp (fun hs_ => Or.elim hs_ (fun hs_ => (fun e_ => (Kd.R_ne HO_109001.out BK101.out (by decide)) e_) hs_) (fun e_ => NB101_0.out e_))); replace BK108 := am (blk_kept (Q31 BK108) hkp (fun hs_ => Or.elim hs_ (fun hs_ => (fun e_ => (Kd.R_ne HO_109001.out BK108.out (by decide)) e_) hs_) (fun e_ => NB108_0.out e_))); replace HI0 := am (hi); have HO134 := am (Kd.R_mono (ok' := fun k_ => True) (Kd.R_raise (d := k71) (b := w0.heap.size) (b' := w.heap.size) (fun _ _ _ _ h_ => h_) ho0 (fun k_ e_ => Or.elim (ho0.1 k_ e_) (fun hs_ => (fun e_ => Kd.R_base HO_109001.out k_ e_.symm) hs_) (fun hn_ => Nat.le_trans (keep_size (w := w) (g := g) (row := none) (Q6 HK GW101 GW108)) hn_))) (fun k_ hk_ => trivial)); replace HK := am (Kept.keepG (Q6 HK GW101 GW108) hkp (fun k_ hs_ => Or.elim hs_ (fun hs_ => (fun e_ => .inr (Kd.R_base HO_109001.out k_ e_.symm)) hs_) (fun e_ => .inl e_))); replace HB := am (hb); clear HO_109001; (try clear hb); (try clear hkp); (try clear ho0); have hnb62 := NB101_0.out; have hnc62 := NB0_101.out; have hcz63_0 : w61.cell? ⟨gb101, 0, none⟩ = some (.int .i64 0) := (blk_cell BK101.out 0).trans rfl; have hcz63_1 : w61.cell? ⟨gb101, 1, none⟩ = some (.slice none 0 0) := (blk_cell BK101.out 1).trans rfl; have hfz63_0 := blk_frozen BK101.out 0; have hfz63_1 := blk_frozen BK101.out 1; obtain ⟨Ao64, co64, eo64⟩ := Kd.R_slice HO134.out; subst eo64))
     refine bodyPost_ret (results_cell_row rfl _ _ gb101 30 #[.int .i64 t131, .slice Ao64 t132.length co64] (0, 0) _ rfl (by (with_reducible repeat (first | refine blk_drewN ?_ _ | refine blk_drew ?_ | refine blk_alloc ?_ _)); refine blk_put (cs := #[.int .i64 t131, .slice none 0 0]) ?_ 1 _ rfl; (with_reducible repeat (first | refine blk_drewN ?_ _ | refine blk_drew ?_ | refine blk_alloc ?_ _)); refine blk_put (cs := #[.int .i64 0, .slice none 0 0]) ?_ 0 _ rfl; (with_reducible repeat (first | refine blk_drewN ?_ _ | refine blk_drew ?_ | refine blk_alloc ?_ _)); exact BK101.out) Try.underlying30 rfl (by kernel_rfl)) rfl ?_; exact ⟨_, Q11, by (with_reducible repeat (first | apply Kd.R_alloc | apply Kd.R_drewN | apply Kd.R_drew)); exact Kd.R_mono (Kd.R_far (p := ⟨gb101, 1, none⟩) (Kd.R_far (p := ⟨gb101, 0, none⟩) (Kd.R_types HO134.out BK101.out (by decide)) (fun _ hk => hk.2) (.int .i64 t131)) (fun _ hk => hk.2) (.slice Ao64 t132.length co64)) (fun _ hk => trivial), Q4 HI0 NB0_101 NB0_108, Q17 HB HI0 GE101, Q6 HK GW101 GW108⟩
    ·replace c55 := Bool.eq_false_iff.mpr c55
     subst c55; have H1 : (some ((wrap64 (1 + t102)), x109001_1, t129, t130)) = some (r1, r2, r3, r4) := by rw [if_neg (show ¬ (false = true) by decide)] at H; exact H
     clear H; have H := H1; clear H1
     simp only [Option.some.injEq, Prod.mk.injEq] at H
     obtain ⟨rfl, rfl, rfl, rfl⟩ := H; have hnb65 := NB108_101.out; have hnc65 := NB101_108.out; have hnb66 := NB108_0.out; have hnc66 := NB0_108.out; have hcz67_0 : w54.cell? ⟨gb108, 0, none⟩ = some (.int .i64 (wrap64 (1 + t102))) := (blk_cell BK108.out 0).trans rfl; have hcz67_1 : w54.cell? ⟨gb108, 1, none⟩ = some (u109001) := (blk_cell BK108.out 1).trans rfl; have hfz67_0 := blk_frozen BK108.out 0; have hfz67_1 := blk_frozen BK108.out 1; have hnb68 := NB101_0.out; have hnc68 := NB0_101.out; have hcz69_0 : w54.cell? ⟨gb101, 0, none⟩ = some (.int .i64 0) := (blk_cell BK101.out 0).trans rfl; have hcz69_1 : w54.cell? ⟨gb101, 1, none⟩ = some (.slice none 0 0) := (blk_cell BK101.out 1).trans rfl; have hfz69_0 := blk_frozen BK101.out 0; have hfz69_1 := blk_frozen BK101.out 1; obtain ⟨Ao70, co70, eo70⟩ := Kd.R_slice HO_109001.out; subst eo70
     go_wp2
     refine bodyPost_ret (results_cell_row rfl _ _ gb101 30 #[.int .i64 (wrap64 (1 + t102)), .slice Ao70 x109001_1.length co70] (0, 0) _ rfl (Q66 BK101) Try.underlying30 rfl (by kernel_rfl)) rfl ?_; exact ⟨_, Q11, by (with_reducible repeat (first | apply Kd.R_alloc | apply Kd.R_drewN | apply Kd.R_drew)); exact Kd.R_mono (Kd.R_far (p := ⟨gb101, 1, none⟩) (Kd.R_far (p := ⟨gb101, 0, none⟩) (Kd.R_types HO_109001.out BK101.out (by decide)) (fun _ hk => hk.2) (.int .i64 (wrap64 (1 + t102)))) (fun _ hk => hk.2) (.slice Ao70 x109001_1.length co70)) (fun _ hk => trivial), Q4 HI0 NB0_101 NB0_108, Q17 HB HI0 GE101, Q6 HK GW101 GW108⟩
/-! ### spec_l1Cur_field3: function 139 -/
def spec_l1Cur_field3.f (k : Nat) (s0_0 : List Int) (s0_1 : Int) (s0_2 : Int) : Option (Int × (List (S71)) × Int × Int) := (spec_l1Cur_one.f s0_0 s0_1 s0_2 2).bind fun bt102 => (if bt102.1 = true then ((spec_l1Cur_tame.f k s0_0 bt102.2.1 bt102.2.2 6).bind fun bt105 => (some (bt105.1, bt105.2.1, bt105.2.2.1, bt105.2.2.2))) else ((spec_l1Cur_graph.f k s0_0 bt102.2.1 bt102.2.2).bind fun bt111 => (some (bt111.1, bt111.2.1, bt111.2.2.1, bt111.2.2.2))))
theorem spec_l1Cur_field3.mono : ∀ a0 a1 a2 k, LeO (spec_l1Cur_field3.f k a0 a1 a2) (spec_l1Cur_field3.f (k + 1) a0 a1 a2) := by
 intro a0 a1 a2 k
 unfold spec_l1Cur_field3.f
 repeat' first | (with_reducible first | exact spec_l1Cur_graph.mono _ _ _ _ | exact spec_l1Cur_tame.mono _ _ _ _ _ | exact LeO.refl _ | exact LeO.none _ | refine LeO.ite ?_ ?_ | refine LeO.bind ?_ (fun _ => ?_))
set_option maxHeartbeats 8000000 in
set_option maxRecDepth 100000 in
theorem spec_l1Cur_field3.calls (k : Nat) (g : Nat) (s0_0 : List Int) (s0_1 : Int) (s0_2 : Int) (r1 : Int) (r2 : List (S71)) (r3 : Int) (r4 : Int) (w0 w : World) (hI : IsS96 w0 w g s0_0 s0_1 s0_2) (hB : Below w0.heap.size w0 w) (h : spec_l1Cur_field3.f k s0_0 s0_1 s0_2 = some (r1, r2, r3, r4)) :
  Calls Try.prog 139 #[.pointer (some ⟨g, 0, none⟩)] w fun e w' => ∃ v1_ : Value, e = .returned (.agg #[.int .i64 r1, v1_]) ∧ Kd.R k71 71 w' w.heap.size (fun _ => True) v1_ r2 ∧ IsS96 w0 w' g s0_0 r3 r4 ∧ Below w0.heap.size w0 w' ∧ KeepBut w w' g none := by
 have hu30 := Try.underlying30
 have HI0 := Aside0.mk hI
 have HK := am (KeepBut.refl w g none)
 have HL := Aside0.mk hB.size
 clear hI
 have HW0 := Aside0.mk hB.size
 have HB := Aside0.mk hB
 clear hB
 have H : ((spec_l1Cur_one.f s0_0 s0_1 s0_2 2).bind fun bt102 => (if bt102.1 = true then ((spec_l1Cur_tame.f k s0_0 bt102.2.1 bt102.2.2 6).bind fun bt105 => (some (bt105.1, bt105.2.1, bt105.2.2.1, bt105.2.2.2))) else ((spec_l1Cur_graph.f k s0_0 bt102.2.1 bt102.2.2).bind fun bt111 => (some (bt111.1, bt111.2.1, bt111.2.2.1, bt111.2.2.2))))) = some (r1, r2, r3, r4) := h
 clear h
 replace H := (ob H)
 obtain ⟨⟨t102, t103, t104⟩, A20, H⟩ := H
 (try dsimp only at H)
 have A2 := Aside0.mk A20
 clear A20
 have HU3 := Aside0.mk H
 clear H
 go_enter Try.func139, Try.ntmps139
 go_upto_if 4 with (first | ((with_reducible refine gate_dst (N := 2) rfl ?_); refine box_event ?hg (N := 2) ?hd (cs := #[.int .i64 0, .slice none 0 0]) (t := 30) ?hr ?_; (case hd => rfl); (case hg => rfl); (case hr => first | (go_simp; done) | (go_simp; rfl)); intro gb101 hg w4 hbox hb; replace HB := am (below_step (Q5 HB HI0) hb); have BK101 := am (hbox); have GW101 := am ((Q51 : w.heap.size ≤ gb101)); have GE101 := am ((Nat.le_trans HW0.out (Q51 : w.heap.size ≤ gb101) : w0.heap.size ≤ gb101)); replace HK := am (KeepBut.trans (Q18 HK) (KeepBut.of_below hb g none) (.inl rfl)); have NB0_101 := am ((Q60 : g ≠ gb101)); have NB101_0 := am ((Q61 : gb101 ≠ g)); replace HI0 := am (IsS96.below (Q15 HI0) hb); clear hb hbox hg) | ((with_reducible refine gate_callee (f := 129) rfl ?_); refine goesL_ (some 4) rfl rfl Try.func129 (by kernel_rfl) rfl #[.pointer (some ⟨g, 0, none⟩), .int .i64 2] rfl Q3 ?_; (with_reducible refine (spec_l1Cur_one.calls g s0_0 s0_1 s0_2 2 t102 t103 t104 w0 _ ?side1 ?side2 A2.out).mono ?_); (case side1 => exact (Q8 HI0 NB0_101)); (case side2 => exact (Q5 HB HI0)); rintro e w5 ⟨rfl, hi, hb, hk⟩; refine ⟨_, rfl, ?_⟩; replace BK101 := am (KeepBut.blk hk (g' := gb101) (o := .cells #[.int .i64 0, .slice none 0 0] 30 (0, 0)) (Q1 BK101) NB101_0.out (by simp)); replace HK := am (KeepBut.trans (Q9 HK GW101) hk (.inl rfl)); replace HB := am (hb); replace HI0 := am (hi); (try clear hb); (try clear hb2); (try clear hk); (try clear hi)))
 (try simp only [Act.put, List.setIfInBounds_toArray, List.set_cons_zero, List.set_cons_succ])
 have H := HU3.out
 clear HU3
 by_cases c6 : t102 = true
 ·subst c6
  have H1 : ((spec_l1Cur_tame.f k s0_0 t103 t104 6).bind fun bt105 => (some (bt105.1, bt105.2.1, bt105.2.2.1, bt105.2.2.2))) = some (r1, r2, r3, r4) := by rw [if_pos rfl] at H; exact H
  clear H; have H := H1; clear H1; replace H := (ob H); obtain ⟨⟨t105, t106, t109, t110⟩, A70, H⟩ := H; (try dsimp only at H); have A7 := Aside0.mk A70; clear A70
  simp only [Option.some.injEq, Prod.mk.injEq] at H
  obtain ⟨rfl, rfl, rfl, rfl⟩ := H
  go_wp2_with (first | ((with_reducible refine gate_callee (f := 196) rfl ?_); refine goesL_ (some 6) rfl rfl Try.func196 (by kernel_rfl) rfl #[.pointer (some ⟨g, 0, none⟩), .int .i64 6] rfl Q3 ?_; (with_reducible refine (spec_l1Cur_tame.calls k g s0_0 t103 t104 6 t105 t106 t109 t110 w0 _ ?side1 ?side2 A7.out).mono ?_); (case side1 => exact (Q8 HI0 NB0_101)); (case side2 => exact (Q5 HB HI0)); rintro e w8 ⟨v107, rfl, ho0, hi, hb, hk⟩; refine ⟨_, rfl, ?_⟩; replace BK101 := am (KeepBut.blk hk (g' := gb101) (o := .cells #[.int .i64 0, .slice none 0 0] 30 (0, 0)) (Q1 BK101) NB101_0.out (by simp)); have HO108 := am (Kd.R_lower ho0 (keep_size (w := w) (g := g) (row := none) (Q9 HK GW101))); replace HK := am (KeepBut.trans (Q9 HK GW101) hk (.inl rfl)); replace HB := am (hb); replace HI0 := am (hi); (try clear hb); (try clear hb2); (try clear hk); (try clear hi); (try clear ho0); have hnb9 := NB101_0.out; have hnc9 := NB0_101.out; have hcz10_0 : w8.cell? ⟨gb101, 0, none⟩ = some (.int .i64 0) := (blk_cell BK101.out 0).trans rfl; have hcz10_1 : w8.cell? ⟨gb101, 1, none⟩ = some (.slice none 0 0) := (blk_cell BK101.out 1).trans rfl; have hfz10_0 := blk_frozen BK101.out 0; have hfz10_1 := blk_frozen BK101.out 1; obtain ⟨Ao11, co11, eo11⟩ := Kd.R_slice HO108.out; subst eo11))
  refine bodyPost_ret (results_cell_row rfl _ _ gb101 30 #[.int .i64 t105, .slice Ao11 t106.length co11] (0, 0) _ rfl (by (with_reducible repeat (first | refine blk_drewN ?_ _ | refine blk_drew ?_ | refine blk_alloc ?_ _)); refine blk_put (cs := #[.int .i64 t105, .slice none 0 0]) ?_ 1 _ rfl; (with_reducible repeat (first | refine blk_drewN ?_ _ | refine blk_drew ?_ | refine blk_alloc ?_ _)); refine blk_put (cs := #[.int .i64 0, .slice none 0 0]) ?_ 0 _ rfl; (with_reducible repeat (first | refine blk_drewN ?_ _ | refine blk_drew ?_ | refine blk_alloc ?_ _)); exact BK101.out) Try.underlying30 rfl (by kernel_rfl)) rfl ?_; exact ⟨_, Q11, by (with_reducible repeat (first | apply Kd.R_alloc | apply Kd.R_drewN | apply Kd.R_drew)); exact Kd.R_mono (Kd.R_far (p := ⟨gb101, 1, none⟩) (Kd.R_far (p := ⟨gb101, 0, none⟩) (Kd.R_types HO108.out BK101.out (by decide)) (fun _ hk => hk.2) (.int .i64 t105)) (fun _ hk => hk.2) (.slice Ao11 t106.length co11)) (fun _ hk => trivial), Q8 HI0 NB0_101, Q17 HB HI0 GE101, Q9 HK GW101⟩
 ·replace c6 := Bool.eq_false_iff.mpr c6
  subst c6; have H1 : ((spec_l1Cur_graph.f k s0_0 t103 t104).bind fun bt111 => (some (bt111.1, bt111.2.1, bt111.2.2.1, bt111.2.2.2))) = some (r1, r2, r3, r4) := by rw [if_neg (show ¬ (false = true) by decide)] at H; exact H
  clear H; have H := H1; clear H1; replace H := (ob H); obtain ⟨⟨t111, t112, t115, t116⟩, A120, H⟩ := H; (try dsimp only at H); have A12 := Aside0.mk A120; clear A120
  simp only [Option.some.injEq, Prod.mk.injEq] at H
  obtain ⟨rfl, rfl, rfl, rfl⟩ := H
  go_wp2_with (first | ((with_reducible refine gate_callee (f := 168) rfl ?_); refine goesL_ (some 8) rfl rfl Try.func168 (by kernel_rfl) rfl #[.pointer (some ⟨g, 0, none⟩)] rfl Q3 ?_; (with_reducible refine (spec_l1Cur_graph.calls k g s0_0 t103 t104 t111 t112 t115 t116 w0 _ ?side1 ?side2 A12.out).mono ?_); (case side1 => exact (Q8 HI0 NB0_101)); (case side2 => exact (Q5 HB HI0)); rintro e w13 ⟨v113, rfl, ho0, hi, hb, hk⟩; refine ⟨_, rfl, ?_⟩; replace BK101 := am (KeepBut.blk hk (g' := gb101) (o := .cells #[.int .i64 0, .slice none 0 0] 30 (0, 0)) (Q1 BK101) NB101_0.out (by simp)); have HO114 := am (Kd.R_lower ho0 (keep_size (w := w) (g := g) (row := none) (Q9 HK GW101))); replace HK := am (KeepBut.trans (Q9 HK GW101) hk (.inl rfl)); replace HB := am (hb); replace HI0 := am (hi); (try clear hb); (try clear hb2); (try clear hk); (try clear hi); (try clear ho0); have hnb14 := NB101_0.out; have hnc14 := NB0_101.out; have hcz15_0 : w13.cell? ⟨gb101, 0, none⟩ = some (.int .i64 0) := (blk_cell BK101.out 0).trans rfl; have hcz15_1 : w13.cell? ⟨gb101, 1, none⟩ = some (.slice none 0 0) := (blk_cell BK101.out 1).trans rfl; have hfz15_0 := blk_frozen BK101.out 0; have hfz15_1 := blk_frozen BK101.out 1; obtain ⟨Ao16, co16, eo16⟩ := Kd.R_slice HO114.out; subst eo16))
  refine bodyPost_ret (results_cell_row rfl _ _ gb101 30 #[.int .i64 t111, .slice Ao16 t112.length co16] (0, 0) _ rfl (by (with_reducible repeat (first | refine blk_drewN ?_ _ | refine blk_drew ?_ | refine blk_alloc ?_ _)); refine blk_put (cs := #[.int .i64 t111, .slice none 0 0]) ?_ 1 _ rfl; (with_reducible repeat (first | refine blk_drewN ?_ _ | refine blk_drew ?_ | refine blk_alloc ?_ _)); refine blk_put (cs := #[.int .i64 0, .slice none 0 0]) ?_ 0 _ rfl; (with_reducible repeat (first | refine blk_drewN ?_ _ | refine blk_drew ?_ | refine blk_alloc ?_ _)); exact BK101.out) Try.underlying30 rfl (by kernel_rfl)) rfl ?_; exact ⟨_, Q11, by (with_reducible repeat (first | apply Kd.R_alloc | apply Kd.R_drewN | apply Kd.R_drew)); exact Kd.R_mono (Kd.R_far (p := ⟨gb101, 1, none⟩) (Kd.R_far (p := ⟨gb101, 0, none⟩) (Kd.R_types HO114.out BK101.out (by decide)) (fun _ hk => hk.2) (.int .i64 t111)) (fun _ hk => hk.2) (.slice Ao16 t112.length co16)) (fun _ hk => trivial), Q8 HI0 NB0_101, Q17 HB HI0 GE101, Q9 HK GW101⟩
/-! ### spec_l1Cur_node: function 142 -/
def spec_l1Cur_node.j0 : Nat → Bool → List Int → Int → Int → Int → List (S71) → Option (Int × Int × Int)
 | 0, _, _, _, _, _, _ => none
 | k + 1, x16, x1000, x1001, x1002, x102000, x102001 => if x16 = true then ((spec_l1Cur_among.f x1000 x1001 x1002 (([(-1), 0, 8, 4611686018427387904] : List Int))).bind fun bt108 => (some (bt108.1, bt108.2.1, bt108.2.2))) else ((spec_l1Cur_pick.f x1000 x1001 x1002 x102000).bind fun bt111 => (some (bt111.1, bt111.2.1, bt111.2.2)))
def spec_l1Cur_node.f (k : Nat) (s0_0 : List Int) (s0_1 : Int) (s0_2 : Int) (a1_0 : Int) (l1_1 : List (S71)) : Option (Int × Int × Int) := if a1_0 < 1 then (spec_l1Cur_node.j0 k true s0_0 s0_1 s0_2 a1_0 l1_1) else (if a1_0 > 8 then (spec_l1Cur_node.j0 k true s0_0 s0_1 s0_2 a1_0 l1_1) else ((spec_l1Cur_one.f s0_0 s0_1 s0_2 24).bind fun bt102 => (spec_l1Cur_node.j0 k bt102.1 s0_0 bt102.2.1 bt102.2.2 a1_0 l1_1)))
theorem spec_l1Cur_node.mono_l : ∀ k, (∀ y0 y1 y2 y3 y4 y5, LeO (spec_l1Cur_node.j0 k y0 y1 y2 y3 y4 y5) (spec_l1Cur_node.j0 (k + 1) y0 y1 y2 y3 y4 y5))
 | 0 => fun _ _ _ _ _ _ r h => by simp [spec_l1Cur_node.j0] at h
 | k + 1 => by
  have ih0 := spec_l1Cur_node.mono_l k
  all_goals
   intros
   first | unfold spec_l1Cur_node.j0
   repeat' first | (with_reducible first | exact ih0 _ _ _ _ _ _ | exact LeO.refl _ | exact LeO.none _ | refine LeO.ite ?_ ?_ | refine LeO.bind ?_ (fun _ => ?_))
theorem spec_l1Cur_node.mono : ∀ a0 a1 a2 a3 a4 k, LeO (spec_l1Cur_node.f k a0 a1 a2 a3 a4) (spec_l1Cur_node.f (k + 1) a0 a1 a2 a3 a4) := by
 intro a0 a1 a2 a3 a4 k
 have ih0 := spec_l1Cur_node.mono_l k
 unfold spec_l1Cur_node.f
 repeat' first | (with_reducible first | exact ih0 _ _ _ _ _ _ | exact LeO.refl _ | exact LeO.none _ | refine LeO.ite ?_ ?_ | refine LeO.bind ?_ (fun _ => ?_))
set_option maxHeartbeats 8000000 in
set_option maxRecDepth 100000 in
theorem spec_l1Cur_node.calls (k : Nat) (g : Nat) (s0_0 : List Int) (s0_1 : Int) (s0_2 : Int) (a1_0 : Int) (A1_1 : Option Addr) (c1_1 : Nat) (l1_1 : List (S71)) (r1 : Int) (r2 : Int) (r3 : Int) (w0 w : World) (hI : IsS96 w0 w g s0_0 s0_1 s0_2) (hB : Below w0.heap.size w0 w) (hr1_1 : ∀ W_, KeepBut w W_ g none → Kd.C k71 W_ A1_1 l1_1.length l1_1) (hc1_1 : l1_1.length ≤ c1_1) (h : spec_l1Cur_node.f k s0_0 s0_1 s0_2 a1_0 l1_1 = some (r1, r2, r3)) :
  Calls Try.prog 142 #[.pointer (some ⟨g, 0, none⟩), .agg #[.int .i64 a1_0, .slice A1_1 l1_1.length c1_1]] w fun e w' => e = .returned (.int .i64 r1) ∧ IsS96 w0 w' g s0_0 r2 r3 ∧ Below w0.heap.size w0 w' ∧ KeepBut w w' g none := by
 have hu30 := Try.underlying30
 have HR1_1 := Aside0.mk hr1_1
 have HC1_1 := Aside0.mk hc1_1
 clear hr1_1 hc1_1
 have HI0 := Aside0.mk hI
 have HK := am (KeepBut.refl w g none)
 have HL := Aside0.mk hB.size
 clear hI
 have HW0 := Aside0.mk hB.size
 have HB := Aside0.mk hB
 clear hB
 have H : (if a1_0 < 1 then (spec_l1Cur_node.j0 k true s0_0 s0_1 s0_2 a1_0 l1_1) else (if a1_0 > 8 then (spec_l1Cur_node.j0 k true s0_0 s0_1 s0_2 a1_0 l1_1) else ((spec_l1Cur_one.f s0_0 s0_1 s0_2 24).bind fun bt102 => (spec_l1Cur_node.j0 k bt102.1 s0_0 bt102.2.1 bt102.2.2 a1_0 l1_1)))) = some (r1, r2, r3) := h
 clear h
 have HU3 := Aside0.mk H
 clear H
 go_enter Try.func142, Try.ntmps142
 go_upto_region 1 with (first | ((with_reducible refine gate_dst (N := 3) rfl ?_); refine box_event ?hg (N := 3) ?hd (cs := #[.int .i64 a1_0, .slice A1_1 l1_1.length c1_1]) (t := 30) ?hr ?_; (case hd => rfl); (case hg => rfl); (case hr => first | (go_simp; done) | (go_simp; rfl)); intro gb101 hg w4 hbox hb; replace HB := am (below_step (Q5 HB HI0) hb); have BK101 := am (hbox); have GW101 := am ((Q51 : w.heap.size ≤ gb101)); have GE101 := am ((Nat.le_trans HW0.out (Q51 : w.heap.size ≤ gb101) : w0.heap.size ≤ gb101)); replace HK := am (KeepBut.trans (Q18 HK) (KeepBut.of_below hb g none) (.inl rfl)); have NB0_101 := am ((Q60 : g ≠ gb101)); have NB101_0 := am ((Q61 : gb101 ≠ g)); replace HI0 := am (IsS96.below (Q15 HI0) hb); clear hb hbox hg))
 (try simp only [Act.put, List.setIfInBounds_toArray, List.set_cons_zero, List.set_cons_succ])
 have H := HU3.out
 clear HU3
 have HC5 := Aside0.mk H
 clear H
 go_upto_region 1 with (fail)
 go_cut [16] (fun v16 wc => ∃ (kq : Nat) (x16_4 : Bool) (x1001_4 : Int) (x1002_4 : Int), v16 = .bool x16_4 ∧ Aside0 (spec_l1Cur_node.j0 kq x16_4 s0_0 x1001_4 x1002_4 a1_0 l1_1 = some (r1, r2, r3)) ∧ Aside0 (kq ≤ k) ∧ Aside0 (wc.heap[gb101]? = some (.cells #[.int .i64 a1_0, (.slice A1_1 l1_1.length c1_1)] 30 (0, 0))) ∧ Aside0 (IsS96 w0 wc g s0_0 x1001_4 x1002_4) ∧ Aside0 (KeepBut w wc g none) ∧ Aside0 (Below w0.heap.size w0 wc))
 case first =>
  have H := HC5.out; clear HC5
  by_cases c6 : a1_0 < 1
  ·rw [if_pos c6] at H
   have c6b0 := decide_eq_true c6; clear c6
   (first | rw [c6b0] | (simp only [i64_w, i32_w]; rw [c6b0]) | skip)
   have H' := Aside0.mk H; clear H; have hnb7 := NB101_0.out; have hnc7 := NB0_101.out; have hcz8_0 : w4.cell? ⟨gb101, 0, none⟩ = some (.int .i64 a1_0) := (blk_cell BK101.out 0).trans rfl; have hcz8_1 : w4.cell? ⟨gb101, 1, none⟩ = some (.slice A1_1 l1_1.length c1_1) := (blk_cell BK101.out 1).trans rfl; have hfz8_0 := blk_frozen BK101.out 0; have hfz8_1 := blk_frozen BK101.out 1
   go_wp2
   go_meet
   case rel => exact ⟨_, (true), (s0_1), (s0_2), Q13, H', ⟨Q58⟩, ⟨Q1 BK101⟩, ⟨Q8 HI0 NB0_101⟩, ⟨Q9 HK GW101⟩, ⟨Q5 HB HI0⟩⟩
  ·rw [if_neg c6] at H
   have c6b0 := decide_eq_false c6; clear c6
   (first | rw [c6b0] | (simp only [i64_w, i32_w]; rw [c6b0]) | skip)
   by_cases c9 : a1_0 > 8
   ·rw [if_pos c9] at H
    have c9b0 : decide (8 < a1_0) = true := decide_eq_true c9; clear c9; have H' := Aside0.mk H; clear H; have hnb10 := NB101_0.out; have hnc10 := NB0_101.out; have hcz11_0 : w4.cell? ⟨gb101, 0, none⟩ = some (.int .i64 a1_0) := (blk_cell BK101.out 0).trans rfl; have hcz11_1 : w4.cell? ⟨gb101, 1, none⟩ = some (.slice A1_1 l1_1.length c1_1) := (blk_cell BK101.out 1).trans rfl; have hfz11_0 := blk_frozen BK101.out 0; have hfz11_1 := blk_frozen BK101.out 1
    go_wp2
    go_meet
    case rel => exact ⟨_, (true), (s0_1), (s0_2), Q13, H', ⟨Q58⟩, ⟨Q1 BK101⟩, ⟨Q8 HI0 NB0_101⟩, ⟨Q9 HK GW101⟩, ⟨Q5 HB HI0⟩⟩
   ·rw [if_neg c9] at H
    have c9b0 : decide (8 < a1_0) = false := decide_eq_false c9; clear c9; replace H := (ob H); obtain ⟨⟨t102, t103, t104⟩, A120, H⟩ := H; (try dsimp only at H); have A12 := Aside0.mk A120; clear A120; have H' := Aside0.mk H; clear H; have hnb13 := NB101_0.out; have hnc13 := NB0_101.out; have hcz14_0 : w4.cell? ⟨gb101, 0, none⟩ = some (.int .i64 a1_0) := (blk_cell BK101.out 0).trans rfl; have hcz14_1 : w4.cell? ⟨gb101, 1, none⟩ = some (.slice A1_1 l1_1.length c1_1) := (blk_cell BK101.out 1).trans rfl; have hfz14_0 := blk_frozen BK101.out 0; have hfz14_1 := blk_frozen BK101.out 1
    go_wp2_with (first | (go_at_call 129; (with_reducible refine (spec_l1Cur_one.calls g s0_0 s0_1 s0_2 24 t102 t103 t104 w0 _ ?side1 ?side2 A12.out).mono ?_); (case side1 => exact (Q8 HI0 NB0_101)); (case side2 => exact (Q5 HB HI0)); rintro e w15 ⟨rfl, hi, hb, hk⟩; replace BK101 := am (KeepBut.blk hk (g' := gb101) (o := .cells #[.int .i64 a1_0, .slice A1_1 l1_1.length c1_1] 30 (0, 0)) (Q1 BK101) NB101_0.out (by simp)); replace HK := am (KeepBut.trans (Q9 HK GW101) hk (.inl rfl)); replace HB := am (hb); replace HI0 := am (hi); (try clear hb); (try clear hb2); (try clear hk); (try clear hi)))
    go_meet
    case rel => exact ⟨_, (t102), (t103), (t104), Q13, H', ⟨Q58⟩, ⟨Q1 BK101⟩, ⟨Q8 HI0 NB0_101⟩, ⟨Q9 HK GW101⟩, ⟨Q5 HB HI0⟩⟩
 case rest =>
  clear HC5
  try clear c1
  try clear p2
  try clear c6
  try clear c6b0
  try clear c7
  try clear c9
  try clear c9b0
  try clear c10
  try clear c13
  try clear c14
  try clear hcz11_0
  try clear hcz11_1
  try clear hcz14_0
  try clear hcz14_1
  try clear hcz8_0
  try clear hcz8_1
  try clear hfz11_0
  try clear hfz11_1
  try clear hfz14_0
  try clear hfz14_1
  try clear hfz8_0
  try clear hfz8_1
  obtain ⟨kq, x16_4, x1001_4, x1002_4, rfl, HA, HJ4, BK101, HI0, HK, HB⟩ := hcut
  cases kq with
  | zero => exact absurd HA.out (by simp [spec_l1Cur_node.j0])
  | succ kj4 =>
   have H := HA.out; clear HA
   simp only [spec_l1Cur_node.j0] at H
   by_cases c16 : x16_4 = true
   ·subst c16
    have H1 : ((spec_l1Cur_among.f s0_0 x1001_4 x1002_4 (([(-1), 0, 8, 4611686018427387904] : List Int))).bind fun bt108 => (some (bt108.1, bt108.2.1, bt108.2.2))) = some (r1, r2, r3) := by rw [if_pos rfl] at H; exact H
    clear H; have H := H1; clear H1; obtain ⟨y105, hy105⟩ : ∃ y_ : List Int, y_ = (([(-1), 0, 8, 4611686018427387904] : List Int)) := ⟨_, rfl⟩; replace H : ((spec_l1Cur_among.f s0_0 x1001_4 x1002_4 y105).bind fun bt108 => (some (bt108.1, bt108.2.1, bt108.2.2))) = some (r1, r2, r3) := RH hy105 H; have Ny105 := Aside0.mk hy105; clear hy105; replace H := (ob H); obtain ⟨⟨t108, t109, t110⟩, A170, H⟩ := H; (try dsimp only at H); have A17 := Aside0.mk A170; clear A170
    simp only [Option.some.injEq, Prod.mk.injEq] at H
    obtain ⟨rfl, rfl, rfl⟩ := H
    go_wp2_with (first | ((with_reducible refine gate_dst (N := 18) rfl ?_); refine Kd.R_lit (Kd.int .i64) _ 3 ?hg (N := 18) ?hd (xs := ([(-1), 0, 8, 4611686018427387904] : List Int)) (inner := [.int .i64 (-1), .int .i64 0, .int .i64 8, .int .i64 4611686018427387904]) (ok := fun _ => True) (okp := fun _ => True) ?hr ?hp (fun _ hk => hk) trivial (Below.refl _ _) (Nat.le_refl _) (by simp) ?_; (case hd => rfl); (case hg => rfl); (case hr => first | (go_simp; done) | (go_simp; rfl)); (case hp => exact (Reps.one (show Kd.M (Kd.int .i64) _ _ _ (-1) [.int .i64 (-1)] from rfl) (Reps.one (show Kd.M (Kd.int .i64) _ _ _ 0 [.int .i64 0] from rfl) (Reps.one (show Kd.M (Kd.int .i64) _ _ _ 8 [.int .i64 8] from rfl) (Reps.one (show Kd.M (Kd.int .i64) _ _ _ 4611686018427387904 [.int .i64 4611686018427387904] from rfl) (Reps.none _ _)))))); intro v106 w18 ho19 hb hg_ hnew_; clear hg_ hnew_; (first | rw [← Ny105.out] at ho19 | (simp only [Int.reduceToNat] at ho19; rw [← Ny105.out] at ho19)); have HO107 := am (Kd.R_lower ho19 (keep_size (w := w) (g := g) (row := none) (Q9 HK GW101))); replace BK101 := am (blk_below (g := gb101) (o := .cells #[.int .i64 a1_0, .slice A1_1 l1_1.length c1_1] 30 (0, 0)) (Q1 BK101) hb); replace HK := am (KeepBut.trans (Q9 HK GW101) (KeepBut.of_below hb g none) (.inl rfl)); replace HB := am (below_step (Q5 HB HI0) hb); replace HI0 := am (IsS96.below (Q8 HI0 NB0_101) hb); clear hb ho19; obtain ⟨Ao20, co20, eo20⟩ := Kd.R_slice HO107.out; subst eo20) | ((with_reducible refine gate_callee (f := 106) rfl ?_); refine goesL_ (some 19) rfl rfl Try.func106 (by kernel_rfl) rfl #[.pointer (some ⟨g, 0, none⟩), .slice Ao20 y105.length co20] rfl Q3 ?_; (with_reducible refine (spec_l1Cur_among.calls g s0_0 x1001_4 x1002_4 _ _ y105 t108 t109 t110 w0 _ ?side1 ?side2 ?side3 ?side4 ?side5 A17.out).mono ?_); (case side1 => exact (Q8 HI0 NB0_101)); (case side2 => exact (Q5 HB HI0)); (case side3 => exact (Q14 HO107)); (case side4 => exact (Kd.R_reads' HO107.out).2.1); (case side5 => exact far_slice (IsS96.own_ne HI0.out HO107.out (by decide))); rintro e w21 ⟨rfl, hi, hb, hk⟩; refine ⟨_, rfl, ?_⟩; replace BK101 := am (KeepBut.blk hk (g' := gb101) (o := .cells #[.int .i64 a1_0, .slice A1_1 l1_1.length c1_1] 30 (0, 0)) (Q1 BK101) NB101_0.out (by simp)); replace HO107 := am (Kd.R_mono (Kd.R_keep (IsS96.apart (show IsS96 w0 _ g s0_0 x1001_4 x1002_4 from Q8 HI0 NB0_101) (Q2 HO107) (by decide)) hk (fun _ h => h.2)) (fun _ h => h.1)); replace HK := am (KeepBut.trans (Q9 HK GW101) hk (.inl rfl)); replace HB := am (hb); replace HI0 := am (hi); (try clear hb); (try clear hb2); (try clear hk); (try clear hi)))
    go_ret
    exact ⟨Q11, Q8 HI0 NB0_101, Q5 HB HI0, Q9 HK GW101⟩
   ·replace c16 := Bool.eq_false_iff.mpr c16
    subst c16; have H1 : ((spec_l1Cur_pick.f s0_0 x1001_4 x1002_4 a1_0).bind fun bt111 => (some (bt111.1, bt111.2.1, bt111.2.2))) = some (r1, r2, r3) := by rw [if_neg (show ¬ (false = true) by decide)] at H; exact H
    clear H; have H := H1; clear H1; replace H := (ob H); obtain ⟨⟨t111, t112, t113⟩, A220, H⟩ := H; (try dsimp only at H); have A22 := Aside0.mk A220; clear A220
    simp only [Option.some.injEq, Prod.mk.injEq] at H
    obtain ⟨rfl, rfl, rfl⟩ := H; have hnb23 := NB101_0.out; have hnc23 := NB0_101.out; have hcz24_0 : wc.cell? ⟨gb101, 0, none⟩ = some (.int .i64 a1_0) := (blk_cell BK101.out 0).trans rfl; have hcz24_1 : wc.cell? ⟨gb101, 1, none⟩ = some (.slice A1_1 l1_1.length c1_1) := (blk_cell BK101.out 1).trans rfl; have hfz24_0 := blk_frozen BK101.out 0; have hfz24_1 := blk_frozen BK101.out 1
    go_wp2_with (first | ((with_reducible refine gate_callee (f := 141) rfl ?_); refine goesL_ (some 23) rfl rfl Try.func141 (by kernel_rfl) rfl #[.pointer (some ⟨g, 0, none⟩), .int .i64 a1_0] rfl Q3 ?_; (with_reducible refine (spec_l1Cur_pick.calls g s0_0 x1001_4 x1002_4 a1_0 t111 t112 t113 w0 _ ?side1 ?side2 A22.out).mono ?_); (case side1 => exact (Q8 HI0 NB0_101)); (case side2 => exact (Q5 HB HI0)); rintro e w25 ⟨rfl, hi, hb, hk⟩; refine ⟨_, rfl, ?_⟩; replace BK101 := am (KeepBut.blk hk (g' := gb101) (o := .cells #[.int .i64 a1_0, .slice A1_1 l1_1.length c1_1] 30 (0, 0)) (Q1 BK101) NB101_0.out (by simp)); replace HK := am (KeepBut.trans (Q9 HK GW101) hk (.inl rfl)); replace HB := am (hb); replace HI0 := am (hi); (try clear hb); (try clear hb2); (try clear hk); (try clear hi)))
    go_ret
    exact ⟨Q11, Q8 HI0 NB0_101, Q5 HB HI0, Q9 HK GW101⟩
/-! ### spec_DrawCoversOf: function 53 -/
def spec_DrawCoversOf.st (k : Nat) (s0_0 : List Int) (s0_1 : Int) (s0_2 : Int) : Option (Int × (List (S71)) × Int × Int × Int) := (spec_l1Cur_field3.f k s0_0 s0_1 s0_2).bind fun bt102 => ((spec_l1Cur_node.f k s0_0 bt102.2.2.1 bt102.2.2.2 bt102.1 bt102.2.1).bind fun bt109 => (some (bt102.1, bt102.2.1, bt109.1, bt109.2.1, bt109.2.2)))
theorem spec_DrawCoversOf.stmono : ∀ a0 a1 a2 k, LeO (spec_DrawCoversOf.st k a0 a1 a2) (spec_DrawCoversOf.st (k + 1) a0 a1 a2) := by
 intro a0 a1 a2 k
 unfold spec_DrawCoversOf.st
 repeat' first | (with_reducible first | exact spec_l1Cur_field3.mono _ _ _ _ | exact spec_l1Cur_node.mono _ _ _ _ _ _ | exact LeO.refl _ | exact LeO.none _ | refine LeO.ite ?_ ?_ | refine LeO.bind ?_ (fun _ => ?_))
set_option maxHeartbeats 8000000 in
set_option maxRecDepth 100000 in
theorem spec_DrawCoversOf.callsM (k : Nat) (A0 : Option Addr) (c0 : Nat) (s0_0 : List Int) (r1 : Int) (r2 : List (S71)) (r3 : Int) (r4 : Int) (r5 : Int) (w0 : World) (hr0 : Kd.C (Kd.int .u8) w0 A0 s0_0.length s0_0) (hc0 : s0_0.length ≤ c0) (h : spec_DrawCoversOf.st k s0_0 0 0 = some (r1, r2, r3, r4, r5)) :
  Calls Try.prog 53 #[.slice A0 s0_0.length c0] w0 fun e w' => ∃ (g_ : Nat) (w_ : World), w0.heap.size ≤ w_.heap.size ∧ (∃ v1_ : Value, e = .returned (.tuple #[.agg #[.int .i64 r1, v1_], .int .i64 r3]) ∧ Kd.R k71 71 w' w_.heap.size (fun _ => True) v1_ r2 ∧ IsS96 w0 w' g_ s0_0 r4 r5 ∧ Below w0.heap.size w0 w' ∧ KeepBut w_ w' g_ none) := by
 have HR0 := Aside0.mk hr0
 have HC0 := Aside0.mk hc0
 clear hr0 hc0
 have HB := am (Below.refl w0.heap.size w0)
 obtain ⟨w, hw0_⟩ : ∃ w : World, w = w0 := ⟨_, rfl⟩
 have HW0 := am (show w0.heap.size ≤ w.heap.size by rw [hw0_]; exact Nat.le_refl _)
 have HL := HW0
 replace hw0_ := Aside0.mk hw0_
 have H : ((spec_l1Cur_field3.f k s0_0 0 0).bind fun bt102 => ((spec_l1Cur_node.f k s0_0 bt102.2.2.1 bt102.2.2.2 bt102.1 bt102.2.1).bind fun bt109 => (some (bt102.1, bt102.2.1, bt109.1, bt109.2.1, bt109.2.2)))) = some (r1, r2, r3, r4, r5) := h
 clear h
 replace H := (ob H)
 obtain ⟨⟨t102, t103, t106, t107⟩, A20, H⟩ := H
 (try dsimp only at H)
 have A2 := Aside0.mk A20
 clear A20
 replace H := (ob H)
 obtain ⟨⟨t109, t110, t111⟩, A30, H⟩ := H
 (try dsimp only at H)
 have A3 := Aside0.mk A30
 clear A30
 simp only [Option.some.injEq, Prod.mk.injEq] at H
 obtain ⟨rfl, rfl, rfl, rfl, rfl⟩ := H
 go_enter Try.func53, Try.ntmps53
 try go_wp2_with (first | ((with_reducible refine gate_dst (N := 8) rfl ?_); refine box_event ?hg (N := 8) ?hd (cs := #[.slice A0 s0_0.length c0, .int .i64 0, .int .u64 0]) (t := 96) ?hr ?_; (case hd => rfl); (case hg => rfl); (case hr => first | (go_simp; done) | (go_simp; rfl)); intro g hg wS_ hbox hb; have HI0 := am (show IsS96 w0 wS_ g s0_0 0 0 from ⟨A0, c0, hbox, Q25, HR0.out⟩); replace HB := am (below_step (Q0 HB) hb); have NB0_101 := am (Q47 : g ≠ gb101); have NB101_0 := am (Q46 : gb101 ≠ g); replace BK101 := am (blk_below (g := gb101) (o := .cells #[.int .i64 0, .slice none 0 0] 30 (0, 0)) (Q1 BK101) hb); clear hb hbox hg; have HK := am (show KeepBut w wS_ g none from by rw [hw0_.out]; exact KeepBut.of_below HB.out g none)) | ((with_reducible refine gate_dst (N := 2) rfl ?_); refine box_event ?hg (N := 2) ?hd (cs := #[.int .i64 0, .slice none 0 0]) (t := 30) ?hr ?_; (case hd => rfl); (case hg => rfl); (case hr => first | (go_simp; done) | (go_simp; rfl)); intro gb101 hg w4 hbox hb; have n2_ := am (below_step (Q0 HB) hb); have n3_ := Aside0.mk hbox; have n4_ := am ((by rw [hg, hw0_.out]; exact (below_size (Q0 HB))) : w.heap.size ≤ gb101); have n5_ := am (Q25 : w0.heap.size ≤ gb101); replace HB := n2_; have BK101 := n3_; have GW101 := n4_; have GE101 := n5_; clear n2_ n3_ n4_ n5_; clear hb hbox hg) | ((with_reducible refine gate_callee (f := 139) rfl ?_); refine goesL_ (some 10) rfl rfl Try.func139 (by kernel_rfl) rfl #[.pointer (some ⟨g, 0, none⟩)] rfl Q3 ?_; (with_reducible refine (spec_l1Cur_field3.calls k g s0_0 0 0 t102 t103 t106 t107 w0 _ ?side1 ?side2 A2.out).mono ?_); (case side1 => exact (Q8 HI0 NB0_101)); (case side2 => exact (Q5 HB HI0)); rintro e w5 ⟨v104, rfl, ho0, hi, hb, hk⟩; refine ⟨_, rfl, ?_⟩; replace BK101 := am (KeepBut.blk hk (g' := gb101) (o := .cells #[.int .i64 0, .slice none 0 0] 30 (0, 0)) (Q1 BK101) NB101_0.out (by simp)); have HO105 := am (Kd.R_lower ho0 (keep_size (w := w) (g := g) (row := none) (Q9 HK GW101))); replace HK := am (KeepBut.trans (Q9 HK GW101) hk (.inl rfl)); replace HB := am (hb); replace HI0 := am (hi); (try clear hb); (try clear hb2); (try clear hk); (try clear hi); (try clear ho0)) | ((with_reducible refine gate_dst (N := 5) rfl ?_); refine box_event ?hg (N := 5) ?hd (cs := #[.int .i64 0, .slice none 0 0]) (t := 30) ?hr ?_; (case hd => rfl); (case hg => rfl); (case hr => first | (go_simp; done) | (go_simp; rfl)); intro gb108 hg w6 hbox hb; replace HO105 := am (Kd.R_below (Q2 HO105) hb); replace HB := am (below_step (Q5 HB HI0) hb); have BK108 := am (hbox); have GW108 := am ((Q64 : w.heap.size ≤ gb108)); have GE108 := am ((Nat.le_trans HW0.out (Q64 : w.heap.size ≤ gb108) : w0.heap.size ≤ gb108)); replace HK := am (KeepBut.trans (Q9 HK GW101) (KeepBut.of_below hb g none) (.inl rfl)); have NB101_108 := am ((Q46 : gb101 ≠ gb108)); have NB108_101 := am ((Q47 : gb108 ≠ gb101)); replace BK101 := am (blk_below (g := gb101) (o := .cells #[.int .i64 0, .slice none 0 0] 30 (0, 0)) (Q1 BK101) hb); have NB0_108 := am ((by rw [hg]; exact Nat.ne_of_lt (IsS96.lt (show IsS96 w0 _ g s0_0 t106 t107 from Q8 HI0 NB0_101)) : g ≠ gb108)); have NB108_0 := am ((by rw [hg]; exact Nat.ne_of_gt (IsS96.lt (show IsS96 w0 _ g s0_0 t106 t107 from Q8 HI0 NB0_101)) : gb108 ≠ g)); replace HI0 := am (IsS96.below (Q8 HI0 NB0_101) hb); clear hb hbox hg; have hnb7 := NB108_101.out; have hnc7 := NB101_108.out; have hnb8 := NB108_0.out; have hnc8 := NB0_108.out; have hcz9_0 : w6.cell? ⟨gb108, 0, none⟩ = some (.int .i64 0) := (blk_cell BK108.out 0).trans rfl; have hcz9_1 : w6.cell? ⟨gb108, 1, none⟩ = some (.slice none 0 0) := (blk_cell BK108.out 1).trans rfl; have hfz9_0 := blk_frozen BK108.out 0; have hfz9_1 := blk_frozen BK108.out 1; obtain ⟨Ao10, co10, eo10⟩ := Kd.R_slice HO105.out; subst eo10))
 have n0_ : Aside0 (Kd.R k71 71 ((w6.setCell ⟨gb108, 0, none⟩ (.int .i64 t102)).setCell ⟨gb108, 1, none⟩ (.slice Ao10 t103.length co10)) w.heap.size (fun _ => True) (.slice Ao10 t103.length co10) t103) := ⟨by (with_reducible repeat (first | apply Kd.R_alloc | apply Kd.R_drewN | apply Kd.R_drew)); exact Kd.R_mono (Kd.R_far (p := ⟨gb108, 1, none⟩) (Kd.R_far (p := ⟨gb108, 0, none⟩) (Kd.R_types HO105.out BK108.out (by decide)) (fun _ hk => hk.2) (.int .i64 t102)) (fun _ hk => hk.2) (.slice Ao10 t103.length co10)) (fun _ hk => trivial)⟩
 have n1_ : Aside0 (((w6.setCell ⟨gb108, 0, none⟩ (.int .i64 t102)).setCell ⟨gb108, 1, none⟩ (.slice Ao10 t103.length co10)).heap[gb101]? = some (.cells #[.int .i64 0, .slice none 0 0] 30 (0, 0))) := ⟨Q12 NB101_108 BK101⟩
 have n2_ : Aside0 (((w6.setCell ⟨gb108, 0, none⟩ (.int .i64 t102)).setCell ⟨gb108, 1, none⟩ (.slice Ao10 t103.length co10)).heap[gb108]? = some (.cells #[.int .i64 t102, .slice Ao10 t103.length co10] 30 (0, 0))) := ⟨Q27 BK108⟩
 have n3_ : Aside0 (IsS96 w0 ((w6.setCell ⟨gb108, 0, none⟩ (.int .i64 t102)).setCell ⟨gb108, 1, none⟩ (.slice Ao10 t103.length co10)) g s0_0 t106 t107) := ⟨Q4 HI0 NB0_101 NB0_108⟩
 have n4_ : Aside0 (KeepBut w ((w6.setCell ⟨gb108, 0, none⟩ (.int .i64 t102)).setCell ⟨gb108, 1, none⟩ (.slice Ao10 t103.length co10)) g none) := ⟨Q6 HK GW101 GW108⟩
 have n5_ : Aside0 (Below w0.heap.size w0 ((w6.setCell ⟨gb108, 0, none⟩ (.int .i64 t102)).setCell ⟨gb108, 1, none⟩ (.slice Ao10 t103.length co10))) := ⟨Q17 HB HI0 GE108⟩
 (try clear HO105)
 (try clear BK101)
 (try clear BK108)
 (try clear HI0)
 (try clear HK)
 (try clear HB)
 generalize ((w6.setCell ⟨gb108, 0, none⟩ (.int .i64 t102)).setCell ⟨gb108, 1, none⟩ (.slice Ao10 t103.length co10)) = w11 at n0_ n1_ n2_ n3_ n4_ n5_ ⊢
 have HO105 := n0_
 have BK101 := n1_
 have BK108 := n2_
 have HI0 := n3_
 have HK := n4_
 have HB := n5_
 clear n0_ n1_ n2_ n3_ n4_ n5_
 replace HO105 := am (Kd.R_drew HO105.out)
 replace BK101 := am (blk_drew BK101.out)
 replace BK108 := am (blk_drew BK108.out)
 replace HI0 := am (IsS96.drew HI0.out)
 replace HK := am (keep_drew HK.out)
 replace HB := am (below_drew1 HB.out)
 refine start_ (n := 6) (S := fun w' => w'.cell? ⟨gb108, 0, none⟩ = some (.int .i64 t102) ∧ w'.cell? ⟨gb108, 1, none⟩ = some (.slice Ao10 t103.length co10)) (ds := []) #[false, false, false, false, false, false] (by kernel_rfl) rfl rfl ⟨(blk_cell BK108.out 0).trans rfl, (blk_cell BK108.out 1).trans rfl⟩ (fun hHeld => ?_)
 generalize w11.drew = w12 at HO105 BK101 BK108 HI0 HK HB hHeld ⊢
 refine pure_ (i := 1) (N := some 12) (v := ?_) (a' := ?_) #[false, true, false, false, false, false] rfl rfl (by kernel_rfl) (fun _ _ _ h => h) (Or.inl ⟨by rfl, ?_⟩) ?_ ?_
 rotate_left
 ·intro w'
  go_simp
  with_reducible rfl
 rotate_left
 ·simp only [Act.put, List.setIfInBounds_toArray, List.set_cons_zero, List.set_cons_succ, i64_w, i32_w]
  rfl
 refine take_ (i := 0) (N := some 11) (v := ?_) (a' := ?_) #[true, true, false, false, false, false] rfl rfl (by kernel_rfl) (fun _ _ _ h => h) (Or.inl ⟨by rfl, ?_⟩) hHeld ?_ ?_
 rotate_left
 ·rintro w' ⟨s0, s1⟩
  go_simp
  with_reducible rfl
 rotate_left
 ·simp only [Act.put, List.setIfInBounds_toArray, List.set_cons_zero, List.set_cons_succ, i64_w, i32_w]
  rfl
 refine take_ (i := 2) (N := some 13) (v := ?_) (a' := ?_) #[true, true, true, false, false, false] rfl rfl (by kernel_rfl) (fun _ _ _ h => h) (Or.inl ⟨by rfl, ?_⟩) hHeld ?_ ?_
 rotate_left
 ·rintro w' ⟨s0, s1⟩
  go_simp
  with_reducible rfl
 rotate_left
 ·simp only [Act.put, List.setIfInBounds_toArray, List.set_cons_zero, List.set_cons_succ, i64_w, i32_w]
  rfl
 refine one_ (i := 3) (N := some 14) #[true, true, true, true, false, false] rfl rfl (by kernel_rfl) (by decide) (fun K hK => ?_)
 refine goes_ Try.func142 (by kernel_rfl) rfl #[.pointer (some ⟨g, 0, none⟩), .agg #[.int .i64 t102, .slice Ao10 t103.length co10]] (by rfl) rfl rfl Q3 ?_
 with_reducible refine (spec_l1Cur_node.calls k g s0_0 t106 t107 t102 _ _ t103 t109 t110 t111 w0 _ ?side1 ?side2 ?side3 ?side4 A3.out).mono ?_
 (case side1 => exact (Q4 HI0 NB0_101 NB0_108))
 (case side2 => exact (Q5 HB HI0))
 (case side3 => exact Kd.C_foot_own (IsS96.apart (show IsS96 w0 _ g s0_0 t106 t107 from Q4 HI0 NB0_101 NB0_108) (Q2 HO105) (by decide)) (fun _ h_ => h_.2))
 (case side4 => exact (Kd.R_reads' HO105.out).2.1)
 rintro e w13 ⟨rfl, hi, hb, hk⟩
 refine ⟨_, rfl, ?_⟩
 replace BK101 := am (KeepBut.blk hk (g' := gb101) (o := .cells #[.int .i64 0, .slice none 0 0] 30 (0, 0)) (Q1 BK101) NB101_0.out (by simp))
 replace HO105 := am (Kd.R_mono (Kd.R_keep (IsS96.apart (show IsS96 w0 _ g s0_0 t106 t107 from Q4 HI0 NB0_101 NB0_108) (Q2 HO105) (by decide)) hk (fun _ h => h.2)) (fun _ h => h.1))
 replace BK108 := am (KeepBut.blk hk (g' := gb108) (o := .cells #[.int .i64 t102, .slice Ao10 t103.length co10] 30 (0, 0)) (Q1 BK108) NB108_0.out (by simp))
 replace HK := am (KeepBut.trans (Q6 HK GW101 GW108) hk (.inl rfl))
 replace HB := am (hb)
 replace HI0 := am (hi)
 (try clear hb)
 (try clear hb2)
 (try clear hk)
 (try clear hi)
 refine hK.out _ _ ⟨(blk_cell BK108.out 0).trans rfl, (blk_cell BK108.out 1).trans rfl⟩ (fun hHeld => ?_)
 clear hK K
 refine norm_ (a' := ?_) ?_ ?_
 rotate_left
 ·show Act.put _ (some 14) _ = _
  simp only [Act.put, List.setIfInBounds_toArray, List.set_cons_zero, List.set_cons_succ, i64_w, i32_w]
  rfl
 refine one_ (i := 4) (N := none) #[true, true, true, true, true, false] rfl rfl (by kernel_rfl) (by decide) (fun K hK => ?_)
 have hs14 : w13.cell? ⟨gb101, 0, none⟩ = some (.int .i64 0) := (blk_cell BK101.out 0).trans rfl
 have hfs14 := blk_frozen BK101.out 0
 have hns14_1 := NB108_101.out
 have hms14_1 := NB101_108.out
 have hs15 : w13.cell? ⟨gb101, 1, none⟩ = some (.slice none 0 0) := (blk_cell BK101.out 1).trans rfl
 have hfs15 := blk_frozen BK101.out 1
 have hns15_1 := NB108_101.out
 have hms15_1 := NB101_108.out
 refine skip_ (w1 := ?_) (by rfl) rfl ?_ ?_
 rotate_left
 ·go_simp
  rfl
 refine hK.out _ _ ⟨((cell_far (p := ⟨gb101, _, none⟩) NB108_101.out _).trans (((cell_far (p := ⟨gb101, _, none⟩) NB108_101.out _).trans (hHeld.1)))), ((cell_far (p := ⟨gb101, _, none⟩) NB108_101.out _).trans (((cell_far (p := ⟨gb101, _, none⟩) NB108_101.out _).trans (hHeld.2))))⟩ (fun hHeld => ?_)
 clear hK K
 refine pure_ (i := 5) (N := some 3) (v := ?_) (a' := ?_) #[true, true, true, true, true, true] rfl rfl (by kernel_rfl) (fun _ _ _ h => h) (Or.inl ⟨by rfl, ?_⟩) ?_ ?_
 rotate_left
 ·intro w'
  go_simp
  with_reducible rfl
 rotate_left
 ·simp only [Act.put, List.setIfInBounds_toArray, List.set_cons_zero, List.set_cons_succ, i64_w, i32_w]
  rfl
 refine done_ (by kernel_rfl) ?_
 try go_wp2
 refine bodyPost_ret (results_ct rfl _ _ gb101 30 #[.int .i64 t102, .slice Ao10 t103.length co10] (0, 0) _ rfl (Q27 BK101) Try.underlying30 rfl (by kernel_rfl)) rfl ?_
 exact ⟨g, w, HL.out, ⟨_, Q11, by (with_reducible repeat (first | apply Kd.R_alloc | apply Kd.R_drewN | apply Kd.R_drew)); exact Kd.R_mono (Kd.R_far (p := ⟨gb101, 1, none⟩) (Kd.R_far (p := ⟨gb101, 0, none⟩) (Kd.R_types HO105.out BK101.out (by decide)) (fun _ hk => hk.2) (.int .i64 t102)) (fun _ hk => hk.2) (.slice Ao10 t103.length co10)) (fun _ hk => trivial), Q4 HI0 NB0_101 NB0_108, Q17 HB HI0 GE101, Q6 HK GW101 GW108⟩⟩
/-- The same, with the state that it makes itself. -/
def spec_DrawCoversOf.f (k : Nat) (a0 : List Int) : Option (Int × List (S71) × Int) := (spec_DrawCoversOf.st k a0 0 0).bind fun b_ => some (b_.1, b_.2.1, b_.2.2.1)
theorem spec_DrawCoversOf.mono : ∀ a0 k, LeO (spec_DrawCoversOf.f k a0) (spec_DrawCoversOf.f (k + 1) a0) := fun a0 k => LeO.bind (spec_DrawCoversOf.stmono a0 0 0 k) (fun _ => LeO.refl _)
theorem spec_DrawCoversOf.calls (k : Nat) (A0 : Option Addr) (c0 : Nat) (a0 : List Int) (r1 : Int) (r2 : List (S71)) (r3 : Int) (w : World) (hr0 : Kd.C (Kd.int .u8) w A0 a0.length a0) (hc0 : a0.length ≤ c0) (h : spec_DrawCoversOf.f k a0 = some (r1, r2, r3)) :
  Calls Try.prog 53 #[.slice A0 a0.length c0] w fun e w' => ∃ v1_ : Value, e = .returned (.tuple #[.agg #[.int .i64 r1, v1_], .int .i64 r3]) ∧ Kd.R k71 71 w' w.heap.size (fun _ => True) v1_ r2 ∧ Below w.heap.size w w' := by
 obtain ⟨⟨r0_, r1_, r2_, r3_, r4_⟩, h1_, h2_⟩ := Option.bind_eq_some_iff.mp h
 simp only [Option.some.injEq, Prod.mk.injEq] at h2_
 obtain ⟨rfl, rfl, rfl⟩ := h2_
 refine (spec_DrawCoversOf.callsM k A0 c0 a0 _ _ _ _ _ w hr0 hc0 h1_).mono ?_
 rintro e w' ⟨g_, w_, hL_, ⟨v1_, ⟨h0_, h1_, _, hB_, _⟩⟩⟩
 exact ⟨v1_, h0_, Kd.R_lower h1_ hL_, hB_⟩
/-! ### spec_l1Cur_nodes: function 140 -/
def spec_l1Cur_nodes.f (k : Nat) (s0_0 : List Int) (s0_1 : Int) (s0_2 : Int) (a1_0 : Int) (l1_1 : List (S71)) : Option (List Int × Int × Int) := (spec_l1Least.f a1_0 8).bind fun t102 => ((spec_l1Most.f t102 0).bind fun t103 => ((spec_l1Cur_pick.f s0_0 s0_1 s0_2 256).bind fun bt104 => ((spec_l2Bits.f k t103 bt104.1).bind fun t107 => ((spec_l1Cur_one.f s0_0 bt104.2.1 bt104.2.2 20).bind fun bt110 => (if bt110.1 = true then ((spec_l1Cur_among.f s0_0 bt110.2.1 bt110.2.2 (([(-1), 0, 8] : List Int))).bind fun bt116 => (if t107.length < 17592186044416 then (some ((t107 ++ [bt116.1]), bt116.2.1, bt116.2.2)) else (none))) else (some (t107, bt110.2.1, bt110.2.2)))))))
theorem spec_l1Cur_nodes.mono : ∀ a0 a1 a2 a3 a4 k, LeO (spec_l1Cur_nodes.f k a0 a1 a2 a3 a4) (spec_l1Cur_nodes.f (k + 1) a0 a1 a2 a3 a4) := by
 intro a0 a1 a2 a3 a4 k
 unfold spec_l1Cur_nodes.f
 repeat' first | (with_reducible first | exact spec_l2Bits.mono _ _ _ | exact LeO.refl _ | exact LeO.none _ | refine LeO.ite ?_ ?_ | refine LeO.bind ?_ (fun _ => ?_))
set_option maxHeartbeats 8000000 in
set_option maxRecDepth 100000 in
theorem spec_l1Cur_nodes.calls (k : Nat) (g : Nat) (s0_0 : List Int) (s0_1 : Int) (s0_2 : Int) (a1_0 : Int) (A1_1 : Option Addr) (c1_1 : Nat) (l1_1 : List (S71)) (r1 : List Int) (r2 : Int) (r3 : Int) (w0 w : World) (hI : IsS96 w0 w g s0_0 s0_1 s0_2) (hB : Below w0.heap.size w0 w) (hr1_1 : ∀ W_, KeepBut w W_ g none → Kd.C k71 W_ A1_1 l1_1.length l1_1) (hc1_1 : l1_1.length ≤ c1_1) (h : spec_l1Cur_nodes.f k s0_0 s0_1 s0_2 a1_0 l1_1 = some (r1, r2, r3)) :
  Calls Try.prog 140 #[.pointer (some ⟨g, 0, none⟩), .agg #[.int .i64 a1_0, .slice A1_1 l1_1.length c1_1]] w fun e w' => ∃ v0_ : Value, e = .returned (v0_) ∧ Kd.R (Kd.int .i64) 3 w' w.heap.size (fun _ => True) v0_ r1 ∧ IsS96 w0 w' g s0_0 r2 r3 ∧ Below w0.heap.size w0 w' ∧ KeepBut w w' g none := by
 have hu30 := Try.underlying30
 have HR1_1 := Aside0.mk hr1_1
 have HC1_1 := Aside0.mk hc1_1
 clear hr1_1 hc1_1
 have HI0 := Aside0.mk hI
 have HK := am (KeepBut.refl w g none)
 have HL := Aside0.mk hB.size
 clear hI
 have HW0 := Aside0.mk hB.size
 have HB := Aside0.mk hB
 clear hB
 have H : ((spec_l1Least.f a1_0 8).bind fun t102 => ((spec_l1Most.f t102 0).bind fun t103 => ((spec_l1Cur_pick.f s0_0 s0_1 s0_2 256).bind fun bt104 => ((spec_l2Bits.f k t103 bt104.1).bind fun t107 => ((spec_l1Cur_one.f s0_0 bt104.2.1 bt104.2.2 20).bind fun bt110 => (if bt110.1 = true then ((spec_l1Cur_among.f s0_0 bt110.2.1 bt110.2.2 (([(-1), 0, 8] : List Int))).bind fun bt116 => (if t107.length < 17592186044416 then (some ((t107 ++ [bt116.1]), bt116.2.1, bt116.2.2)) else (none))) else (some (t107, bt110.2.1, bt110.2.2)))))))) = some (r1, r2, r3) := h
 clear h
 replace H := (ob H)
 obtain ⟨t102, A30, H⟩ := H
 (try dsimp only at H)
 have A3 := Aside0.mk A30
 clear A30
 replace H := (ob H)
 obtain ⟨t103, A40, H⟩ := H
 (try dsimp only at H)
 have A4 := Aside0.mk A40
 clear A40
 replace H := (ob H)
 obtain ⟨⟨t104, t105, t106⟩, A50, H⟩ := H
 (try dsimp only at H)
 have A5 := Aside0.mk A50
 clear A50
 replace H := (ob H)
 obtain ⟨t107, A60, H⟩ := H
 (try dsimp only at H)
 have A6 := Aside0.mk A60
 clear A60
 replace H := (ob H)
 obtain ⟨⟨t110, t111, t112⟩, A70, H⟩ := H
 (try dsimp only at H)
 have A7 := Aside0.mk A70
 clear A70
 have HU8 := Aside0.mk H
 clear H
 go_enter Try.func140, Try.ntmps140
 go_upto_if 14 with (first | ((with_reducible refine gate_dst (N := 3) rfl ?_); refine box_event ?hg (N := 3) ?hd (cs := #[.int .i64 a1_0, .slice A1_1 l1_1.length c1_1]) (t := 30) ?hr ?_; (case hd => rfl); (case hg => rfl); (case hr => first | (go_simp; done) | (go_simp; rfl)); intro gb101 hg w9 hbox hb; replace HB := am (below_step (Q5 HB HI0) hb); have BK101 := am (hbox); have GW101 := am ((Q51 : w.heap.size ≤ gb101)); have GE101 := am ((Nat.le_trans HW0.out (Q51 : w.heap.size ≤ gb101) : w0.heap.size ≤ gb101)); replace HK := am (KeepBut.trans (Q18 HK) (KeepBut.of_below hb g none) (.inl rfl)); have NB0_101 := am ((Q60 : g ≠ gb101)); have NB101_0 := am ((Q61 : gb101 ≠ g)); replace HI0 := am (IsS96.below (Q15 HI0) hb); clear hb hbox hg; have hnb10 := NB101_0.out; have hnc10 := NB0_101.out; have hcz11_0 : w9.cell? ⟨gb101, 0, none⟩ = some (.int .i64 a1_0) := (blk_cell BK101.out 0).trans rfl; have hcz11_1 : w9.cell? ⟨gb101, 1, none⟩ = some (.slice A1_1 l1_1.length c1_1) := (blk_cell BK101.out 1).trans rfl; have hfz11_0 := blk_frozen BK101.out 0; have hfz11_1 := blk_frozen BK101.out 1) | ((with_reducible refine gate_callee (f := 186) rfl ?_); refine goesL_ (some 8) rfl rfl Try.func186 (by kernel_rfl) rfl #[.int .i64 a1_0, .int .i64 8] rfl Q3 ?_; (with_reducible refine (spec_l1Least.calls a1_0 8 t102 _ A3.out).mono ?_); rintro e w' ⟨rfl, ⟨nd, rfl⟩⟩; refine ⟨_, rfl, ?_⟩) | ((with_reducible refine gate_callee (f := 187) rfl ?_); refine goesL_ (some 9) rfl rfl Try.func187 (by kernel_rfl) rfl #[.int .i64 t102, .int .i64 0] rfl Q3 ?_; (with_reducible refine (spec_l1Most.calls t102 0 t103 _ A4.out).mono ?_); rintro e w' ⟨rfl, ⟨nd, rfl⟩⟩; refine ⟨_, rfl, ?_⟩) | ((with_reducible refine gate_callee (f := 141) rfl ?_); refine goesL_ (some 11) rfl rfl Try.func141 (by kernel_rfl) rfl #[.pointer (some ⟨g, 0, none⟩), .int .i64 256] rfl Q3 ?_; (with_reducible refine (spec_l1Cur_pick.calls g s0_0 s0_1 s0_2 256 t104 t105 t106 w0 _ ?side1 ?side2 A5.out).mono ?_); (case side1 => exact (Q8 HI0 NB0_101)); (case side2 => exact (Q5 HB HI0)); rintro e w12 ⟨rfl, hi, hb, hk⟩; refine ⟨_, rfl, ?_⟩; replace BK101 := am (KeepBut.blk hk (g' := gb101) (o := .cells #[.int .i64 a1_0, .slice A1_1 l1_1.length c1_1] 30 (0, 0)) (Q1 BK101) NB101_0.out (by simp)); replace HK := am (KeepBut.trans (Q9 HK GW101) hk (.inl rfl)); replace HB := am (hb); replace HI0 := am (hi); (try clear hb); (try clear hb2); (try clear hk); (try clear hi)) | ((with_reducible refine gate_callee (f := 192) rfl ?_); refine goesL_ (some 12) rfl rfl Try.func192 (by kernel_rfl) rfl #[.int .i64 t103, .int .i64 t104] rfl Q3 ?_; (with_reducible refine (spec_l2Bits.calls k t103 t104 t107 _ A6.out).mono ?_); rintro e w13 ⟨v108, rfl, ho0, hb⟩; refine ⟨_, rfl, ?_⟩; have HO109 := am (Kd.R_lower ho0 (keep_size (w := w) (g := g) (row := none) (Q9 HK GW101))); replace BK101 := am (blk_below (g := gb101) (o := .cells #[.int .i64 a1_0, .slice A1_1 l1_1.length c1_1] 30 (0, 0)) (Q1 BK101) hb); replace HK := am (KeepBut.trans (Q9 HK GW101) (KeepBut.of_below hb g none) (.inl rfl)); replace HB := am (below_step (Q5 HB HI0) hb); replace HI0 := am (IsS96.below (Q8 HI0 NB0_101) hb); (try clear hb); (try clear hb2); (try clear hk); (try clear hi); (try clear ho0)) | ((with_reducible refine gate_callee (f := 129) rfl ?_); refine goesL_ (some 14) rfl rfl Try.func129 (by kernel_rfl) rfl #[.pointer (some ⟨g, 0, none⟩), .int .i64 20] rfl Q3 ?_; (with_reducible refine (spec_l1Cur_one.calls g s0_0 t105 t106 20 t110 t111 t112 w0 _ ?side1 ?side2 A7.out).mono ?_); (case side1 => exact (Q8 HI0 NB0_101)); (case side2 => exact (Q5 HB HI0)); rintro e w14 ⟨rfl, hi, hb, hk⟩; refine ⟨_, rfl, ?_⟩; replace BK101 := am (KeepBut.blk hk (g' := gb101) (o := .cells #[.int .i64 a1_0, .slice A1_1 l1_1.length c1_1] 30 (0, 0)) (Q1 BK101) NB101_0.out (by simp)); replace HO109 := am (Kd.R_mono (Kd.R_keep (IsS96.apart (show IsS96 w0 _ g s0_0 t105 t106 from Q8 HI0 NB0_101) (Q2 HO109) (by decide)) hk (fun _ h => h.2)) (fun _ h => h.1)); replace HK := am (KeepBut.trans (Q9 HK GW101) hk (.inl rfl)); replace HB := am (hb); replace HI0 := am (hi); (try clear hb); (try clear hb2); (try clear hk); (try clear hi)))
 (try simp only [Act.put, List.setIfInBounds_toArray, List.set_cons_zero, List.set_cons_succ])
 have H := HU8.out
 clear HU8
 by_cases c15 : t110 = true
 ·subst c15
  have H1 : ((spec_l1Cur_among.f s0_0 t111 t112 (([(-1), 0, 8] : List Int))).bind fun bt116 => (if t107.length < 17592186044416 then (some ((t107 ++ [bt116.1]), bt116.2.1, bt116.2.2)) else (none))) = some (r1, r2, r3) := by rw [if_pos rfl] at H; exact H
  clear H; have H := H1; clear H1; obtain ⟨y113, hy113⟩ : ∃ y_ : List Int, y_ = (([(-1), 0, 8] : List Int)) := ⟨_, rfl⟩; replace H : ((spec_l1Cur_among.f s0_0 t111 t112 y113).bind fun bt116 => (if t107.length < 17592186044416 then (some ((t107 ++ [bt116.1]), bt116.2.1, bt116.2.2)) else (none))) = some (r1, r2, r3) := RH hy113 H; have Ny113 := Aside0.mk hy113; clear hy113; replace H := (ob H); obtain ⟨⟨t116, t117, t118⟩, A160, H⟩ := H; (try dsimp only at H); have A16 := Aside0.mk A160; clear A160
  by_cases c17 : t107.length < 17592186044416
  ·rw [if_pos c17] at H
   have LMc17 := Aside0.mk c17; clear c17; obtain ⟨y119, hy119⟩ : ∃ y_ : List Int, y_ = (t107 ++ [t116]) := ⟨_, rfl⟩; replace H : (some (y119, t117, t118)) = some (r1, r2, r3) := RH hy119 H; have Ny119 := Aside0.mk hy119; clear hy119
   simp only [Option.some.injEq, Prod.mk.injEq] at H
   obtain ⟨rfl, rfl, rfl⟩ := H
   go_wp2_with (first | ((with_reducible refine gate_dst (N := 17) rfl ?_); refine Kd.R_lit (Kd.int .i64) _ 3 ?hg (N := 17) ?hd (xs := ([(-1), 0, 8] : List Int)) (inner := [.int .i64 (-1), .int .i64 0, .int .i64 8]) (ok := fun _ => True) (okp := fun _ => True) ?hr ?hp (fun _ hk => hk) trivial (Below.refl _ _) (Nat.le_refl _) (by simp) ?_; (case hd => rfl); (case hg => rfl); (case hr => first | (go_simp; done) | (go_simp; rfl)); (case hp => exact (Reps.one (show Kd.M (Kd.int .i64) _ _ _ (-1) [.int .i64 (-1)] from rfl) (Reps.one (show Kd.M (Kd.int .i64) _ _ _ 0 [.int .i64 0] from rfl) (Reps.one (show Kd.M (Kd.int .i64) _ _ _ 8 [.int .i64 8] from rfl) (Reps.none _ _))))); intro v114 w18 ho19 hb hg_ hnew_; clear hg_ hnew_; (first | rw [← Ny113.out] at ho19 | (simp only [Int.reduceToNat] at ho19; rw [← Ny113.out] at ho19)); have HO115 := am (Kd.R_lower (Kd.R_new' ho19 (Kd.R_lt (Q2 HO109))) (keep_size (w := w) (g := g) (row := none) (Q9 HK GW101))); replace HO109 := am (Kd.R_elder' (Q2 HO109) (Kd.R_base ho19) hb); replace BK101 := am (blk_below (g := gb101) (o := .cells #[.int .i64 a1_0, .slice A1_1 l1_1.length c1_1] 30 (0, 0)) (Q1 BK101) hb); replace HK := am (KeepBut.trans (Q9 HK GW101) (KeepBut.of_below hb g none) (.inl rfl)); replace HB := am (below_step (Q5 HB HI0) hb); replace HI0 := am (IsS96.below (Q8 HI0 NB0_101) hb); clear hb ho19; obtain ⟨Ao20, co20, eo20⟩ := Kd.R_slice HO115.out; subst eo20) | ((with_reducible refine gate_callee (f := 106) rfl ?_); refine goesL_ (some 18) rfl rfl Try.func106 (by kernel_rfl) rfl #[.pointer (some ⟨g, 0, none⟩), .slice Ao20 y113.length co20] rfl Q3 ?_; (with_reducible refine (spec_l1Cur_among.calls g s0_0 t111 t112 _ _ y113 t116 t117 t118 w0 _ ?side1 ?side2 ?side3 ?side4 ?side5 A16.out).mono ?_); (case side1 => exact (Q8 HI0 NB0_101)); (case side2 => exact (Q5 HB HI0)); (case side3 => exact (Q14 HO115)); (case side4 => exact (Kd.R_reads' HO115.out).2.1); (case side5 => exact far_slice (IsS96.own_ne HI0.out HO115.out (by decide))); rintro e w21 ⟨rfl, hi, hb, hk⟩; refine ⟨_, rfl, ?_⟩; replace BK101 := am (KeepBut.blk hk (g' := gb101) (o := .cells #[.int .i64 a1_0, .slice A1_1 l1_1.length c1_1] 30 (0, 0)) (Q1 BK101) NB101_0.out (by simp)); replace HO109 := am (Kd.R_mono (Kd.R_keep (IsS96.apart (show IsS96 w0 _ g s0_0 t111 t112 from Q8 HI0 NB0_101) (Q2 HO109) (by decide)) hk (fun _ h => h.2)) (fun _ h => h.1)); replace HO115 := am (Kd.R_mono (Kd.R_keep (IsS96.apart (show IsS96 w0 _ g s0_0 t111 t112 from Q8 HI0 NB0_101) (Q2 HO115) (by decide)) hk (fun _ h => h.2)) (fun _ h => h.1)); replace HK := am (KeepBut.trans (Q9 HK GW101) hk (.inl rfl)); replace HB := am (hb); replace HI0 := am (hi); (try clear hb); (try clear hb2); (try clear hk); (try clear hi)) | ((with_reducible refine gate_builtin (b := .append) (xs := #[.tmp 15, .tmp 19]) rfl ?_); at_builtin; refine Kd.R_append (Kd.int .i64) w.heap.size rfl (.tmp 15) (.tmp 19) 25 3 (.int .i64 0) 8 rfl Try.underlying25 info3 rfl (by decide) (by omega) v108 t107 t116 [.int .i64 t116] (fun k_ => some k_ ≠ (.slice Ao20 y113.length co20 : Value).ownBlock) (fun _ => False) rfl rfl ?aP (fun _ hk => hk.elim) ?aF ?aO (Below.refl _ _) ?aS ?aL ?_; (case aP => exact rfl); (case aF => exact (fun k_ hk => Kd.fresh' (Kd.R_lt (Q2 HO115)) k_ hk)); (case aO => exact (Q22 HO109)); (case aS => exact (keep_size (w := w) (g := g) (row := none) (Q9 HK GW101))); (case aL => have := LMc17.out; omega); intro v120 w22 ho hb hg hat; rw [← Ny119.out] at ho; replace BK101 := am (blk_grown (g := gb101) (o := .cells #[.int .i64 a1_0, .slice A1_1 l1_1.length c1_1] 30 (0, 0)) (Q1 BK101) hg (Kd.R_ne HO109.out BK101.out (by decide))); replace HO115 := am (Kd.R_after (ok := (fun _ => True)) (Q2 HO115) hg hat); replace HB := am (below_weaken (Q5 HB HI0) HL.out hb); replace HI0 := am (IsS96.grown (Q8 HI0 NB0_101) hg (IsS96.own_ne HI0.out HO109.out (by decide))); replace HK := am (KeepBut.trans (Q9 HK GW101) (KeepBut.of_grown hg g) (Kd.R_base2 HO109.out)); have HO121 := am (ho); clear HO109; clear ho hb hg hat))
   go_ret
   exact ⟨_, Q11, Q40 HO121, Q8 HI0 NB0_101, Q5 HB HI0, Q9 HK GW101⟩
  ·rw [if_neg c17] at H
   exact absurd H (by simp)
 ·replace c15 := Bool.eq_false_iff.mpr c15
  subst c15; have H1 : (some (t107, t111, t112)) = some (r1, r2, r3) := by rw [if_neg (show ¬ (false = true) by decide)] at H; exact H
  clear H; have H := H1; clear H1
  simp only [Option.some.injEq, Prod.mk.injEq] at H
  obtain ⟨rfl, rfl, rfl⟩ := H
  go_wp2
  go_ret
  exact ⟨_, Q11, Q2 HO109, Q8 HI0 NB0_101, Q5 HB HI0, Q9 HK GW101⟩
end Go.Proofs.Ytcjddikalgnhpaa.P
