/- Functions of the program as Lean functions, that each call comes to what they say, and what holds of them; part 8 of 14; no conditions beyond those that each theorem names. -/
import Derived.Test.YtcjddikalgnhpaaK1
import Derived.Test.YtcjddikalgnhpaaK5
import Derived.Test.YtcjddikalgnhpaaK6
import Derived.Test.YtcjddikalgnhpaaK7
namespace Go.Proofs.Ytcjddikalgnhpaa.P
open Go.RowKit Go.Proofs.YtcjddikalgnhpaaW.PrintWords Go.Proofs.YtcjddikalgnhpaaW.PrintLast Go.Proofs.YtcjddikalgnhpaaW.PrintMore
attribute [local go_sem] max2_int min2_int max_two min_two max_three min_three max_four min_four   -- for this text's walks alone
set_option linter.unusedVariables false
set_option linter.unusedSimpArgs false
/-! ### spec_l1Cur_someGraph: function 118 -/
mutual
def spec_l1Cur_someGraph.j0 : Nat → Int → Int → Bool → List Int → Int → Int → Option (Int × (List (S71)) × Int × Int)
 | 0, _, _, _, _, _, _ => none
 | k + 1, x1, x5, x20, x1000, x1001, x1002 => if x20 = true then ((spec_l1Cur_pick.f x1000 x1001 x1002 2).bind fun bt111 => (spec_l1Cur_someGraph.j1 k x1 (wrap64 (7 + bt111.1)) x1000 bt111.2.1 bt111.2.2)) else (spec_l1Cur_someGraph.j1 k x1 x5 x1000 x1001 x1002)
def spec_l1Cur_someGraph.j1 : Nat → Int → Int → List Int → Int → Int → Option (Int × (List (S71)) × Int × Int)
 | 0, _, _, _, _, _ => none
 | k + 1, x1, x5, x1000, x1001, x1002 => (spec_l1Least.f x5 x1).bind fun t114 => ((some (([] : List (S71)) : List (S71))).bind fun y115 => ((spec_l1Cur_pick.f x1000 x1001 x1002 8).bind fun bt119 => (if bt119.1 = 0 then ((spec_l2Path.f k t114).bind fun bt122 => ((spec_l1Cur_marred.f x1000 bt119.2.1 bt119.2.2 bt122.1 bt122.2).bind fun bt126 => (some (bt126.1, bt126.2.1, bt126.2.2.1, bt126.2.2.2)))) else (if bt119.1 = 1 then (if t114 > 2 then ((spec_l2Cycle.f k t114).bind fun bt132 => ((spec_l1Cur_marred.f x1000 bt119.2.1 bt119.2.2 bt132.1 bt132.2).bind fun bt136 => (some (bt136.1, bt136.2.1, bt136.2.2.1, bt136.2.2.2)))) else ((spec_l1Cur_marred.f x1000 bt119.2.1 bt119.2.2 t114 y115).bind fun bt142 => (some (bt142.1, bt142.2.1, bt142.2.2.1, bt142.2.2.2)))) else (if bt119.1 = 2 then ((spec_l2Complete.f k t114).bind fun bt148 => ((spec_l1Cur_marred.f x1000 bt119.2.1 bt119.2.2 bt148.1 bt148.2).bind fun bt152 => (some (bt152.1, bt152.2.1, bt152.2.2.1, bt152.2.2.2)))) else ((spec_l1Cur_among.f x1000 bt119.2.1 bt119.2.2 (([3, 4, 6] : List Int))).bind fun bt161 => ((spec_l1Cur_one.f x1000 bt161.2.1 bt161.2.2 6).bind fun bt164 => (spec_l1Cur_someGraph.l0 k t114 bt161.1 bt164.1 0 x1000 bt164.2.1 bt164.2.2 t114 y115))))))))
def spec_l1Cur_someGraph.l0 : Nat → Int → Int → Bool → Int → List Int → Int → Int → Int → List (S71) → Option (Int × (List (S71)) × Int × Int)
 | 0, _, _, _, _, _, _, _, _, _ => none
 | k + 1, x5, x7, x8, x9, x1000, x1001, x1002, x119000, x119001 => if x9 < x5 then (spec_l1Cur_someGraph.l1 k x5 x7 x8 x9 (wrap64 (x9 + 1)) x1000 x1001 x1002 x119000 x119001) else ((spec_l1Cur_marred.f x1000 x1001 x1002 x119000 x119001).bind fun bt167 => (some (bt167.1, bt167.2.1, bt167.2.2.1, bt167.2.2.2)))
def spec_l1Cur_someGraph.l1 : Nat → Int → Int → Bool → Int → Int → List Int → Int → Int → Int → List (S71) → Option (Int × (List (S71)) × Int × Int)
 | 0, _, _, _, _, _, _, _, _, _, _ => none
 | k + 1, x5, x7, x8, x9, x10, x1000, x1001, x1002, x119000, x119001 => if x10 < x5 then ((spec_l1Cur_pick.f x1000 x1001 x1002 x7).bind fun bt173 => (if bt173.1 = 0 then ((spec_l2Put.f k x119001 x9 x10).bind fun t176 => (spec_l1Cur_someGraph.l1 k x5 x7 x8 x9 (wrap64 (x10 + 1)) x1000 bt173.2.1 bt173.2.2 x119000 t176)) else (spec_l1Cur_someGraph.l1 k x5 x7 x8 x9 (wrap64 (x10 + 1)) x1000 bt173.2.1 bt173.2.2 x119000 x119001))) else ((spec_l1Most.f x9 1).bind fun t179 => ((spec_l1Cur_pick.f x1000 x1001 x1002 t179).bind fun bt180 => (if x9 > 0 then (if x8 = true then (spec_l1Cur_someGraph.l0 k x5 x7 x8 (wrap64 (x9 + 1)) x1000 bt180.2.1 bt180.2.2 x119000 x119001) else ((spec_l2Near.f k x119000 x119001 x9 bt180.1).bind fun t183 => (if t183 = true then (spec_l1Cur_someGraph.l0 k x5 x7 x8 (wrap64 (x9 + 1)) x1000 bt180.2.1 bt180.2.2 x119000 x119001) else ((spec_l2Put.f k x119001 bt180.1 x9).bind fun t184 => (spec_l1Cur_someGraph.l0 k x5 x7 x8 (wrap64 (x9 + 1)) x1000 bt180.2.1 bt180.2.2 x119000 t184))))) else (spec_l1Cur_someGraph.l0 k x5 x7 x8 (wrap64 (x9 + 1)) x1000 bt180.2.1 bt180.2.2 x119000 x119001))))
end
def spec_l1Cur_someGraph.f (k : Nat) (s0_0 : List Int) (s0_1 : Int) (s0_2 : Int) (a1 : Int) : Option (Int × (List (S71)) × Int × Int) := (spec_l1Cur_among.f s0_0 s0_1 s0_2 (([4, 5, 3, 6, 2, 1, 0] : List Int))).bind fun bt105 => (if a1 > 6 then ((spec_l1Cur_one.f s0_0 bt105.2.1 bt105.2.2 4).bind fun bt108 => (spec_l1Cur_someGraph.j0 k a1 bt105.1 bt108.1 s0_0 bt108.2.1 bt108.2.2)) else (spec_l1Cur_someGraph.j0 k a1 bt105.1 false s0_0 bt105.2.1 bt105.2.2))
theorem spec_l1Cur_someGraph.mono_l : ∀ k, (∀ y0 y1 y2 y3 y4 y5, LeO (spec_l1Cur_someGraph.j0 k y0 y1 y2 y3 y4 y5) (spec_l1Cur_someGraph.j0 (k + 1) y0 y1 y2 y3 y4 y5)) ∧ (∀ y0 y1 y2 y3 y4, LeO (spec_l1Cur_someGraph.j1 k y0 y1 y2 y3 y4) (spec_l1Cur_someGraph.j1 (k + 1) y0 y1 y2 y3 y4)) ∧ (∀ y0 y1 y2 y3 y4 y5 y6 y7 y8, LeO (spec_l1Cur_someGraph.l0 k y0 y1 y2 y3 y4 y5 y6 y7 y8) (spec_l1Cur_someGraph.l0 (k + 1) y0 y1 y2 y3 y4 y5 y6 y7 y8)) ∧ (∀ y0 y1 y2 y3 y4 y5 y6 y7 y8 y9, LeO (spec_l1Cur_someGraph.l1 k y0 y1 y2 y3 y4 y5 y6 y7 y8 y9) (spec_l1Cur_someGraph.l1 (k + 1) y0 y1 y2 y3 y4 y5 y6 y7 y8 y9))
 | 0 => ⟨fun _ _ _ _ _ _ r h => by simp [spec_l1Cur_someGraph.j0] at h, fun _ _ _ _ _ r h => by simp [spec_l1Cur_someGraph.j1] at h, fun _ _ _ _ _ _ _ _ _ r h => by simp [spec_l1Cur_someGraph.l0] at h, fun _ _ _ _ _ _ _ _ _ _ r h => by simp [spec_l1Cur_someGraph.l1] at h⟩
 | k + 1 => by
  obtain ⟨ih0, ih1, ih2, ih3⟩ := spec_l1Cur_someGraph.mono_l k; refine ⟨?_, ?_, ?_, ?_⟩
  all_goals
   intros
   first | unfold spec_l1Cur_someGraph.j0 | unfold spec_l1Cur_someGraph.j1 | unfold spec_l1Cur_someGraph.l0 | unfold spec_l1Cur_someGraph.l1
   repeat' first | (with_reducible first | exact ih0 _ _ _ _ _ _ | exact ih1 _ _ _ _ _ | exact ih2 _ _ _ _ _ _ _ _ _ | exact ih3 _ _ _ _ _ _ _ _ _ _ | exact spec_l2Complete.mono _ _ | exact spec_l2Cycle.mono _ _ | exact spec_l2Near.mono _ _ _ _ _ | exact spec_l2Path.mono _ _ | exact spec_l2Put.mono _ _ _ _ | exact LeO.refl _ | exact LeO.none _ | refine LeO.ite ?_ ?_ | refine LeO.bind ?_ (fun _ => ?_))
theorem spec_l1Cur_someGraph.mono : ∀ a0 a1 a2 a3 k, LeO (spec_l1Cur_someGraph.f k a0 a1 a2 a3) (spec_l1Cur_someGraph.f (k + 1) a0 a1 a2 a3) := by
 intro a0 a1 a2 a3 k
 obtain ⟨ih0, ih1, ih2, ih3⟩ := spec_l1Cur_someGraph.mono_l k
 unfold spec_l1Cur_someGraph.f
 repeat' first | (with_reducible first | exact ih0 _ _ _ _ _ _ | exact ih1 _ _ _ _ _ | exact ih2 _ _ _ _ _ _ _ _ _ | exact ih3 _ _ _ _ _ _ _ _ _ _ | exact spec_l2Complete.mono _ _ | exact spec_l2Cycle.mono _ _ | exact spec_l2Near.mono _ _ _ _ _ | exact spec_l2Path.mono _ _ | exact spec_l2Put.mono _ _ _ _ | exact LeO.refl _ | exact LeO.none _ | refine LeO.ite ?_ ?_ | refine LeO.bind ?_ (fun _ => ?_))
set_option maxHeartbeats 8000000 in
set_option maxRecDepth 100000 in
theorem spec_l1Cur_someGraph.calls (k : Nat) (g : Nat) (s0_0 : List Int) (s0_1 : Int) (s0_2 : Int) (a1 : Int) (r1 : Int) (r2 : List (S71)) (r3 : Int) (r4 : Int) (w0 w : World) (hI : IsS96 w0 w g s0_0 s0_1 s0_2) (hB : Below w0.heap.size w0 w) (h : spec_l1Cur_someGraph.f k s0_0 s0_1 s0_2 a1 = some (r1, r2, r3, r4)) :
  Calls Try.prog 118 #[.pointer (some ⟨g, 0, none⟩), .int .i64 a1] w fun e w' => ∃ v1_ : Value, e = .returned (.agg #[.int .i64 r1, v1_]) ∧ Kd.R k71 71 w' w.heap.size (fun _ => True) v1_ r2 ∧ IsS96 w0 w' g s0_0 r3 r4 ∧ Below w0.heap.size w0 w' ∧ KeepBut w w' g none := by
 have hu30 := Try.underlying30
 have hu71 := Try.underlying71
 have HI0 := Aside0.mk hI
 have HK := am (KeepBut.refl w g none)
 have HL := Aside0.mk hB.size
 clear hI
 have HW0 := Aside0.mk hB.size
 have HB := Aside0.mk hB
 clear hB
 have H : ((spec_l1Cur_among.f s0_0 s0_1 s0_2 (([4, 5, 3, 6, 2, 1, 0] : List Int))).bind fun bt105 => (if a1 > 6 then ((spec_l1Cur_one.f s0_0 bt105.2.1 bt105.2.2 4).bind fun bt108 => (spec_l1Cur_someGraph.j0 k a1 bt105.1 bt108.1 s0_0 bt108.2.1 bt108.2.2)) else (spec_l1Cur_someGraph.j0 k a1 bt105.1 false s0_0 bt105.2.1 bt105.2.2))) = some (r1, r2, r3, r4) := h
 clear h
 obtain ⟨y102, hy102⟩ : ∃ y_ : List Int, y_ = (([4, 5, 3, 6, 2, 1, 0] : List Int)) := ⟨_, rfl⟩
 replace H : ((spec_l1Cur_among.f s0_0 s0_1 s0_2 y102).bind fun bt105 => (if a1 > 6 then ((spec_l1Cur_one.f s0_0 bt105.2.1 bt105.2.2 4).bind fun bt108 => (spec_l1Cur_someGraph.j0 k a1 bt105.1 bt108.1 s0_0 bt108.2.1 bt108.2.2)) else (spec_l1Cur_someGraph.j0 k a1 bt105.1 false s0_0 bt105.2.1 bt105.2.2))) = some (r1, r2, r3, r4) := RH hy102 H
 have Ny102 := Aside0.mk hy102
 clear hy102
 replace H := (ob H)
 obtain ⟨⟨t105, t106, t107⟩, A30, H⟩ := H
 (try dsimp only at H)
 have A3 := Aside0.mk A30
 clear A30
 have HU4 := Aside0.mk H
 clear H
 go_enter Try.func118, Try.ntmps118
 go_upto_region 2 with (first | ((with_reducible refine gate_dst (N := 4) rfl ?_); refine box_event ?hg (N := 4) ?hd (cs := #[.int .i64 0, .slice none 0 0]) (t := 30) ?hr ?_; (case hd => rfl); (case hg => rfl); (case hr => first | (go_simp; done) | (go_simp; rfl)); intro gb101 hg w5 hbox hb; replace HB := am (below_step (Q7 HB HI0) hb); have BK101 := am (hbox); have GW101 := am ((by rw [hg]; exact (keep_size (w := w) (g := g) (row := none) (Q22 HK)) : w.heap.size ≤ gb101)); have GE101 := am ((Nat.le_trans HW0.out (by rw [hg]; exact (keep_size (w := w) (g := g) (row := none) (Q22 HK)) : w.heap.size ≤ gb101) : w0.heap.size ≤ gb101)); replace HK := am (KeepBut.trans (Q22 HK) (KeepBut.of_below hb g none) (.inl rfl)); have NB0_101 := am ((by rw [hg]; exact Nat.ne_of_lt (IsS96.lt (show IsS96 w0 _ g s0_0 s0_1 s0_2 from Q13 HI0)) : g ≠ gb101)); have NB101_0 := am ((by rw [hg]; exact Nat.ne_of_gt (IsS96.lt (show IsS96 w0 _ g s0_0 s0_1 s0_2 from Q13 HI0)) : gb101 ≠ g)); replace HI0 := am (IsS96.below (Q13 HI0) hb); clear hb hbox hg) | ((with_reducible refine gate_dst (N := 13) rfl ?_); refine Kd.R_lit (Kd.int .i64) _ 3 ?hg (N := 13) ?hd (xs := ([4, 5, 3, 6, 2, 1, 0] : List Int)) (inner := [.int .i64 4, .int .i64 5, .int .i64 3, .int .i64 6, .int .i64 2, .int .i64 1, .int .i64 0]) (ok := fun _ => True) (okp := fun _ => True) ?hr ?hp (fun _ hk => hk) trivial (Below.refl _ _) (Nat.le_refl _) (by simp) ?_; (case hd => rfl); (case hg => rfl); (case hr => first | (go_simp; done) | (go_simp; rfl)); (case hp => exact (Reps.one (show Kd.M (Kd.int .i64) _ _ _ 4 [.int .i64 4] from rfl) (Reps.one (show Kd.M (Kd.int .i64) _ _ _ 5 [.int .i64 5] from rfl) (Reps.one (show Kd.M (Kd.int .i64) _ _ _ 3 [.int .i64 3] from rfl) (Reps.one (show Kd.M (Kd.int .i64) _ _ _ 6 [.int .i64 6] from rfl) (Reps.one (show Kd.M (Kd.int .i64) _ _ _ 2 [.int .i64 2] from rfl) (Reps.one (show Kd.M (Kd.int .i64) _ _ _ 1 [.int .i64 1] from rfl) (Reps.one (show Kd.M (Kd.int .i64) _ _ _ 0 [.int .i64 0] from rfl) (Reps.none _ _))))))))); intro v103 w6 ho7 hb hg_ hnew_; clear hg_ hnew_; (first | rw [← Ny102.out] at ho7 | (simp only [Int.reduceToNat] at ho7; rw [← Ny102.out] at ho7)); have HO104 := am (Kd.R_lower ho7 (keep_size (w := w) (g := g) (row := none) (Q30 HK GW101))); replace BK101 := am (blk_below (g := gb101) (o := .cells #[.int .i64 0, .slice none 0 0] 30 (0, 0)) (Q0 BK101) hb); replace HK := am (KeepBut.trans (Q30 HK GW101) (KeepBut.of_below hb g none) (.inl rfl)); replace HB := am (below_step (Q7 HB HI0) hb); replace HI0 := am (IsS96.below (Q17 HI0 NB0_101) hb); clear hb ho7; obtain ⟨Ao8, co8, eo8⟩ := Kd.R_slice HO104.out; subst eo8) | ((with_reducible refine gate_callee (f := 106) rfl ?_); refine goesL_ (some 14) rfl rfl Try.func106 (by kernel_rfl) rfl #[.pointer (some ⟨g, 0, none⟩), .slice Ao8 y102.length co8] rfl Q3 ?_; (with_reducible refine (spec_l1Cur_among.calls g s0_0 s0_1 s0_2 _ _ y102 t105 t106 t107 w0 _ ?side1 ?side2 ?side3 ?side4 ?side5 A3.out).mono ?_); (case side1 => exact (Q17 HI0 NB0_101)); (case side2 => exact (Q7 HB HI0)); (case side3 => exact (Q36 HO104)); (case side4 => exact (Kd.R_reads' HO104.out).2.1); (case side5 => exact far_slice (IsS96.own_ne HI0.out HO104.out (by decide))); rintro e w9 ⟨rfl, hi, hb, hk⟩; refine ⟨_, rfl, ?_⟩; replace BK101 := am (KeepBut.blk hk (g' := gb101) (o := .cells #[.int .i64 0, .slice none 0 0] 30 (0, 0)) (Q0 BK101) NB101_0.out (by simp)); replace HO104 := am (Kd.R_mono (Kd.R_keep (IsS96.apart (show IsS96 w0 _ g s0_0 s0_1 s0_2 from Q17 HI0 NB0_101) (Q6 HO104) (by decide)) hk (fun _ h => h.2)) (fun _ h => h.1)); replace HK := am (KeepBut.trans (Q30 HK GW101) hk (.inl rfl)); replace HB := am (hb); replace HI0 := am (hi); (try clear hb); (try clear hb2); (try clear hk); (try clear hi)))
 (try simp only [Act.put, List.setIfInBounds_toArray, List.set_cons_zero, List.set_cons_succ])
 have H := HU4.out
 clear HU4
 have HC10 := Aside0.mk H
 clear H
 go_upto_region 2 with (fail)
 go_cut [20] (fun v20 wc => ∃ (kq : Nat) (x20_9 : Bool) (x1001_9 : Int) (x1002_9 : Int), v20 = .bool x20_9 ∧ Aside0 (spec_l1Cur_someGraph.j0 kq a1 t105 x20_9 s0_0 x1001_9 x1002_9 = some (r1, r2, r3, r4)) ∧ Aside0 (kq ≤ k) ∧ Aside0 (wc.heap[gb101]? = some (.cells #[.int .i64 0, (.slice none 0 0)] 30 (0, 0))) ∧ Aside0 (IsS96 w0 wc g s0_0 x1001_9 x1002_9) ∧ Aside0 (KeepBut w wc g none) ∧ Aside0 (Below w0.heap.size w0 wc))
 case first =>
  have H := HC10.out; clear HC10
  by_cases c11 : a1 > 6
  ·rw [if_pos c11] at H
   have c11b0 : decide (6 < a1) = true := decide_eq_true c11; clear c11
   (first | rw [c11b0] | (simp only [i64_w, i32_w]; rw [c11b0]) | skip)
   replace H := (ob H); obtain ⟨⟨t108, t109, t110⟩, A120, H⟩ := H; (try dsimp only at H); have A12 := Aside0.mk A120; clear A120; have H' := Aside0.mk H; clear H
   go_wp2_with (first | (go_at_call 129; (with_reducible refine (spec_l1Cur_one.calls g s0_0 t106 t107 4 t108 t109 t110 w0 _ ?side1 ?side2 A12.out).mono ?_); (case side1 => exact (Q17 HI0 NB0_101)); (case side2 => exact (Q7 HB HI0)); rintro e w13 ⟨rfl, hi, hb, hk⟩; replace BK101 := am (KeepBut.blk hk (g' := gb101) (o := .cells #[.int .i64 0, .slice none 0 0] 30 (0, 0)) (Q0 BK101) NB101_0.out (by simp)); replace HO104 := am (Kd.R_mono (Kd.R_keep (IsS96.apart (show IsS96 w0 _ g s0_0 t106 t107 from Q17 HI0 NB0_101) (Q6 HO104) (by decide)) hk (fun _ h => h.2)) (fun _ h => h.1)); replace HK := am (KeepBut.trans (Q30 HK GW101) hk (.inl rfl)); replace HB := am (hb); replace HI0 := am (hi); (try clear hb); (try clear hb2); (try clear hk); (try clear hi)))
   go_meet
   case rel => exact ⟨_, (t108), (t109), (t110), Q11, H', ⟨Q94⟩, ⟨Q0 BK101⟩, ⟨Q17 HI0 NB0_101⟩, ⟨Q30 HK GW101⟩, ⟨Q7 HB HI0⟩⟩
  ·rw [if_neg c11] at H
   have c11b0 : decide (6 < a1) = false := decide_eq_false c11; clear c11
   (first | rw [c11b0] | (simp only [i64_w, i32_w]; rw [c11b0]) | skip)
   have H' := Aside0.mk H; clear H
   go_wp2
   go_meet
   case rel => exact ⟨_, (false), (t106), (t107), Q11, H', ⟨Q94⟩, ⟨Q0 BK101⟩, ⟨Q17 HI0 NB0_101⟩, ⟨Q30 HK GW101⟩, ⟨Q7 HB HI0⟩⟩
 case rest =>
  clear HC10
  try clear c1
  try clear p2
  try clear c10
  try clear c11
  try clear c11b0
  obtain ⟨kq, x20_9, x1001_9, x1002_9, rfl, HA, HJ9, BK101, HI0, HK, HB⟩ := hcut
  cases kq with
  | zero => exact absurd HA.out (by simp [spec_l1Cur_someGraph.j0])
  | succ kj9 =>
   have H := HA.out; clear HA
   simp only [spec_l1Cur_someGraph.j0] at H
   have HC14 := Aside0.mk H; clear H
   go_upto_if 20 with (fail)
   go_cut [5] (fun v5 wc => ∃ (kq : Nat) (x5_13 : Int) (x1001_13 : Int) (x1002_13 : Int), v5 = .int .i64 x5_13 ∧ Aside0 (spec_l1Cur_someGraph.j1 kq a1 x5_13 s0_0 x1001_13 x1002_13 = some (r1, r2, r3, r4)) ∧ Aside0 (kq ≤ kj9) ∧ Aside0 (wc.heap[gb101]? = some (.cells #[.int .i64 0, (.slice none 0 0)] 30 (0, 0))) ∧ Aside0 (IsS96 w0 wc g s0_0 x1001_13 x1002_13) ∧ Aside0 (KeepBut w wc g none) ∧ Aside0 (Below w0.heap.size w0 wc))
   case first =>
    have H := HC14.out; clear HC14
    by_cases c15 : x20_9 = true
    ·subst c15
     have H1 : ((spec_l1Cur_pick.f s0_0 x1001_9 x1002_9 2).bind fun bt111 => (spec_l1Cur_someGraph.j1 kj9 a1 (wrap64 (7 + bt111.1)) s0_0 bt111.2.1 bt111.2.2)) = some (r1, r2, r3, r4) := by rw [if_pos rfl] at H; exact H
     clear H; have H := H1; clear H1; replace H := (ob H); obtain ⟨⟨t111, t112, t113⟩, A160, H⟩ := H; (try dsimp only at H); have A16 := Aside0.mk A160; clear A160; have H' := Aside0.mk H; clear H
     go_wp2_with (first | ((with_reducible refine gate_callee (f := 141) rfl ?_); refine goesL_ (some 22) rfl rfl Try.func141 (by kernel_rfl) rfl #[.pointer (some ⟨g, 0, none⟩), .int .i64 2] rfl Q3 ?_; (with_reducible refine (spec_l1Cur_pick.calls g s0_0 x1001_9 x1002_9 2 t111 t112 t113 w0 _ ?side1 ?side2 A16.out).mono ?_); (case side1 => exact (Q17 HI0 NB0_101)); (case side2 => exact (Q7 HB HI0)); rintro e w17 ⟨rfl, hi, hb, hk⟩; refine ⟨_, rfl, ?_⟩; replace BK101 := am (KeepBut.blk hk (g' := gb101) (o := .cells #[.int .i64 0, .slice none 0 0] 30 (0, 0)) (Q0 BK101) NB101_0.out (by simp)); replace HK := am (KeepBut.trans (Q30 HK GW101) hk (.inl rfl)); replace HB := am (hb); replace HI0 := am (hi); (try clear hb); (try clear hb2); (try clear hk); (try clear hi)))
     go_meet
     case rel => exact ⟨_, (wrap64 (7 + t111)), (t112), (t113), Q11, H', ⟨by have := HJ9.out; first | omega | exact Nat.le_refl _⟩, ⟨Q0 BK101⟩, ⟨Q17 HI0 NB0_101⟩, ⟨Q30 HK GW101⟩, ⟨Q7 HB HI0⟩⟩
    ·replace c15 := Bool.eq_false_iff.mpr c15
     subst c15; have H1 : (spec_l1Cur_someGraph.j1 kj9 a1 t105 s0_0 x1001_9 x1002_9) = some (r1, r2, r3, r4) := by rw [if_neg (show ¬ (false = true) by decide)] at H; exact H
     clear H; have H := H1; clear H1; have H' := Aside0.mk H; clear H
     go_wp2
     go_meet
     case rel => exact ⟨_, (t105), (x1001_9), (x1002_9), Q11, H', ⟨by have := HJ9.out; first | omega | exact Nat.le_refl _⟩, ⟨Q0 BK101⟩, ⟨Q17 HI0 NB0_101⟩, ⟨Q30 HK GW101⟩, ⟨Q7 HB HI0⟩⟩
   case rest =>
    clear HC14
    try clear c1
    try clear p2
    try clear p6
    try clear c10
    try clear c11
    try clear c11b0
    try clear c14
    try clear c15
    try clear p2
    obtain ⟨kq, x5_13, x1001_13, x1002_13, rfl, HA, HJ13, BK101, HI0, HK, HB⟩ := hcut
    cases kq with
    | zero => exact absurd HA.out (by simp [spec_l1Cur_someGraph.j1])
    | succ kj13 =>
     have H := HA.out; clear HA
     simp only [spec_l1Cur_someGraph.j1] at H
     replace H := (ob H); obtain ⟨t114, A180, H⟩ := H; (try dsimp only at H); have A18 := Aside0.mk A180; clear A180; obtain ⟨y115, hy115⟩ : ∃ y_ : List (S71), y_ = (([] : List (S71))) := ⟨_, rfl⟩; replace H : ((spec_l1Cur_pick.f s0_0 x1001_13 x1002_13 8).bind fun bt119 => (if bt119.1 = 0 then ((spec_l2Path.f kj13 t114).bind fun bt122 => ((spec_l1Cur_marred.f s0_0 bt119.2.1 bt119.2.2 bt122.1 bt122.2).bind fun bt126 => (some (bt126.1, bt126.2.1, bt126.2.2.1, bt126.2.2.2)))) else (if bt119.1 = 1 then (if t114 > 2 then ((spec_l2Cycle.f kj13 t114).bind fun bt132 => ((spec_l1Cur_marred.f s0_0 bt119.2.1 bt119.2.2 bt132.1 bt132.2).bind fun bt136 => (some (bt136.1, bt136.2.1, bt136.2.2.1, bt136.2.2.2)))) else ((spec_l1Cur_marred.f s0_0 bt119.2.1 bt119.2.2 t114 y115).bind fun bt142 => (some (bt142.1, bt142.2.1, bt142.2.2.1, bt142.2.2.2)))) else (if bt119.1 = 2 then ((spec_l2Complete.f kj13 t114).bind fun bt148 => ((spec_l1Cur_marred.f s0_0 bt119.2.1 bt119.2.2 bt148.1 bt148.2).bind fun bt152 => (some (bt152.1, bt152.2.1, bt152.2.2.1, bt152.2.2.2)))) else ((spec_l1Cur_among.f s0_0 bt119.2.1 bt119.2.2 (([3, 4, 6] : List Int))).bind fun bt161 => ((spec_l1Cur_one.f s0_0 bt161.2.1 bt161.2.2 6).bind fun bt164 => (spec_l1Cur_someGraph.l0 kj13 t114 bt161.1 bt164.1 0 s0_0 bt164.2.1 bt164.2.2 t114 y115))))))) = some (r1, r2, r3, r4) := RH hy115 H; have Ny115 := Aside0.mk hy115; clear hy115; replace H := (ob H); obtain ⟨⟨t119, t120, t121⟩, A190, H⟩ := H; (try dsimp only at H); have A19 := Aside0.mk A190; clear A190; have HU20 := Aside0.mk H; clear H
     go_upto_if 84 with (first | ((with_reducible refine gate_callee (f := 186) rfl ?_); refine goesL_ (some 26) rfl rfl Try.func186 (by kernel_rfl) rfl #[.int .i64 x5_13, .int .i64 a1] rfl Q3 ?_; (with_reducible refine (spec_l1Least.calls x5_13 a1 t114 _ A18.out).mono ?_); rintro e w' ⟨rfl, ⟨nd, rfl⟩⟩; refine ⟨_, rfl, ?_⟩; (try (rw [drewN_self wc]; generalize hq_ : World.drewN wc _ = wc; have n0_ : Aside0 (wc.heap[gb101]? = some (.cells #[.int .i64 0, .slice none 0 0] 30 (0, 0))) := ⟨by rw [← hq_]; exact (Q0 BK101)⟩; have n1_ : Aside0 (IsS96 w0 wc g s0_0 x1001_13 x1002_13) := ⟨by rw [← hq_]; exact (Q17 HI0 NB0_101)⟩; have n2_ : Aside0 (KeepBut w wc g none) := ⟨by rw [← hq_]; exact (Q30 HK GW101)⟩; have n3_ : Aside0 (Below w0.heap.size w0 wc) := ⟨by rw [← hq_]; exact (Q7 HB HI0)⟩; clear BK101 HI0 HK HB hq_; have BK101 := n0_; have HI0 := n1_; have HK := n2_; have HB := n3_; clear n0_ n1_ n2_ n3_))) | ((with_reducible refine gate_dst (N := 28) rfl ?_); refine Kd.R_lit k71 _ 71 ?hg (N := 28) ?hd (xs := ([] : List (S71))) (inner := []) (ok := fun _ => True) (okp := fun _ => True) ?hr ?hp (fun _ hk => hk) trivial (Below.refl _ _) (Nat.le_refl _) (by simp) ?_; (case hd => rfl); (case hg => rfl); (case hr => first | (go_simp; done) | (go_simp; rfl)); (case hp => exact (Reps.none _ _)); intro v116 w21 ho22 hb hg_ hnew_; clear hg_ hnew_; (first | rw [← Ny115.out] at ho22 | (simp only [Int.reduceToNat] at ho22; rw [← Ny115.out] at ho22)); have HO117 := am (Kd.R_lower ho22 (keep_size (w := w) (g := g) (row := none) (Q30 HK GW101))); replace BK101 := am (blk_below (g := gb101) (o := .cells #[.int .i64 0, .slice none 0 0] 30 (0, 0)) (Q0 BK101) hb); replace HK := am (KeepBut.trans (Q30 HK GW101) (KeepBut.of_below hb g none) (.inl rfl)); replace HB := am (below_step (Q7 HB HI0) hb); replace HI0 := am (IsS96.below (Q17 HI0 NB0_101) hb); clear hb ho22; obtain ⟨Ao23, co23, eo23⟩ := Kd.R_slice HO117.out; subst eo23) | ((with_reducible refine gate_dst (N := 6) rfl ?_); refine box_event ?hg (N := 6) ?hd (cs := #[.int .i64 0, .slice none 0 0]) (t := 30) ?hr ?_; (case hd => rfl); (case hg => rfl); (case hr => first | (go_simp; done) | (go_simp; rfl)); intro gb118 hg w24 hbox hb; replace HO117 := am (Kd.R_below (Q6 HO117) hb); replace HB := am (below_step (Q7 HB HI0) hb); have BK118 := am (hbox); have GW118 := am ((by rw [hg]; exact (keep_size (w := w) (g := g) (row := none) (Q30 HK GW101)) : w.heap.size ≤ gb118)); have GE118 := am ((Nat.le_trans HW0.out (by rw [hg]; exact (keep_size (w := w) (g := g) (row := none) (Q30 HK GW101)) : w.heap.size ≤ gb118) : w0.heap.size ≤ gb118)); replace HK := am (KeepBut.trans (Q30 HK GW101) (KeepBut.of_below hb g none) (.inl rfl)); have NB101_118 := am ((Q80 : gb101 ≠ gb118)); have NB118_101 := am ((Q81 : gb118 ≠ gb101)); replace BK101 := am (blk_below (g := gb101) (o := .cells #[.int .i64 0, .slice none 0 0] 30 (0, 0)) (Q0 BK101) hb); have NB0_118 := am ((by rw [hg]; exact Nat.ne_of_lt (IsS96.lt (show IsS96 w0 _ g s0_0 x1001_13 x1002_13 from Q17 HI0 NB0_101)) : g ≠ gb118)); have NB118_0 := am ((by rw [hg]; exact Nat.ne_of_gt (IsS96.lt (show IsS96 w0 _ g s0_0 x1001_13 x1002_13 from Q17 HI0 NB0_101)) : gb118 ≠ g)); replace HI0 := am (IsS96.below (Q17 HI0 NB0_101) hb); clear hb hbox hg; have hnb25 := NB118_101.out; have hnc25 := NB101_118.out; have hnb26 := NB118_0.out; have hnc26 := NB0_118.out; have hcz27_0 : w24.cell? ⟨gb118, 0, none⟩ = some (.int .i64 0) := (blk_cell BK118.out 0).trans rfl; have hcz27_1 : w24.cell? ⟨gb118, 1, none⟩ = some (.slice none 0 0) := (blk_cell BK118.out 1).trans rfl; have hfz27_0 := blk_frozen BK118.out 0; have hfz27_1 := blk_frozen BK118.out 1) | ((with_reducible refine gate_callee (f := 141) rfl ?_); refine goesL_ (some 31) rfl rfl Try.func141 (by kernel_rfl) rfl #[.pointer (some ⟨g, 0, none⟩), .int .i64 8] rfl Q3 ?_; (with_reducible refine (spec_l1Cur_pick.calls g s0_0 x1001_13 x1002_13 8 t119 t120 t121 w0 _ ?side1 ?side2 A19.out).mono ?_); (case side1 => exact (Q4 HI0 NB0_101 NB0_118)); (case side2 => exact (Q35 HB HI0 GE118)); rintro e w28 ⟨rfl, hi, hb, hk⟩; refine ⟨_, rfl, ?_⟩; replace BK101 := am (KeepBut.blk hk (g' := gb101) (o := .cells #[.int .i64 0, .slice none 0 0] 30 (0, 0)) (Q2 NB101_118 BK101) NB101_0.out (by simp)); replace HO117 := am (Kd.R_mono (Kd.R_keep (IsS96.apart (show IsS96 w0 _ g s0_0 x1001_13 x1002_13 from Q4 HI0 NB0_101 NB0_118) (by (with_reducible repeat (first | apply Kd.R_alloc | apply Kd.R_drewN | apply Kd.R_drew)); exact (Kd.R_mono (Kd.R_far (p := ⟨gb118, 1, none⟩) (Kd.R_far (p := ⟨gb118, 0, none⟩) (Kd.R_types HO117.out BK118.out (by decide)) (fun _ hk => hk.2) (.int .i64 t114)) (fun _ hk => hk.2) (.slice Ao23 y115.length co23)) (fun _ h_ => h_.1))) (by decide)) hk (fun _ h => h.2)) (fun _ h => h.1)); replace BK118 := am (KeepBut.blk hk (g' := gb118) (o := .cells #[.int .i64 t114, .slice Ao23 y115.length co23] 30 (0, 0)) (by (with_reducible repeat (first | refine blk_drewN ?_ _ | refine blk_drew ?_ | refine blk_alloc ?_ _)); refine blk_put (cs := #[.int .i64 t114, .slice none 0 0]) ?_ 1 _ rfl; (with_reducible repeat (first | refine blk_drewN ?_ _ | refine blk_drew ?_ | refine blk_alloc ?_ _)); refine blk_put (cs := #[.int .i64 0, .slice none 0 0]) ?_ 0 _ rfl; (with_reducible repeat (first | refine blk_drewN ?_ _ | refine blk_drew ?_ | refine blk_alloc ?_ _)); exact BK118.out) NB118_0.out (by simp)); replace HK := am (KeepBut.trans (Q8 HK GW101 GW118) hk (.inl rfl)); replace HB := am (hb); replace HI0 := am (hi); (try clear hb); (try clear hb2); (try clear hk); (try clear hi)))
     (try simp only [Act.put, List.setIfInBounds_toArray, List.set_cons_zero, List.set_cons_succ]); have H := HU20.out; clear HU20
     by_cases c29 : t119 = 0
     ·rw [if_pos c29] at H
      have c29b0 := beq_iff_eq.mpr c29; have c29b1 := bne_eq_false_iff_eq.mpr c29; clear c29
      (first | rw [c29b0] | (simp only [i64_w, i32_w]; rw [c29b0]) | rw [c29b1] | skip)
      replace H := (ob H); obtain ⟨⟨t122, t123⟩, A300, H⟩ := H; (try dsimp only at H); have A30 := Aside0.mk A300; clear A300; replace H := (ob H); obtain ⟨⟨t126, t127, t130, t131⟩, A310, H⟩ := H; (try dsimp only at H); have A31 := Aside0.mk A310; clear A310
      simp only [Option.some.injEq, Prod.mk.injEq] at H
      obtain ⟨rfl, rfl, rfl, rfl⟩ := H
      go_wp2_with (first | ((with_reducible refine gate_callee (f := 111) rfl ?_); refine goesL_ (some 87) rfl rfl Try.func111 (by kernel_rfl) rfl #[.int .i64 t114] rfl Q3 ?_; (with_reducible refine (spec_l2Path.calls kj13 t114 t122 t123 _ A30.out).mono ?_); rintro e w32 ⟨v124, rfl, ho0, hb⟩; refine ⟨_, rfl, ?_⟩; have HO125 := am (Kd.R_lower (Kd.R_new' ho0 (Kd.R_lt (Q6 HO117))) (keep_size (w := w) (g := g) (row := none) (Q8 HK GW101 GW118))); replace HO117 := am (Kd.R_elder' (Q6 HO117) (Kd.R_base ho0) hb); replace BK101 := am (blk_below (g := gb101) (o := .cells #[.int .i64 0, .slice none 0 0] 30 (0, 0)) (Q0 BK101) hb); replace BK118 := am (blk_below (g := gb118) (o := .cells #[.int .i64 t114, .slice Ao23 y115.length co23] 30 (0, 0)) (Q0 BK118) hb); replace HK := am (KeepBut.trans (Q8 HK GW101 GW118) (KeepBut.of_below hb g none) (.inl rfl)); replace HB := am (below_step (Q7 HB HI0) hb); replace HI0 := am (IsS96.below (Q4 HI0 NB0_101 NB0_118) hb); (try clear hb); (try clear hb2); (try clear hk); (try clear hi); (try clear ho0); have hnb33 := NB118_101.out; have hnc33 := NB101_118.out; have hnb34 := NB118_0.out; have hnc34 := NB0_118.out; have hcz35_0 : w32.cell? ⟨gb118, 0, none⟩ = some (.int .i64 t114) := (blk_cell BK118.out 0).trans rfl; have hcz35_1 : w32.cell? ⟨gb118, 1, none⟩ = some (.slice Ao23 y115.length co23) := (blk_cell BK118.out 1).trans rfl; have hfz35_0 := blk_frozen BK118.out 0; have hfz35_1 := blk_frozen BK118.out 1; obtain ⟨Ao36, co36, eo36⟩ := Kd.R_slice HO125.out; subst eo36) | ((with_reducible refine gate_store (t := 30) (p := 6) rfl ?_); refine store_event (t := 30) (p := 6) (v := ?vo_w37) (w1 := ((w32.setCell ⟨gb118, 0, none⟩ (.int .i64 t122)).setCell ⟨gb118, 1, none⟩ (.slice Ao36 t123.length co36))) ?hg ?ho ?hn ?hr ?_; (case ho => rfl); (case hg => rfl); (case hn => rfl); (case hr => first | (go_simp; done) | (go_simp; rfl)); intro w37 hw; replace HO117 : Aside0 (Kd.R k71 71 w37 w.heap.size (fun k_ => some k_ ≠ (.slice Ao36 t123.length co36 : Value).ownBlock) (.slice Ao23 y115.length co23) y115) := ⟨(Q145 HO117 BK118)⟩; replace HO125 : Aside0 (Kd.R k71 71 w37 w.heap.size (fun k_ => some k_ ≠ (.slice Ao23 y115.length co23 : Value).ownBlock) (.slice Ao36 t123.length co36) t123) := ⟨(Q145 HO125 BK118)⟩; replace BK101 : Aside0 (w37.heap[gb101]? = some (.cells #[.int .i64 0, .slice none 0 0] 30 (0, 0))) := ⟨(by rw [hw]; exact (Q2 NB101_118 BK101))⟩; replace BK118 : Aside0 (w37.heap[gb118]? = some (.cells #[.int .i64 t122, .slice Ao36 t123.length co36] 30 (0, 0))) := ⟨(by rw [hw]; exact (by (with_reducible repeat (first | refine blk_drewN ?_ _ | refine blk_drew ?_ | refine blk_alloc ?_ _)); refine blk_put (cs := #[.int .i64 t122, .slice Ao23 y115.length co23]) ?_ 1 _ rfl; (with_reducible repeat (first | refine blk_drewN ?_ _ | refine blk_drew ?_ | refine blk_alloc ?_ _)); refine blk_put (cs := #[.int .i64 t114, .slice Ao23 y115.length co23]) ?_ 0 _ rfl; (with_reducible repeat (first | refine blk_drewN ?_ _ | refine blk_drew ?_ | refine blk_alloc ?_ _)); exact BK118.out))⟩; replace HK : Aside0 (KeepBut w w37 g none) := ⟨(by rw [hw]; exact (Q8 HK GW101 GW118))⟩; replace HB : Aside0 (Below w0.heap.size w0 w37) := ⟨(by rw [hw]; exact (Q35 HB HI0 GE118))⟩; replace HI0 : Aside0 (IsS96 w0 w37 g s0_0 t120 t121) := ⟨(by rw [hw]; exact (Q4 HI0 NB0_101 NB0_118))⟩; clear hw; have hcz38_0 : w37.cell? ⟨gb118, 0, none⟩ = some (.int .i64 t122) := (blk_cell BK118.out 0).trans rfl; have hcz38_1 : w37.cell? ⟨gb118, 1, none⟩ = some (.slice Ao36 t123.length co36) := (blk_cell BK118.out 1).trans rfl; have hfz38_0 := blk_frozen BK118.out 0; have hfz38_1 := blk_frozen BK118.out 1) | ((with_reducible refine gate_callee (f := 188) rfl ?_); refine goesL_ (some 100) rfl rfl Try.func188 (by kernel_rfl) rfl #[.pointer (some ⟨g, 0, none⟩), .agg #[.int .i64 t122, .slice Ao36 t123.length co36]] rfl Q3 ?_; (with_reducible refine (spec_l1Cur_marred.calls g s0_0 t120 t121 t122 (fun k_ => some k_ = (.slice Ao36 t123.length co36 : Value).ownBlock) (.slice Ao36 t123.length co36) t123 t126 t127 t130 t131 w0 _ ?side1 ?side2 ?side3 A31.out).mono ?_); (case side1 => exact (Q4 HI0 NB0_101 NB0_118)); (case side2 => exact (Q7 HB HI0)); (case side3 => exact Kd.R_lower (Kd.R_tight rfl HO125.out) HL.out); rintro e w39 ⟨v128, rfl, ho0, hi, hb, hkp⟩; refine ⟨_, rfl, ?_⟩; replace BK101 := am (blk_kept (Q52 BK101) hkp (fun hs_ => Or.elim hs_ (fun hs_ => (fun e_ => (Kd.R_ne HO125.out BK101.out (by decide)) e_) hs_) (fun e_ => NB101_0.out e_))); replace BK118 := am (blk_kept (Q52 BK118) hkp (fun hs_ => Or.elim hs_ (fun hs_ => (fun e_ => (Kd.R_ne HO125.out BK118.out (by decide)) e_) hs_) (fun e_ => NB118_0.out e_))); have HO129 := am (Kd.R_mono (ok' := fun k_ => some k_ ≠ (.slice Ao23 y115.length co23 : Value).ownBlock) (Kd.R_raise (d := k71) (b := w0.heap.size) (b' := w.heap.size) (fun _ _ _ _ h_ => h_) ho0 (fun k_ e_ => Or.elim (ho0.1 k_ e_) (fun hs_ => (fun e_ => Kd.R_base HO125.out k_ e_.symm) hs_) (fun hn_ => Nat.le_trans (keep_size (w := w) (g := g) (row := none) (Q8 HK GW101 GW118)) hn_))) (fun k_ hk_ => Or.elim hk_ (fun hs_ => fun e_ => ((((IsS96.apart HI0.out HO117.out (by decide))).1 k_ e_.symm).1) hs_) (fun hn_ => (Kd.fresh' (Kd.R_lt (Q6 HO117)) k_ hn_)))); replace HO117 := am (Kd.R_mono (ok' := fun k_ => some k_ ≠ (v128 : Value).ownBlock) (Kd.R_keptB ((IsS96.apart HI0.out HO117.out (by decide))) hkp (fun k_ hk_ hs_ => Or.elim hs_ (fun hs_ => (hk_.1) hs_) (fun e_ => (hk_.2) e_))) (fun k_ hk_ => fun e_ => Or.elim (ho0.1 k_ e_.symm) (fun hs_ => hk_.2.1 (by first | exact .inl hs_ | exact hs_)) (fun hn_ => Nat.not_le.2 hk_.2.2 hn_))); replace HI0 := am (hi); replace HK := am (Kept.keepG (Q8 HK GW101 GW118) hkp (fun k_ hs_ => Or.elim hs_ (fun hs_ => (fun e_ => .inr (Kd.R_base HO125.out k_ e_.symm)) hs_) (fun e_ => .inl e_))); replace HB := am (hb); clear HO125; (try clear hb); (try clear hkp); (try clear ho0); have hnb40 := NB101_0.out; have hnc40 := NB0_101.out; have hcz41_0 : w39.cell? ⟨gb101, 0, none⟩ = some (.int .i64 0) := (blk_cell BK101.out 0).trans rfl; have hcz41_1 : w39.cell? ⟨gb101, 1, none⟩ = some (.slice none 0 0) := (blk_cell BK101.out 1).trans rfl; have hfz41_0 := blk_frozen BK101.out 0; have hfz41_1 := blk_frozen BK101.out 1; obtain ⟨Ao42, co42, eo42⟩ := Kd.R_slice HO129.out; subst eo42))
      refine bodyPost_ret (results_cell_row rfl _ _ gb101 30 #[.int .i64 t126, .slice Ao42 t127.length co42] (0, 0) _ rfl (by (with_reducible repeat (first | refine blk_drewN ?_ _ | refine blk_drew ?_ | refine blk_alloc ?_ _)); refine blk_put (cs := #[.int .i64 t126, .slice none 0 0]) ?_ 1 _ rfl; (with_reducible repeat (first | refine blk_drewN ?_ _ | refine blk_drew ?_ | refine blk_alloc ?_ _)); refine blk_put (cs := #[.int .i64 0, .slice none 0 0]) ?_ 0 _ rfl; (with_reducible repeat (first | refine blk_drewN ?_ _ | refine blk_drew ?_ | refine blk_alloc ?_ _)); exact BK101.out) Try.underlying30 rfl (by kernel_rfl)) rfl ?_; exact ⟨_, Q10, by (with_reducible repeat (first | apply Kd.R_alloc | apply Kd.R_drewN | apply Kd.R_drew)); exact Kd.R_mono (Kd.R_far (p := ⟨gb101, 1, none⟩) (Kd.R_far (p := ⟨gb101, 0, none⟩) (Kd.R_types HO129.out BK101.out (by decide)) (fun _ hk => hk.2) (.int .i64 t126)) (fun _ hk => hk.2) (.slice Ao42 t127.length co42)) (fun _ hk => trivial), Q4 HI0 NB0_101 NB0_118, Q35 HB HI0 GE101, Q8 HK GW101 GW118⟩
     ·rw [if_neg c29] at H
      have c29b0 := beq_eq_false_iff_ne.mpr c29; have c29b1 := bne_iff_ne.mpr c29
      (first | rw [c29b0] | (simp only [i64_w, i32_w]; rw [c29b0]) | rw [c29b1] | skip)
      by_cases c43 : t119 = 1
      ·rw [if_pos c43] at H
       have c43b0 := beq_iff_eq.mpr c43; have c43b1 := bne_eq_false_iff_eq.mpr c43; clear c43
       by_cases c44 : t114 > 2
       ·rw [if_pos c44] at H
        have c44b0 : decide (2 < t114) = true := decide_eq_true c44; clear c44; replace H := (ob H); obtain ⟨⟨t132, t133⟩, A450, H⟩ := H; (try dsimp only at H); have A45 := Aside0.mk A450; clear A450; replace H := (ob H); obtain ⟨⟨t136, t137, t140, t141⟩, A460, H⟩ := H; (try dsimp only at H); have A46 := Aside0.mk A460; clear A460
        simp only [Option.some.injEq, Prod.mk.injEq] at H
        obtain ⟨rfl, rfl, rfl, rfl⟩ := H
        go_wp2_with (first | ((with_reducible refine gate_callee (f := 113) rfl ?_); refine goesL_ (some 93) rfl rfl Try.func113 (by kernel_rfl) rfl #[.int .i64 t114] rfl Q3 ?_; (with_reducible refine (spec_l2Cycle.calls kj13 t114 t132 t133 _ A45.out).mono ?_); rintro e w47 ⟨v134, rfl, ho0, hb⟩; refine ⟨_, rfl, ?_⟩; have HO135 := am (Kd.R_lower (Kd.R_new' ho0 (Kd.R_lt (Q6 HO117))) (keep_size (w := w) (g := g) (row := none) (Q8 HK GW101 GW118))); replace HO117 := am (Kd.R_elder' (Q6 HO117) (Kd.R_base ho0) hb); replace BK101 := am (blk_below (g := gb101) (o := .cells #[.int .i64 0, .slice none 0 0] 30 (0, 0)) (Q0 BK101) hb); replace BK118 := am (blk_below (g := gb118) (o := .cells #[.int .i64 t114, .slice Ao23 y115.length co23] 30 (0, 0)) (Q0 BK118) hb); replace HK := am (KeepBut.trans (Q8 HK GW101 GW118) (KeepBut.of_below hb g none) (.inl rfl)); replace HB := am (below_step (Q7 HB HI0) hb); replace HI0 := am (IsS96.below (Q4 HI0 NB0_101 NB0_118) hb); (try clear hb); (try clear hb2); (try clear hk); (try clear hi); (try clear ho0); have hnb48 := NB118_101.out; have hnc48 := NB101_118.out; have hnb49 := NB118_0.out; have hnc49 := NB0_118.out; have hcz50_0 : w47.cell? ⟨gb118, 0, none⟩ = some (.int .i64 t114) := (blk_cell BK118.out 0).trans rfl; have hcz50_1 : w47.cell? ⟨gb118, 1, none⟩ = some (.slice Ao23 y115.length co23) := (blk_cell BK118.out 1).trans rfl; have hfz50_0 := blk_frozen BK118.out 0; have hfz50_1 := blk_frozen BK118.out 1; obtain ⟨Ao51, co51, eo51⟩ := Kd.R_slice HO135.out; subst eo51) | ((with_reducible refine gate_store (t := 30) (p := 6) rfl ?_); refine store_event (t := 30) (p := 6) (v := ?vo_w52) (w1 := ((w47.setCell ⟨gb118, 0, none⟩ (.int .i64 t132)).setCell ⟨gb118, 1, none⟩ (.slice Ao51 t133.length co51))) ?hg ?ho ?hn ?hr ?_; (case ho => rfl); (case hg => rfl); (case hn => rfl); (case hr => first | (go_simp; done) | (go_simp; rfl)); intro w52 hw; replace HO117 : Aside0 (Kd.R k71 71 w52 w.heap.size (fun k_ => some k_ ≠ (.slice Ao51 t133.length co51 : Value).ownBlock) (.slice Ao23 y115.length co23) y115) := ⟨(Q146 HO117 BK118)⟩; replace HO135 : Aside0 (Kd.R k71 71 w52 w.heap.size (fun k_ => some k_ ≠ (.slice Ao23 y115.length co23 : Value).ownBlock) (.slice Ao51 t133.length co51) t133) := ⟨(Q146 HO135 BK118)⟩; replace BK101 : Aside0 (w52.heap[gb101]? = some (.cells #[.int .i64 0, .slice none 0 0] 30 (0, 0))) := ⟨(by rw [hw]; exact (Q2 NB101_118 BK101))⟩; replace BK118 : Aside0 (w52.heap[gb118]? = some (.cells #[.int .i64 t132, .slice Ao51 t133.length co51] 30 (0, 0))) := ⟨(by rw [hw]; exact (by (with_reducible repeat (first | refine blk_drewN ?_ _ | refine blk_drew ?_ | refine blk_alloc ?_ _)); refine blk_put (cs := #[.int .i64 t132, .slice Ao23 y115.length co23]) ?_ 1 _ rfl; (with_reducible repeat (first | refine blk_drewN ?_ _ | refine blk_drew ?_ | refine blk_alloc ?_ _)); refine blk_put (cs := #[.int .i64 t114, .slice Ao23 y115.length co23]) ?_ 0 _ rfl; (with_reducible repeat (first | refine blk_drewN ?_ _ | refine blk_drew ?_ | refine blk_alloc ?_ _)); exact BK118.out))⟩; replace HK : Aside0 (KeepBut w w52 g none) := ⟨(by rw [hw]; exact (Q8 HK GW101 GW118))⟩; replace HB : Aside0 (Below w0.heap.size w0 w52) := ⟨(by rw [hw]; exact (Q35 HB HI0 GE118))⟩; replace HI0 : Aside0 (IsS96 w0 w52 g s0_0 t120 t121) := ⟨(by rw [hw]; exact (Q4 HI0 NB0_101 NB0_118))⟩; clear hw; have hcz53_0 : w52.cell? ⟨gb118, 0, none⟩ = some (.int .i64 t132) := (blk_cell BK118.out 0).trans rfl; have hcz53_1 : w52.cell? ⟨gb118, 1, none⟩ = some (.slice Ao51 t133.length co51) := (blk_cell BK118.out 1).trans rfl; have hfz53_0 := blk_frozen BK118.out 0; have hfz53_1 := blk_frozen BK118.out 1) | ((with_reducible refine gate_callee (f := 188) rfl ?_); refine goesL_ (some 100) rfl rfl Try.func188 (by kernel_rfl) rfl #[.pointer (some ⟨g, 0, none⟩), .agg #[.int .i64 t132, .slice Ao51 t133.length co51]] rfl Q3 ?_; (with_reducible refine (spec_l1Cur_marred.calls g s0_0 t120 t121 t132 (fun k_ => some k_ = (.slice Ao51 t133.length co51 : Value).ownBlock) (.slice Ao51 t133.length co51) t133 t136 t137 t140 t141 w0 _ ?side1 ?side2 ?side3 A46.out).mono ?_); (case side1 => exact (Q4 HI0 NB0_101 NB0_118)); (case side2 => exact (Q7 HB HI0)); (case side3 => exact Kd.R_lower (Kd.R_tight rfl HO135.out) HL.out); rintro e w54 ⟨v138, rfl, ho0, hi, hb, hkp⟩; refine ⟨_, rfl, ?_⟩; replace BK101 := am (blk_kept (Q52 BK101) hkp (fun hs_ => Or.elim hs_ (fun hs_ => (fun e_ => (Kd.R_ne HO135.out BK101.out (by decide)) e_) hs_) (fun e_ => NB101_0.out e_))); replace BK118 := am (blk_kept (Q52 BK118) hkp (fun hs_ => Or.elim hs_ (fun hs_ => (fun e_ => (Kd.R_ne HO135.out BK118.out (by decide)) e_) hs_) (fun e_ => NB118_0.out e_))); have HO139 := am (Kd.R_mono (ok' := fun k_ => some k_ ≠ (.slice Ao23 y115.length co23 : Value).ownBlock) (Kd.R_raise (d := k71) (b := w0.heap.size) (b' := w.heap.size) (fun _ _ _ _ h_ => h_) ho0 (fun k_ e_ => Or.elim (ho0.1 k_ e_) (fun hs_ => (fun e_ => Kd.R_base HO135.out k_ e_.symm) hs_) (fun hn_ => Nat.le_trans (keep_size (w := w) (g := g) (row := none) (Q8 HK GW101 GW118)) hn_))) (fun k_ hk_ => Or.elim hk_ (fun hs_ => fun e_ => ((((IsS96.apart HI0.out HO117.out (by decide))).1 k_ e_.symm).1) hs_) (fun hn_ => (Kd.fresh' (Kd.R_lt (Q6 HO117)) k_ hn_)))); replace HO117 := am (Kd.R_mono (ok' := fun k_ => some k_ ≠ (v138 : Value).ownBlock) (Kd.R_keptB ((IsS96.apart HI0.out HO117.out (by decide))) hkp (fun k_ hk_ hs_ => Or.elim hs_ (fun hs_ => (hk_.1) hs_) (fun e_ => (hk_.2) e_))) (fun k_ hk_ => fun e_ => Or.elim (ho0.1 k_ e_.symm) (fun hs_ => hk_.2.1 (by first | exact .inl hs_ | exact hs_)) (fun hn_ => Nat.not_le.2 hk_.2.2 hn_))); replace HI0 := am (hi); replace HK := am (Kept.keepG (Q8 HK GW101 GW118) hkp (fun k_ hs_ => Or.elim hs_ (fun hs_ => (fun e_ => .inr (Kd.R_base HO135.out k_ e_.symm)) hs_) (fun e_ => .inl e_))); replace HB := am (hb); clear HO135; (try clear hb); (try clear hkp); (try clear ho0); have hnb55 := NB101_0.out; have hnc55 := NB0_101.out; have hcz56_0 : w54.cell? ⟨gb101, 0, none⟩ = some (.int .i64 0) := (blk_cell BK101.out 0).trans rfl; have hcz56_1 : w54.cell? ⟨gb101, 1, none⟩ = some (.slice none 0 0) := (blk_cell BK101.out 1).trans rfl; have hfz56_0 := blk_frozen BK101.out 0; have hfz56_1 := blk_frozen BK101.out 1; obtain ⟨Ao57, co57, eo57⟩ := Kd.R_slice HO139.out; subst eo57))
        refine bodyPost_ret (results_cell_row rfl _ _ gb101 30 #[.int .i64 t136, .slice Ao57 t137.length co57] (0, 0) _ rfl (by (with_reducible repeat (first | refine blk_drewN ?_ _ | refine blk_drew ?_ | refine blk_alloc ?_ _)); refine blk_put (cs := #[.int .i64 t136, .slice none 0 0]) ?_ 1 _ rfl; (with_reducible repeat (first | refine blk_drewN ?_ _ | refine blk_drew ?_ | refine blk_alloc ?_ _)); refine blk_put (cs := #[.int .i64 0, .slice none 0 0]) ?_ 0 _ rfl; (with_reducible repeat (first | refine blk_drewN ?_ _ | refine blk_drew ?_ | refine blk_alloc ?_ _)); exact BK101.out) Try.underlying30 rfl (by kernel_rfl)) rfl ?_; exact ⟨_, Q10, by (with_reducible repeat (first | apply Kd.R_alloc | apply Kd.R_drewN | apply Kd.R_drew)); exact Kd.R_mono (Kd.R_far (p := ⟨gb101, 1, none⟩) (Kd.R_far (p := ⟨gb101, 0, none⟩) (Kd.R_types HO139.out BK101.out (by decide)) (fun _ hk => hk.2) (.int .i64 t136)) (fun _ hk => hk.2) (.slice Ao57 t137.length co57)) (fun _ hk => trivial), Q4 HI0 NB0_101 NB0_118, Q35 HB HI0 GE101, Q8 HK GW101 GW118⟩
       ·rw [if_neg c44] at H
        have c44b0 : decide (2 < t114) = false := decide_eq_false c44; clear c44; replace H := (ob H); obtain ⟨⟨t142, t143, t146, t147⟩, A580, H⟩ := H; (try dsimp only at H); have A58 := Aside0.mk A580; clear A580
        simp only [Option.some.injEq, Prod.mk.injEq] at H
        obtain ⟨rfl, rfl, rfl, rfl⟩ := H; have hnb59 := NB118_101.out; have hnc59 := NB101_118.out; have hnb60 := NB118_0.out; have hnc60 := NB0_118.out; have hcz61_0 : w28.cell? ⟨gb118, 0, none⟩ = some (.int .i64 t114) := (blk_cell BK118.out 0).trans rfl; have hcz61_1 : w28.cell? ⟨gb118, 1, none⟩ = some (.slice Ao23 y115.length co23) := (blk_cell BK118.out 1).trans rfl; have hfz61_0 := blk_frozen BK118.out 0; have hfz61_1 := blk_frozen BK118.out 1
        go_wp2_with (first | ((with_reducible refine gate_callee (f := 188) rfl ?_); refine goesL_ (some 100) rfl rfl Try.func188 (by kernel_rfl) rfl #[.pointer (some ⟨g, 0, none⟩), .agg #[.int .i64 t114, .slice Ao23 y115.length co23]] rfl Q3 ?_; (with_reducible refine (spec_l1Cur_marred.calls g s0_0 t120 t121 t114 (fun k_ => some k_ = (.slice Ao23 y115.length co23 : Value).ownBlock) (.slice Ao23 y115.length co23) y115 t142 t143 t146 t147 w0 _ ?side1 ?side2 ?side3 A58.out).mono ?_); (case side1 => exact (Q4 HI0 NB0_101 NB0_118)); (case side2 => exact (Q7 HB HI0)); (case side3 => exact Kd.R_lower (Kd.R_tight rfl HO117.out) HL.out); rintro e w62 ⟨v144, rfl, ho0, hi, hb, hkp⟩; refine ⟨_, rfl, ?_⟩; replace BK101 := am (blk_kept (Q52 BK101) hkp (fun hs_ => Or.elim hs_ (fun hs_ => (fun e_ => (Kd.R_ne HO117.out BK101.out (by decide)) e_) hs_) (fun e_ => NB101_0.out e_))); replace HI0 := am (hi); replace BK118 := am (blk_kept (Q52 BK118) hkp (fun hs_ => Or.elim hs_ (fun hs_ => (fun e_ => (Kd.R_ne HO117.out BK118.out (by decide)) e_) hs_) (fun e_ => NB118_0.out e_))); have HO145 := am (Kd.R_mono (ok' := fun k_ => True) (Kd.R_raise (d := k71) (b := w0.heap.size) (b' := w.heap.size) (fun _ _ _ _ h_ => h_) ho0 (fun k_ e_ => Or.elim (ho0.1 k_ e_) (fun hs_ => (fun e_ => Kd.R_base HO117.out k_ e_.symm) hs_) (fun hn_ => Nat.le_trans (keep_size (w := w) (g := g) (row := none) (Q8 HK GW101 GW118)) hn_))) (fun k_ hk_ => trivial)); replace HK := am (Kept.keepG (Q8 HK GW101 GW118) hkp (fun k_ hs_ => Or.elim hs_ (fun hs_ => (fun e_ => .inr (Kd.R_base HO117.out k_ e_.symm)) hs_) (fun e_ => .inl e_))); replace HB := am (hb); clear HO117; (try clear hb); (try clear hkp); (try clear ho0); have hnb63 := NB101_0.out; have hnc63 := NB0_101.out; have hcz64_0 : w62.cell? ⟨gb101, 0, none⟩ = some (.int .i64 0) := (blk_cell BK101.out 0).trans rfl; have hcz64_1 : w62.cell? ⟨gb101, 1, none⟩ = some (.slice none 0 0) := (blk_cell BK101.out 1).trans rfl; have hfz64_0 := blk_frozen BK101.out 0; have hfz64_1 := blk_frozen BK101.out 1; obtain ⟨Ao65, co65, eo65⟩ := Kd.R_slice HO145.out; subst eo65))
        refine bodyPost_ret (results_cell_row rfl _ _ gb101 30 #[.int .i64 t142, .slice Ao65 t143.length co65] (0, 0) _ rfl (by (with_reducible repeat (first | refine blk_drewN ?_ _ | refine blk_drew ?_ | refine blk_alloc ?_ _)); refine blk_put (cs := #[.int .i64 t142, .slice none 0 0]) ?_ 1 _ rfl; (with_reducible repeat (first | refine blk_drewN ?_ _ | refine blk_drew ?_ | refine blk_alloc ?_ _)); refine blk_put (cs := #[.int .i64 0, .slice none 0 0]) ?_ 0 _ rfl; (with_reducible repeat (first | refine blk_drewN ?_ _ | refine blk_drew ?_ | refine blk_alloc ?_ _)); exact BK101.out) Try.underlying30 rfl (by kernel_rfl)) rfl ?_; exact ⟨_, Q10, by (with_reducible repeat (first | apply Kd.R_alloc | apply Kd.R_drewN | apply Kd.R_drew)); exact Kd.R_mono (Kd.R_far (p := ⟨gb101, 1, none⟩) (Kd.R_far (p := ⟨gb101, 0, none⟩) (Kd.R_types HO145.out BK101.out (by decide)) (fun _ hk => hk.2) (.int .i64 t142)) (fun _ hk => hk.2) (.slice Ao65 t143.length co65)) (fun _ hk => trivial), Q4 HI0 NB0_101 NB0_118, Q35 HB HI0 GE101, Q8 HK GW101 GW118⟩
      ·rw [if_neg c43] at H
       have c43b0 := beq_eq_false_iff_ne.mpr c43; have c43b1 := bne_iff_ne.mpr c43
       by_cases c66 : t119 = 2
       ·rw [if_pos c66] at H
        have c66b0 := beq_iff_eq.mpr c66; have c66b1 := bne_eq_false_iff_eq.mpr c66; clear c66; replace H := (ob H); obtain ⟨⟨t148, t149⟩, A670, H⟩ := H; (try dsimp only at H); have A67 := Aside0.mk A670; clear A670; replace H := (ob H); obtain ⟨⟨t152, t153, t156, t157⟩, A680, H⟩ := H; (try dsimp only at H); have A68 := Aside0.mk A680; clear A680
        simp only [Option.some.injEq, Prod.mk.injEq] at H
        obtain ⟨rfl, rfl, rfl, rfl⟩ := H
        go_wp2_with (first | ((with_reducible refine gate_callee (f := 115) rfl ?_); refine goesL_ (some 97) rfl rfl Try.func115 (by kernel_rfl) rfl #[.int .i64 t114] rfl Q3 ?_; (with_reducible refine (spec_l2Complete.calls kj13 t114 t148 t149 _ A67.out).mono ?_); rintro e w69 ⟨v150, rfl, ho0, hb⟩; refine ⟨_, rfl, ?_⟩; have HO151 := am (Kd.R_lower (Kd.R_new' ho0 (Kd.R_lt (Q6 HO117))) (keep_size (w := w) (g := g) (row := none) (Q8 HK GW101 GW118))); replace HO117 := am (Kd.R_elder' (Q6 HO117) (Kd.R_base ho0) hb); replace BK101 := am (blk_below (g := gb101) (o := .cells #[.int .i64 0, .slice none 0 0] 30 (0, 0)) (Q0 BK101) hb); replace BK118 := am (blk_below (g := gb118) (o := .cells #[.int .i64 t114, .slice Ao23 y115.length co23] 30 (0, 0)) (Q0 BK118) hb); replace HK := am (KeepBut.trans (Q8 HK GW101 GW118) (KeepBut.of_below hb g none) (.inl rfl)); replace HB := am (below_step (Q7 HB HI0) hb); replace HI0 := am (IsS96.below (Q4 HI0 NB0_101 NB0_118) hb); (try clear hb); (try clear hb2); (try clear hk); (try clear hi); (try clear ho0); have hnb70 := NB118_101.out; have hnc70 := NB101_118.out; have hnb71 := NB118_0.out; have hnc71 := NB0_118.out; have hcz72_0 : w69.cell? ⟨gb118, 0, none⟩ = some (.int .i64 t114) := (blk_cell BK118.out 0).trans rfl; have hcz72_1 : w69.cell? ⟨gb118, 1, none⟩ = some (.slice Ao23 y115.length co23) := (blk_cell BK118.out 1).trans rfl; have hfz72_0 := blk_frozen BK118.out 0; have hfz72_1 := blk_frozen BK118.out 1; obtain ⟨Ao73, co73, eo73⟩ := Kd.R_slice HO151.out; subst eo73) | ((with_reducible refine gate_store (t := 30) (p := 6) rfl ?_); refine store_event (t := 30) (p := 6) (v := ?vo_w74) (w1 := ((w69.setCell ⟨gb118, 0, none⟩ (.int .i64 t148)).setCell ⟨gb118, 1, none⟩ (.slice Ao73 t149.length co73))) ?hg ?ho ?hn ?hr ?_; (case ho => rfl); (case hg => rfl); (case hn => rfl); (case hr => first | (go_simp; done) | (go_simp; rfl)); intro w74 hw; replace HO117 : Aside0 (Kd.R k71 71 w74 w.heap.size (fun k_ => some k_ ≠ (.slice Ao73 t149.length co73 : Value).ownBlock) (.slice Ao23 y115.length co23) y115) := ⟨(Q147 HO117 BK118)⟩; replace HO151 : Aside0 (Kd.R k71 71 w74 w.heap.size (fun k_ => some k_ ≠ (.slice Ao23 y115.length co23 : Value).ownBlock) (.slice Ao73 t149.length co73) t149) := ⟨(Q147 HO151 BK118)⟩; replace BK101 : Aside0 (w74.heap[gb101]? = some (.cells #[.int .i64 0, .slice none 0 0] 30 (0, 0))) := ⟨(by rw [hw]; exact (Q2 NB101_118 BK101))⟩; replace BK118 : Aside0 (w74.heap[gb118]? = some (.cells #[.int .i64 t148, .slice Ao73 t149.length co73] 30 (0, 0))) := ⟨(by rw [hw]; exact (by (with_reducible repeat (first | refine blk_drewN ?_ _ | refine blk_drew ?_ | refine blk_alloc ?_ _)); refine blk_put (cs := #[.int .i64 t148, .slice Ao23 y115.length co23]) ?_ 1 _ rfl; (with_reducible repeat (first | refine blk_drewN ?_ _ | refine blk_drew ?_ | refine blk_alloc ?_ _)); refine blk_put (cs := #[.int .i64 t114, .slice Ao23 y115.length co23]) ?_ 0 _ rfl; (with_reducible repeat (first | refine blk_drewN ?_ _ | refine blk_drew ?_ | refine blk_alloc ?_ _)); exact BK118.out))⟩; replace HK : Aside0 (KeepBut w w74 g none) := ⟨(by rw [hw]; exact (Q8 HK GW101 GW118))⟩; replace HB : Aside0 (Below w0.heap.size w0 w74) := ⟨(by rw [hw]; exact (Q35 HB HI0 GE118))⟩; replace HI0 : Aside0 (IsS96 w0 w74 g s0_0 t120 t121) := ⟨(by rw [hw]; exact (Q4 HI0 NB0_101 NB0_118))⟩; clear hw; have hcz75_0 : w74.cell? ⟨gb118, 0, none⟩ = some (.int .i64 t148) := (blk_cell BK118.out 0).trans rfl; have hcz75_1 : w74.cell? ⟨gb118, 1, none⟩ = some (.slice Ao73 t149.length co73) := (blk_cell BK118.out 1).trans rfl; have hfz75_0 := blk_frozen BK118.out 0; have hfz75_1 := blk_frozen BK118.out 1) | ((with_reducible refine gate_callee (f := 188) rfl ?_); refine goesL_ (some 100) rfl rfl Try.func188 (by kernel_rfl) rfl #[.pointer (some ⟨g, 0, none⟩), .agg #[.int .i64 t148, .slice Ao73 t149.length co73]] rfl Q3 ?_; (with_reducible refine (spec_l1Cur_marred.calls g s0_0 t120 t121 t148 (fun k_ => some k_ = (.slice Ao73 t149.length co73 : Value).ownBlock) (.slice Ao73 t149.length co73) t149 t152 t153 t156 t157 w0 _ ?side1 ?side2 ?side3 A68.out).mono ?_); (case side1 => exact (Q4 HI0 NB0_101 NB0_118)); (case side2 => exact (Q7 HB HI0)); (case side3 => exact Kd.R_lower (Kd.R_tight rfl HO151.out) HL.out); rintro e w76 ⟨v154, rfl, ho0, hi, hb, hkp⟩; refine ⟨_, rfl, ?_⟩; replace BK101 := am (blk_kept (Q52 BK101) hkp (fun hs_ => Or.elim hs_ (fun hs_ => (fun e_ => (Kd.R_ne HO151.out BK101.out (by decide)) e_) hs_) (fun e_ => NB101_0.out e_))); replace BK118 := am (blk_kept (Q52 BK118) hkp (fun hs_ => Or.elim hs_ (fun hs_ => (fun e_ => (Kd.R_ne HO151.out BK118.out (by decide)) e_) hs_) (fun e_ => NB118_0.out e_))); have HO155 := am (Kd.R_mono (ok' := fun k_ => some k_ ≠ (.slice Ao23 y115.length co23 : Value).ownBlock) (Kd.R_raise (d := k71) (b := w0.heap.size) (b' := w.heap.size) (fun _ _ _ _ h_ => h_) ho0 (fun k_ e_ => Or.elim (ho0.1 k_ e_) (fun hs_ => (fun e_ => Kd.R_base HO151.out k_ e_.symm) hs_) (fun hn_ => Nat.le_trans (keep_size (w := w) (g := g) (row := none) (Q8 HK GW101 GW118)) hn_))) (fun k_ hk_ => Or.elim hk_ (fun hs_ => fun e_ => ((((IsS96.apart HI0.out HO117.out (by decide))).1 k_ e_.symm).1) hs_) (fun hn_ => (Kd.fresh' (Kd.R_lt (Q6 HO117)) k_ hn_)))); replace HO117 := am (Kd.R_mono (ok' := fun k_ => some k_ ≠ (v154 : Value).ownBlock) (Kd.R_keptB ((IsS96.apart HI0.out HO117.out (by decide))) hkp (fun k_ hk_ hs_ => Or.elim hs_ (fun hs_ => (hk_.1) hs_) (fun e_ => (hk_.2) e_))) (fun k_ hk_ => fun e_ => Or.elim (ho0.1 k_ e_.symm) (fun hs_ => hk_.2.1 (by first | exact .inl hs_ | exact hs_)) (fun hn_ => Nat.not_le.2 hk_.2.2 hn_))); replace HI0 := am (hi); replace HK := am (Kept.keepG (Q8 HK GW101 GW118) hkp (fun k_ hs_ => Or.elim hs_ (fun hs_ => (fun e_ => .inr (Kd.R_base HO151.out k_ e_.symm)) hs_) (fun e_ => .inl e_))); replace HB := am (hb); clear HO151; (try clear hb); (try clear hkp); (try clear ho0); have hnb77 := NB101_0.out; have hnc77 := NB0_101.out; have hcz78_0 : w76.cell? ⟨gb101, 0, none⟩ = some (.int .i64 0) := (blk_cell BK101.out 0).trans rfl; have hcz78_1 : w76.cell? ⟨gb101, 1, none⟩ = some (.slice none 0 0) := (blk_cell BK101.out 1).trans rfl; have hfz78_0 := blk_frozen BK101.out 0; have hfz78_1 := blk_frozen BK101.out 1; obtain ⟨Ao79, co79, eo79⟩ := Kd.R_slice HO155.out; subst eo79))
        refine bodyPost_ret (results_cell_row rfl _ _ gb101 30 #[.int .i64 t152, .slice Ao79 t153.length co79] (0, 0) _ rfl (by (with_reducible repeat (first | refine blk_drewN ?_ _ | refine blk_drew ?_ | refine blk_alloc ?_ _)); refine blk_put (cs := #[.int .i64 t152, .slice none 0 0]) ?_ 1 _ rfl; (with_reducible repeat (first | refine blk_drewN ?_ _ | refine blk_drew ?_ | refine blk_alloc ?_ _)); refine blk_put (cs := #[.int .i64 0, .slice none 0 0]) ?_ 0 _ rfl; (with_reducible repeat (first | refine blk_drewN ?_ _ | refine blk_drew ?_ | refine blk_alloc ?_ _)); exact BK101.out) Try.underlying30 rfl (by kernel_rfl)) rfl ?_; exact ⟨_, Q10, by (with_reducible repeat (first | apply Kd.R_alloc | apply Kd.R_drewN | apply Kd.R_drew)); exact Kd.R_mono (Kd.R_far (p := ⟨gb101, 1, none⟩) (Kd.R_far (p := ⟨gb101, 0, none⟩) (Kd.R_types HO155.out BK101.out (by decide)) (fun _ hk => hk.2) (.int .i64 t152)) (fun _ hk => hk.2) (.slice Ao79 t153.length co79)) (fun _ hk => trivial), Q4 HI0 NB0_101 NB0_118, Q35 HB HI0 GE101, Q8 HK GW101 GW118⟩
       ·rw [if_neg c66] at H
        have c66b0 := beq_eq_false_iff_ne.mpr c66; have c66b1 := bne_iff_ne.mpr c66; obtain ⟨y158, hy158⟩ : ∃ y_ : List Int, y_ = (([3, 4, 6] : List Int)) := ⟨_, rfl⟩; replace H : ((spec_l1Cur_among.f s0_0 t120 t121 y158).bind fun bt161 => ((spec_l1Cur_one.f s0_0 bt161.2.1 bt161.2.2 6).bind fun bt164 => (spec_l1Cur_someGraph.l0 kj13 t114 bt161.1 bt164.1 0 s0_0 bt164.2.1 bt164.2.2 t114 y115))) = some (r1, r2, r3, r4) := RH hy158 H; have Ny158 := Aside0.mk hy158; clear hy158; replace H := (ob H); obtain ⟨⟨t161, t162, t163⟩, A800, H⟩ := H; (try dsimp only at H); have A80 := Aside0.mk A800; clear A800; replace H := (ob H); obtain ⟨⟨t164, t165, t166⟩, A810, H⟩ := H; (try dsimp only at H); have A81 := Aside0.mk A810; clear A810; have H' := Aside0.mk H; clear H
        go_wp2_with (first | ((with_reducible refine gate_dst (N := 33) rfl ?_); refine Kd.R_lit (Kd.int .i64) _ 3 ?hg (N := 33) ?hd (xs := ([3, 4, 6] : List Int)) (inner := [.int .i64 3, .int .i64 4, .int .i64 6]) (ok := fun _ => True) (okp := fun _ => True) ?hr ?hp (fun _ hk => hk) trivial (Below.refl _ _) (Nat.le_refl _) (by simp) ?_; (case hd => rfl); (case hg => rfl); (case hr => first | (go_simp; done) | (go_simp; rfl)); (case hp => exact (Reps.one (show Kd.M (Kd.int .i64) _ _ _ 3 [.int .i64 3] from rfl) (Reps.one (show Kd.M (Kd.int .i64) _ _ _ 4 [.int .i64 4] from rfl) (Reps.one (show Kd.M (Kd.int .i64) _ _ _ 6 [.int .i64 6] from rfl) (Reps.none _ _))))); intro v159 w82 ho83 hb hg_ hnew_; clear hg_ hnew_; (first | rw [← Ny158.out] at ho83 | (simp only [Int.reduceToNat] at ho83; rw [← Ny158.out] at ho83)); replace HO117 := am (Kd.R_below (Q6 HO117) hb); have HO160 := am (Kd.R_lower ho83 (keep_size (w := w) (g := g) (row := none) (Q8 HK GW101 GW118))); replace BK101 := am (blk_below (g := gb101) (o := .cells #[.int .i64 0, .slice none 0 0] 30 (0, 0)) (Q0 BK101) hb); replace BK118 := am (blk_below (g := gb118) (o := .cells #[.int .i64 t114, .slice Ao23 y115.length co23] 30 (0, 0)) (Q0 BK118) hb); replace HK := am (KeepBut.trans (Q8 HK GW101 GW118) (KeepBut.of_below hb g none) (.inl rfl)); replace HB := am (below_step (Q7 HB HI0) hb); replace HI0 := am (IsS96.below (Q4 HI0 NB0_101 NB0_118) hb); clear hb ho83; obtain ⟨Ao84, co84, eo84⟩ := Kd.R_slice HO160.out; subst eo84) | ((with_reducible refine gate_callee (f := 106) rfl ?_); refine goesL_ (some 34) rfl rfl Try.func106 (by kernel_rfl) rfl #[.pointer (some ⟨g, 0, none⟩), .slice Ao84 y158.length co84] rfl Q3 ?_; (with_reducible refine (spec_l1Cur_among.calls g s0_0 t120 t121 _ _ y158 t161 t162 t163 w0 _ ?side1 ?side2 ?side3 ?side4 ?side5 A80.out).mono ?_); (case side1 => exact (Q4 HI0 NB0_101 NB0_118)); (case side2 => exact (Q7 HB HI0)); (case side3 => exact (Q36 HO160)); (case side4 => exact (Kd.R_reads' HO160.out).2.1); (case side5 => exact far_slice (IsS96.own_ne HI0.out HO160.out (by decide))); rintro e w85 ⟨rfl, hi, hb, hk⟩; refine ⟨_, rfl, ?_⟩; replace BK101 := am (KeepBut.blk hk (g' := gb101) (o := .cells #[.int .i64 0, .slice none 0 0] 30 (0, 0)) (Q0 BK101) NB101_0.out (by simp)); replace HO117 := am (Kd.R_mono (Kd.R_keep (IsS96.apart (show IsS96 w0 _ g s0_0 t120 t121 from Q4 HI0 NB0_101 NB0_118) (Q6 HO117) (by decide)) hk (fun _ h => h.2)) (fun _ h => h.1)); replace BK118 := am (KeepBut.blk hk (g' := gb118) (o := .cells #[.int .i64 t114, .slice Ao23 y115.length co23] 30 (0, 0)) (Q0 BK118) NB118_0.out (by simp)); replace HO160 := am (Kd.R_mono (Kd.R_keep (IsS96.apart (show IsS96 w0 _ g s0_0 t120 t121 from Q4 HI0 NB0_101 NB0_118) (Q6 HO160) (by decide)) hk (fun _ h => h.2)) (fun _ h => h.1)); replace HK := am (KeepBut.trans (Q8 HK GW101 GW118) hk (.inl rfl)); replace HB := am (hb); replace HI0 := am (hi); (try clear hb); (try clear hb2); (try clear hk); (try clear hi)) | ((with_reducible refine gate_callee (f := 129) rfl ?_); refine goesL_ (some 36) rfl rfl Try.func129 (by kernel_rfl) rfl #[.pointer (some ⟨g, 0, none⟩), .int .i64 6] rfl Q3 ?_; (with_reducible refine (spec_l1Cur_one.calls g s0_0 t162 t163 6 t164 t165 t166 w0 _ ?side1 ?side2 A81.out).mono ?_); (case side1 => exact (Q4 HI0 NB0_101 NB0_118)); (case side2 => exact (Q7 HB HI0)); rintro e w86 ⟨rfl, hi, hb, hk⟩; refine ⟨_, rfl, ?_⟩; replace BK101 := am (KeepBut.blk hk (g' := gb101) (o := .cells #[.int .i64 0, .slice none 0 0] 30 (0, 0)) (Q0 BK101) NB101_0.out (by simp)); replace HO117 := am (Kd.R_mono (Kd.R_keep (IsS96.apart (show IsS96 w0 _ g s0_0 t162 t163 from Q4 HI0 NB0_101 NB0_118) (Q6 HO117) (by decide)) hk (fun _ h => h.2)) (fun _ h => h.1)); replace BK118 := am (KeepBut.blk hk (g' := gb118) (o := .cells #[.int .i64 t114, .slice Ao23 y115.length co23] 30 (0, 0)) (Q0 BK118) NB118_0.out (by simp)); replace HO160 := am (Kd.R_mono (Kd.R_keep (IsS96.apart (show IsS96 w0 _ g s0_0 t162 t163 from Q4 HI0 NB0_101 NB0_118) (Q6 HO160) (by decide)) hk (fun _ h => h.2)) (fun _ h => h.1)); replace HK := am (KeepBut.trans (Q8 HK GW101 GW118) hk (.inl rfl)); replace HB := am (hb); replace HI0 := am (hi); (try clear hb); (try clear hb2); (try clear hk); (try clear hi)))
        go_loopg [9] kj13 (fun kq v9 w' => ∃ (x9_3 : Int) (x1001_3 : Int) (x1002_3 : Int) (x119001_3 : List (S71)) (u119001 : Value), v9 = .int .i64 x9_3 ∧ Aside0 (spec_l1Cur_someGraph.l0 kq t114 t161 t164 x9_3 s0_0 x1001_3 x1002_3 t114 x119001_3 = some (r1, r2, r3, r4)) ∧ Aside0 (kq ≤ kj13) ∧ Aside0 (Kd.R k71 71 w' w.heap.size (fun _ => True) u119001 x119001_3) ∧ Aside0 (w'.heap[gb101]? = some (.cells #[.int .i64 0, (.slice none 0 0)] 30 (0, 0))) ∧ Aside0 (w'.heap[gb118]? = some (.cells #[.int .i64 t114, u119001] 30 (0, 0))) ∧ Aside0 (IsS96 w0 w' g s0_0 x1001_3 x1002_3) ∧ Aside0 (KeepBut w w' g none) ∧ Aside0 (Below w0.heap.size w0 w'))
        case atStart => exact ⟨(0), (t165), (t166), (y115), (.slice Ao23 y115.length co23), Q11, H', ⟨Nat.le_refl _⟩, ⟨Q6 HO117⟩, ⟨Q0 BK101⟩, ⟨Q0 BK118⟩, ⟨Q4 HI0 NB0_101 NB0_118⟩, ⟨Q8 HK GW101 GW118⟩, ⟨Q7 HB HI0⟩⟩
        case round =>
         clear H'
         try clear c1
         try clear c2
         try clear p2
         try clear c3
         try clear c4
         try clear c5
         try clear c6
         try clear p6
         try clear c7
         try clear c10
         try clear c11
         try clear c11b0
         try clear c12
         try clear c14
         try clear c15
         try clear c18
         try clear c25
         try clear c26
         try clear c29
         try clear c29b0
         try clear c29b1
         try clear c33
         try clear c34
         try clear c40
         try clear c43
         try clear c43b0
         try clear c43b1
         try clear c44
         try clear c44b0
         try clear c48
         try clear c49
         try clear c55
         try clear c59
         try clear c60
         try clear c63
         try clear p64
         try clear c66
         try clear c66b0
         try clear c66b1
         try clear c70
         try clear c71
         try clear c77
         try clear hcz27_0
         try clear hcz27_1
         try clear hcz35_0
         try clear hcz35_1
         try clear hcz38_0
         try clear hcz38_1
         try clear hcz41_0
         try clear hcz41_1
         try clear hcz50_0
         try clear hcz50_1
         try clear hcz53_0
         try clear hcz53_1
         try clear hcz56_0
         try clear hcz56_1
         try clear hcz61_0
         try clear hcz61_1
         try clear hcz64_0
         try clear hcz64_1
         try clear hcz72_0
         try clear hcz72_1
         try clear hcz75_0
         try clear hcz75_1
         try clear hcz78_0
         try clear hcz78_1
         try clear hfz27_0
         try clear hfz27_1
         try clear hfz35_0
         try clear hfz35_1
         try clear hfz38_0
         try clear hfz38_1
         try clear hfz41_0
         try clear hfz41_1
         try clear hfz50_0
         try clear hfz50_1
         try clear hfz53_0
         try clear hfz53_1
         try clear hfz56_0
         try clear hfz56_1
         try clear hfz61_0
         try clear hfz61_1
         try clear hfz64_0
         try clear hfz64_1
         try clear hfz72_0
         try clear hfz72_1
         try clear hfz75_0
         try clear hfz75_1
         try clear hfz78_0
         try clear hfz78_1
         try clear p2
         try clear p6
         obtain ⟨x9_3, x1001_3, x1002_3, x119001_3, u119001, rfl, HA, HK3, HO_119001, BK101, BK118, HI0, HK, HB⟩ := hrel
         cases gk with
         | zero => exact absurd HA.out (by simp [spec_l1Cur_someGraph.l0])
         | succ k3 =>
          have H := HA.out; clear HA
          simp only [spec_l1Cur_someGraph.l0] at H
          by_cases c87 : x9_3 < t114
          ·rw [if_pos c87] at H
           have c87b0 := decide_eq_true c87; clear c87; have H' := Aside0.mk H; clear H
           go_wp2
           go_loopg [10] k3 (fun kq v10 w' => ∃ (x10_4 : Int) (x1001_4 : Int) (x1002_4 : Int) (x119001_4 : List (S71)) (u119001 : Value), v10 = .int .i64 x10_4 ∧ Aside0 (spec_l1Cur_someGraph.l1 kq t114 t161 t164 x9_3 x10_4 s0_0 x1001_4 x1002_4 t114 x119001_4 = some (r1, r2, r3, r4)) ∧ Aside0 (kq ≤ k3) ∧ Aside0 (Kd.R k71 71 w' w.heap.size (fun _ => True) u119001 x119001_4) ∧ Aside0 (w'.heap[gb101]? = some (.cells #[.int .i64 0, (.slice none 0 0)] 30 (0, 0))) ∧ Aside0 (w'.heap[gb118]? = some (.cells #[.int .i64 t114, u119001] 30 (0, 0))) ∧ Aside0 (IsS96 w0 w' g s0_0 x1001_4 x1002_4) ∧ Aside0 (KeepBut w w' g none) ∧ Aside0 (Below w0.heap.size w0 w'))
           case atStart => exact ⟨(wrap64 (x9_3 + 1)), (x1001_3), (x1002_3), (x119001_3), (u119001), Q11, H', ⟨Nat.le_refl _⟩, ⟨Q49⟩, ⟨Q0 BK101⟩, ⟨Q0 BK118⟩, ⟨Q4 HI0 NB0_101 NB0_118⟩, ⟨Q8 HK GW101 GW118⟩, ⟨Q7 HB HI0⟩⟩
           case round =>
            clear H'
            try clear c1
            try clear c2
            try clear p2
            try clear c3
            try clear c4
            try clear c5
            try clear c6
            try clear p6
            try clear c7
            try clear c8
            try clear c10
            try clear c11
            try clear c11b0
            try clear c12
            try clear c14
            try clear c15
            try clear c18
            try clear c25
            try clear c26
            try clear c29
            try clear c29b0
            try clear c29b1
            try clear c33
            try clear c34
            try clear c40
            try clear c43
            try clear c43b0
            try clear c43b1
            try clear c44
            try clear c44b0
            try clear c48
            try clear c49
            try clear c55
            try clear c59
            try clear c60
            try clear c63
            try clear p64
            try clear c66
            try clear c66b0
            try clear c66b1
            try clear c70
            try clear c71
            try clear c77
            try clear c87
            try clear c87b0
            try clear hcz27_0
            try clear hcz27_1
            try clear hcz35_0
            try clear hcz35_1
            try clear hcz38_0
            try clear hcz38_1
            try clear hcz41_0
            try clear hcz41_1
            try clear hcz50_0
            try clear hcz50_1
            try clear hcz53_0
            try clear hcz53_1
            try clear hcz56_0
            try clear hcz56_1
            try clear hcz61_0
            try clear hcz61_1
            try clear hcz64_0
            try clear hcz64_1
            try clear hcz72_0
            try clear hcz72_1
            try clear hcz75_0
            try clear hcz75_1
            try clear hcz78_0
            try clear hcz78_1
            try clear hfz27_0
            try clear hfz27_1
            try clear hfz35_0
            try clear hfz35_1
            try clear hfz38_0
            try clear hfz38_1
            try clear hfz41_0
            try clear hfz41_1
            try clear hfz50_0
            try clear hfz50_1
            try clear hfz53_0
            try clear hfz53_1
            try clear hfz56_0
            try clear hfz56_1
            try clear hfz61_0
            try clear hfz61_1
            try clear hfz64_0
            try clear hfz64_1
            try clear hfz72_0
            try clear hfz72_1
            try clear hfz75_0
            try clear hfz75_1
            try clear hfz78_0
            try clear hfz78_1
            try clear p2
            try clear p6
            try clear p64
            obtain ⟨x10_4, x1001_4, x1002_4, x119001_4, u119001, rfl, HA, HK4, HO_119001, BK101, BK118, HI0, HK, HB⟩ := hrel
            cases gk with
            | zero => exact absurd HA.out (by simp [spec_l1Cur_someGraph.l1])
            | succ k4 =>
             have H := HA.out; clear HA
             simp only [spec_l1Cur_someGraph.l1] at H
             by_cases c88 : x10_4 < t114
             ·rw [if_pos c88] at H
              have c88b0 := decide_eq_true c88; clear c88; replace H := (ob H); obtain ⟨⟨t173, t174, t175⟩, A890, H⟩ := H; (try dsimp only at H); have A89 := Aside0.mk A890; clear A890; have HU90 := Aside0.mk H; clear H
              go_upto_if 52 with (first | ((with_reducible refine gate_callee (f := 141) rfl ?_); refine goesL_ (some 51) rfl rfl Try.func141 (by kernel_rfl) rfl #[.pointer (some ⟨g, 0, none⟩), .int .i64 t161] rfl Q3 ?_; (with_reducible refine (spec_l1Cur_pick.calls g s0_0 x1001_4 x1002_4 t161 t173 t174 t175 w0 _ ?side1 ?side2 A89.out).mono ?_); (case side1 => exact (Q4 HI0 NB0_101 NB0_118)); (case side2 => exact (Q7 HB HI0)); rintro e w91 ⟨rfl, hi, hb, hk⟩; refine ⟨_, rfl, ?_⟩; replace HO_119001 := am (Kd.R_mono (Kd.R_keep (IsS96.apart (show IsS96 w0 _ g s0_0 x1001_4 x1002_4 from Q4 HI0 NB0_101 NB0_118) Q49 (by decide)) hk (fun _ h => h.2)) (fun _ h => h.1)); replace BK101 := am (KeepBut.blk hk (g' := gb101) (o := .cells #[.int .i64 0, .slice none 0 0] 30 (0, 0)) (Q0 BK101) NB101_0.out (by simp)); replace BK118 := am (KeepBut.blk hk (g' := gb118) (o := .cells #[.int .i64 t114, u119001] 30 (0, 0)) (Q0 BK118) NB118_0.out (by simp)); replace HK := am (KeepBut.trans (Q8 HK GW101 GW118) hk (.inl rfl)); replace HB := am (hb); replace HI0 := am (hi); (try clear hb); (try clear hb2); (try clear hk); (try clear hi)))
              (try simp only [Act.put, List.setIfInBounds_toArray, List.set_cons_zero, List.set_cons_succ]); have H := HU90.out; clear HU90
              by_cases c92 : t173 = 0
              ·rw [if_pos c92] at H
               have c92b0 := beq_iff_eq.mpr c92; have c92b1 := bne_eq_false_iff_eq.mpr c92; clear c92
               (first | rw [c92b0] | (simp only [i64_w, i32_w]; rw [c92b0]) | rw [c92b1] | skip)
               replace H := (ob H); obtain ⟨t176, A930, H⟩ := H; (try dsimp only at H); have A93 := Aside0.mk A930; clear A930; have H' := Aside0.mk H; clear H; have hnb94 := NB118_101.out; have hnc94 := NB101_118.out; have hnb95 := NB118_0.out; have hnc95 := NB0_118.out; have hcz96_0 : w91.cell? ⟨gb118, 0, none⟩ = some (.int .i64 t114) := (blk_cell BK118.out 0).trans rfl; have hcz96_1 : w91.cell? ⟨gb118, 1, none⟩ = some (u119001) := (blk_cell BK118.out 1).trans rfl; have hfz96_0 := blk_frozen BK118.out 0; have hfz96_1 := blk_frozen BK118.out 1; obtain ⟨Ao97, co97, eo97⟩ := Kd.R_slice HO_119001.out; subst eo97
               go_wp2_with (first | ((with_reducible refine gate_callee (f := 184) rfl ?_); refine goesL_ (some 58) rfl rfl Try.func184 (by kernel_rfl) rfl #[.slice Ao97 x119001_4.length co97, .agg #[.int .i64 x9_3, .int .i64 x10_4]] rfl Q3 ?_; (with_reducible refine (spec_l2Put.calls k4 _ _ x119001_4 x9_3 x10_4 t176 _ ?side1 ?side2 A93.out).mono ?_); (case side1 => exact Q110); (case side2 => exact (Kd.R_reads' HO_119001.out).2.1); rintro e w98 ⟨v177, rfl, ho0, hb⟩; refine ⟨_, rfl, ?_⟩; have HO178 := am (Kd.R_lower (Kd.R_new' ho0 (Kd.R_lt Q49)) (keep_size (w := w) (g := g) (row := none) (Q8 HK GW101 GW118))); replace HO_119001 := am (Kd.R_elder' Q49 (Kd.R_base ho0) hb); replace BK101 := am (blk_below (g := gb101) (o := .cells #[.int .i64 0, .slice none 0 0] 30 (0, 0)) (Q0 BK101) hb); replace BK118 := am (blk_below (g := gb118) (o := .cells #[.int .i64 t114, .slice Ao97 x119001_4.length co97] 30 (0, 0)) (Q0 BK118) hb); replace HK := am (KeepBut.trans (Q8 HK GW101 GW118) (KeepBut.of_below hb g none) (.inl rfl)); replace HB := am (below_step (Q7 HB HI0) hb); replace HI0 := am (IsS96.below (Q4 HI0 NB0_101 NB0_118) hb); (try clear hb); (try clear hb2); (try clear hk); (try clear hi); (try clear ho0); obtain ⟨Ao99, co99, eo99⟩ := Kd.R_slice HO178.out; subst eo99; have hcz100_0 : w98.cell? ⟨gb118, 0, none⟩ = some (.int .i64 t114) := (blk_cell BK118.out 0).trans rfl; have hcz100_1 : w98.cell? ⟨gb118, 1, none⟩ = some (.slice Ao97 x119001_4.length co97) := (blk_cell BK118.out 1).trans rfl; have hfz100_0 := blk_frozen BK118.out 0; have hfz100_1 := blk_frozen BK118.out 1))
               go_roundg k4
               case measure => have := HJ9.out; have := HJ13.out; have := HK3.out; have := HK4.out; omega
               case rel => exact ⟨(wrap64 (x10_4 + 1)), (t174), (t175), (t176), (.slice Ao99 t176.length co99), Q11, H', ⟨Q108⟩, ⟨by (with_reducible repeat (first | apply Kd.R_alloc | apply Kd.R_drewN | apply Kd.R_drew)); exact Kd.R_mono (Kd.R_far (p := ⟨gb118, 1, none⟩) (Kd.R_types HO178.out BK118.out (by decide)) (fun _ hk => hk.2) (.slice Ao99 t176.length co99)) (fun _ hk => trivial)⟩, ⟨Q27 NB101_118 BK101⟩, ⟨by (with_reducible repeat (first | refine blk_drewN ?_ _ | refine blk_drew ?_ | refine blk_alloc ?_ _)); refine blk_put (cs := #[.int .i64 t114, .slice Ao97 x119001_4.length co97]) ?_ 1 _ rfl; (with_reducible repeat (first | refine blk_drewN ?_ _ | refine blk_drew ?_ | refine blk_alloc ?_ _)); exact BK118.out⟩, ⟨Q4 HI0 NB0_101 NB0_118⟩, ⟨Q8 HK GW101 GW118⟩, ⟨Q35 HB HI0 GE118⟩⟩
              ·rw [if_neg c92] at H
               have c92b0 := beq_eq_false_iff_ne.mpr c92; have c92b1 := bne_iff_ne.mpr c92
               (first | rw [c92b0] | (simp only [i64_w, i32_w]; rw [c92b0]) | rw [c92b1] | skip)
               have H' := Aside0.mk H; clear H
               go_wp2
               go_roundg k4
               case measure => have := HJ9.out; have := HJ13.out; have := HK3.out; have := HK4.out; omega
               case rel => exact ⟨(wrap64 (x10_4 + 1)), (t174), (t175), (x119001_4), (u119001), Q11, H', ⟨Q108⟩, ⟨Q49⟩, ⟨Q0 BK101⟩, ⟨Q0 BK118⟩, ⟨Q4 HI0 NB0_101 NB0_118⟩, ⟨Q8 HK GW101 GW118⟩, ⟨Q7 HB HI0⟩⟩
             ·rw [if_neg c88] at H
              have c88b0 := decide_eq_false c88; clear c88; replace H := (ob H); obtain ⟨t179, A1010, H⟩ := H; (try dsimp only at H); have A101 := Aside0.mk A1010; clear A1010; replace H := (ob H); obtain ⟨⟨t180, t181, t182⟩, A1020, H⟩ := H; (try dsimp only at H); have A102 := Aside0.mk A1020; clear A1020; have HU103 := Aside0.mk H; clear H
              go_upto_region 17 with (first | ((with_reducible refine gate_callee (f := 187) rfl ?_); refine goesL_ (some 62) rfl rfl Try.func187 (by kernel_rfl) rfl #[.int .i64 x9_3, .int .i64 1] rfl Q3 ?_; (with_reducible refine (spec_l1Most.calls x9_3 1 t179 _ A101.out).mono ?_); rintro e w' ⟨rfl, ⟨nd, rfl⟩⟩; refine ⟨_, rfl, ?_⟩) | ((with_reducible refine gate_callee (f := 141) rfl ?_); refine goesL_ (some 63) rfl rfl Try.func141 (by kernel_rfl) rfl #[.pointer (some ⟨g, 0, none⟩), .int .i64 t179] rfl Q3 ?_; (with_reducible refine (spec_l1Cur_pick.calls g s0_0 x1001_4 x1002_4 t179 t180 t181 t182 w0 _ ?side1 ?side2 A102.out).mono ?_); (case side1 => exact (Q4 HI0 NB0_101 NB0_118)); (case side2 => exact (Q7 HB HI0)); rintro e w104 ⟨rfl, hi, hb, hk⟩; refine ⟨_, rfl, ?_⟩; replace HO_119001 := am (Kd.R_mono (Kd.R_keep (IsS96.apart (show IsS96 w0 _ g s0_0 x1001_4 x1002_4 from Q4 HI0 NB0_101 NB0_118) Q49 (by decide)) hk (fun _ h => h.2)) (fun _ h => h.1)); replace BK101 := am (KeepBut.blk hk (g' := gb101) (o := .cells #[.int .i64 0, .slice none 0 0] 30 (0, 0)) (Q0 BK101) NB101_0.out (by simp)); replace BK118 := am (KeepBut.blk hk (g' := gb118) (o := .cells #[.int .i64 t114, u119001] 30 (0, 0)) (Q0 BK118) NB118_0.out (by simp)); replace HK := am (KeepBut.trans (Q8 HK GW101 GW118) hk (.inl rfl)); replace HB := am (hb); replace HI0 := am (hi); (try clear hb); (try clear hb2); (try clear hk); (try clear hi)))
              (try simp only [Act.put, List.setIfInBounds_toArray, List.set_cons_zero, List.set_cons_succ]); have H := HU103.out; clear HU103
              by_cases c105 : x9_3 > 0
              ·rw [if_pos c105] at H
               have c105b0 : decide (0 < x9_3) = true := decide_eq_true c105; clear c105
               by_cases c106 : t164 = true
               ·subst c106
                have H1 : (spec_l1Cur_someGraph.l0 k4 t114 t161 true (wrap64 (x9_3 + 1)) s0_0 t181 t182 t114 x119001_4) = some (r1, r2, r3, r4) := by rw [if_pos rfl] at H; exact H
                clear H; have H := H1; clear H1; have H' := Aside0.mk H; clear H
                go_wp2
                go_roundg k4
                case measure => have := HJ9.out; have := HJ13.out; have := HK3.out; have := HK4.out; omega
                case rel => exact ⟨(wrap64 (x9_3 + 1)), (t181), (t182), (x119001_4), (u119001), Q11, H', ⟨Q108⟩, ⟨Q49⟩, ⟨Q0 BK101⟩, ⟨Q0 BK118⟩, ⟨Q4 HI0 NB0_101 NB0_118⟩, ⟨Q8 HK GW101 GW118⟩, ⟨Q7 HB HI0⟩⟩
               ·replace c106 := Bool.eq_false_iff.mpr c106
                subst c106; have H1 : ((spec_l2Near.f k4 t114 x119001_4 x9_3 t180).bind fun t183 => (if t183 = true then (spec_l1Cur_someGraph.l0 k4 t114 t161 false (wrap64 (x9_3 + 1)) s0_0 t181 t182 t114 x119001_4) else ((spec_l2Put.f k4 x119001_4 t180 x9_3).bind fun t184 => (spec_l1Cur_someGraph.l0 k4 t114 t161 false (wrap64 (x9_3 + 1)) s0_0 t181 t182 t114 t184)))) = some (r1, r2, r3, r4) := by rw [if_neg (show ¬ (false = true) by decide)] at H; exact H
                clear H; have H := H1; clear H1; replace H := (ob H); obtain ⟨t183, A1070, H⟩ := H; (try dsimp only at H); have A107 := Aside0.mk A1070; clear A1070; have HU108 := Aside0.mk H; clear H; have hnb109 := NB118_101.out; have hnc109 := NB101_118.out; have hnb110 := NB118_0.out; have hnc110 := NB0_118.out; have hcz111_0 : w104.cell? ⟨gb118, 0, none⟩ = some (.int .i64 t114) := (blk_cell BK118.out 0).trans rfl; have hcz111_1 : w104.cell? ⟨gb118, 1, none⟩ = some (u119001) := (blk_cell BK118.out 1).trans rfl; have hfz111_0 := blk_frozen BK118.out 0; have hfz111_1 := blk_frozen BK118.out 1; obtain ⟨Ao112, co112, eo112⟩ := Kd.R_slice HO_119001.out; subst eo112
                go_upto_if 76 with (first | (go_at_call 137; (with_reducible refine (spec_l2Near.calls k4 t114 _ _ x119001_4 x9_3 t180 t183 _ ?side1 ?side2 A107.out).mono ?_); (case side1 => exact Q110); (case side2 => exact (Kd.R_reads' HO_119001.out).2.1); rintro e w113 ⟨rfl, hb⟩; replace HO_119001 := am (Kd.R_below Q49 hb); replace BK101 := am (blk_below (g := gb101) (o := .cells #[.int .i64 0, .slice none 0 0] 30 (0, 0)) (Q0 BK101) hb); replace BK118 := am (blk_below (g := gb118) (o := .cells #[.int .i64 t114, .slice Ao112 x119001_4.length co112] 30 (0, 0)) (Q0 BK118) hb); replace HK := am (KeepBut.trans (Q8 HK GW101 GW118) (KeepBut.of_below hb g none) (.inl rfl)); replace HB := am (below_step (Q7 HB HI0) hb); replace HI0 := am (IsS96.below (Q4 HI0 NB0_101 NB0_118) hb); (try clear hb); (try clear hb2); (try clear hk); (try clear hi)))
                (try simp only [Act.put, List.setIfInBounds_toArray, List.set_cons_zero, List.set_cons_succ]); have H := HU108.out; clear HU108
                by_cases c114 : t183 = true
                ·subst c114
                 have H1 : (spec_l1Cur_someGraph.l0 k4 t114 t161 false (wrap64 (x9_3 + 1)) s0_0 t181 t182 t114 x119001_4) = some (r1, r2, r3, r4) := by rw [if_pos rfl] at H; exact H
                 clear H; have H := H1; clear H1; have H' := Aside0.mk H; clear H
                 go_wp2
                 go_roundg k4
                 case measure => have := HJ9.out; have := HJ13.out; have := HK3.out; have := HK4.out; omega
                 case rel => exact ⟨(wrap64 (x9_3 + 1)), (t181), (t182), (x119001_4), (.slice Ao112 x119001_4.length co112), Q11, H', ⟨Q108⟩, ⟨Q49⟩, ⟨Q0 BK101⟩, ⟨Q0 BK118⟩, ⟨Q4 HI0 NB0_101 NB0_118⟩, ⟨Q8 HK GW101 GW118⟩, ⟨Q7 HB HI0⟩⟩
                ·replace c114 := Bool.eq_false_iff.mpr c114
                 subst c114; have H1 : ((spec_l2Put.f k4 x119001_4 t180 x9_3).bind fun t184 => (spec_l1Cur_someGraph.l0 k4 t114 t161 false (wrap64 (x9_3 + 1)) s0_0 t181 t182 t114 t184)) = some (r1, r2, r3, r4) := by rw [if_neg (show ¬ (false = true) by decide)] at H; exact H
                 clear H; have H := H1; clear H1; replace H := (ob H); obtain ⟨t184, A1150, H⟩ := H; (try dsimp only at H); have A115 := Aside0.mk A1150; clear A1150; have H' := Aside0.mk H; clear H; have hnb116 := NB118_101.out; have hnc116 := NB101_118.out; have hnb117 := NB118_0.out; have hnc117 := NB0_118.out; have hcz118_0 : w113.cell? ⟨gb118, 0, none⟩ = some (.int .i64 t114) := (blk_cell BK118.out 0).trans rfl; have hcz118_1 : w113.cell? ⟨gb118, 1, none⟩ = some (.slice Ao112 x119001_4.length co112) := (blk_cell BK118.out 1).trans rfl; have hfz118_0 := blk_frozen BK118.out 0; have hfz118_1 := blk_frozen BK118.out 1
                 go_wp2_with (first | ((with_reducible refine gate_callee (f := 184) rfl ?_); refine goesL_ (some 82) rfl rfl Try.func184 (by kernel_rfl) rfl #[.slice Ao112 x119001_4.length co112, .agg #[.int .i64 t180, .int .i64 x9_3]] rfl Q3 ?_; (with_reducible refine (spec_l2Put.calls k4 _ _ x119001_4 t180 x9_3 t184 _ ?side1 ?side2 A115.out).mono ?_); (case side1 => exact Q110); (case side2 => exact (Kd.R_reads' HO_119001.out).2.1); rintro e w119 ⟨v185, rfl, ho0, hb⟩; refine ⟨_, rfl, ?_⟩; have HO186 := am (Kd.R_lower (Kd.R_new' ho0 (Kd.R_lt Q49)) (keep_size (w := w) (g := g) (row := none) (Q8 HK GW101 GW118))); replace HO_119001 := am (Kd.R_elder' Q49 (Kd.R_base ho0) hb); replace BK101 := am (blk_below (g := gb101) (o := .cells #[.int .i64 0, .slice none 0 0] 30 (0, 0)) (Q0 BK101) hb); replace BK118 := am (blk_below (g := gb118) (o := .cells #[.int .i64 t114, .slice Ao112 x119001_4.length co112] 30 (0, 0)) (Q0 BK118) hb); replace HK := am (KeepBut.trans (Q8 HK GW101 GW118) (KeepBut.of_below hb g none) (.inl rfl)); replace HB := am (below_step (Q7 HB HI0) hb); replace HI0 := am (IsS96.below (Q4 HI0 NB0_101 NB0_118) hb); (try clear hb); (try clear hb2); (try clear hk); (try clear hi); (try clear ho0); obtain ⟨Ao120, co120, eo120⟩ := Kd.R_slice HO186.out; subst eo120; have hcz121_0 : w119.cell? ⟨gb118, 0, none⟩ = some (.int .i64 t114) := (blk_cell BK118.out 0).trans rfl; have hcz121_1 : w119.cell? ⟨gb118, 1, none⟩ = some (.slice Ao112 x119001_4.length co112) := (blk_cell BK118.out 1).trans rfl; have hfz121_0 := blk_frozen BK118.out 0; have hfz121_1 := blk_frozen BK118.out 1))
                 go_roundg k4
                 case measure => have := HJ9.out; have := HJ13.out; have := HK3.out; have := HK4.out; omega
                 case rel => exact ⟨(wrap64 (x9_3 + 1)), (t181), (t182), (t184), (.slice Ao120 t184.length co120), Q11, H', ⟨Q108⟩, ⟨by (with_reducible repeat (first | apply Kd.R_alloc | apply Kd.R_drewN | apply Kd.R_drew)); exact Kd.R_mono (Kd.R_far (p := ⟨gb118, 1, none⟩) (Kd.R_types HO186.out BK118.out (by decide)) (fun _ hk => hk.2) (.slice Ao120 t184.length co120)) (fun _ hk => trivial)⟩, ⟨Q27 NB101_118 BK101⟩, ⟨by (with_reducible repeat (first | refine blk_drewN ?_ _ | refine blk_drew ?_ | refine blk_alloc ?_ _)); refine blk_put (cs := #[.int .i64 t114, .slice Ao112 x119001_4.length co112]) ?_ 1 _ rfl; (with_reducible repeat (first | refine blk_drewN ?_ _ | refine blk_drew ?_ | refine blk_alloc ?_ _)); exact BK118.out⟩, ⟨Q4 HI0 NB0_101 NB0_118⟩, ⟨Q8 HK GW101 GW118⟩, ⟨Q35 HB HI0 GE118⟩⟩
              ·rw [if_neg c105] at H
               have c105b0 : decide (0 < x9_3) = false := decide_eq_false c105; clear c105; have H' := Aside0.mk H; clear H
               go_wp2
               go_roundg k4
               case measure => have := HJ9.out; have := HJ13.out; have := HK3.out; have := HK4.out; omega
               case rel => exact ⟨(wrap64 (x9_3 + 1)), (t181), (t182), (x119001_4), (u119001), Q11, H', ⟨Q108⟩, ⟨Q49⟩, ⟨Q0 BK101⟩, ⟨Q0 BK118⟩, ⟨Q4 HI0 NB0_101 NB0_118⟩, ⟨Q8 HK GW101 GW118⟩, ⟨Q7 HB HI0⟩⟩
          ·rw [if_neg c87] at H
           have c87b0 := decide_eq_false c87; clear c87; replace H := (ob H); obtain ⟨⟨t167, t168, t171, t172⟩, A1220, H⟩ := H; (try dsimp only at H); have A122 := Aside0.mk A1220; clear A1220
           simp only [Option.some.injEq, Prod.mk.injEq] at H
           obtain ⟨rfl, rfl, rfl, rfl⟩ := H; have hnb123 := NB118_101.out; have hnc123 := NB101_118.out; have hnb124 := NB118_0.out; have hnc124 := NB0_118.out; have hcz125_0 : wr.cell? ⟨gb118, 0, none⟩ = some (.int .i64 t114) := (blk_cell BK118.out 0).trans rfl; have hcz125_1 : wr.cell? ⟨gb118, 1, none⟩ = some (u119001) := (blk_cell BK118.out 1).trans rfl; have hfz125_0 := blk_frozen BK118.out 0; have hfz125_1 := blk_frozen BK118.out 1; obtain ⟨Ao126, co126, eo126⟩ := Kd.R_slice HO_119001.out; subst eo126
           go_wp2_with (first | ((with_reducible refine gate_callee (f := 188) rfl ?_); refine goesL_ (some 100) rfl rfl Try.func188 (by kernel_rfl) rfl #[.pointer (some ⟨g, 0, none⟩), .agg #[.int .i64 t114, .slice Ao126 x119001_3.length co126]] rfl Q3 ?_; (with_reducible refine (spec_l1Cur_marred.calls g s0_0 x1001_3 x1002_3 t114 (fun k_ => some k_ = (.slice Ao126 x119001_3.length co126 : Value).ownBlock) (.slice Ao126 x119001_3.length co126) x119001_3 t167 t168 t171 t172 w0 _ ?side1 ?side2 ?side3 A122.out).mono ?_); (case side1 => exact (Q4 HI0 NB0_101 NB0_118)); (case side2 => exact (Q7 HB HI0)); (case side3 => exact Kd.R_lower (Kd.R_tight rfl HO_119001.out) HL.out); rintro e w127 ⟨v169, rfl, ho0, hi, hb, hkp⟩; refine ⟨_, rfl, ?_⟩; replace BK101 := am (blk_kept (Q52 BK101) hkp (fun hs_ => Or.elim hs_ (fun hs_ => (fun e_ => (Kd.R_ne HO_119001.out BK101.out (by decide)) e_) hs_) (fun e_ => NB101_0.out e_))); replace BK118 := am (blk_kept (Q52 BK118) hkp (fun hs_ => Or.elim hs_ (fun hs_ => (fun e_ => (Kd.R_ne HO_119001.out BK118.out (by decide)) e_) hs_) (fun e_ => NB118_0.out e_))); replace HI0 := am (hi); have HO170 := am (Kd.R_mono (ok' := fun k_ => True) (Kd.R_raise (d := k71) (b := w0.heap.size) (b' := w.heap.size) (fun _ _ _ _ h_ => h_) ho0 (fun k_ e_ => Or.elim (ho0.1 k_ e_) (fun hs_ => (fun e_ => Kd.R_base HO_119001.out k_ e_.symm) hs_) (fun hn_ => Nat.le_trans (keep_size (w := w) (g := g) (row := none) (Q8 HK GW101 GW118)) hn_))) (fun k_ hk_ => trivial)); replace HK := am (Kept.keepG (Q8 HK GW101 GW118) hkp (fun k_ hs_ => Or.elim hs_ (fun hs_ => (fun e_ => .inr (Kd.R_base HO_119001.out k_ e_.symm)) hs_) (fun e_ => .inl e_))); replace HB := am (hb); clear HO_119001; (try clear hb); (try clear hkp); (try clear ho0); have hnb128 := NB101_0.out; have hnc128 := NB0_101.out; have hcz129_0 : w127.cell? ⟨gb101, 0, none⟩ = some (.int .i64 0) := (blk_cell BK101.out 0).trans rfl; have hcz129_1 : w127.cell? ⟨gb101, 1, none⟩ = some (.slice none 0 0) := (blk_cell BK101.out 1).trans rfl; have hfz129_0 := blk_frozen BK101.out 0; have hfz129_1 := blk_frozen BK101.out 1; obtain ⟨Ao130, co130, eo130⟩ := Kd.R_slice HO170.out; subst eo130))
           refine bodyPost_ret (results_cell_row rfl _ _ gb101 30 #[.int .i64 t167, .slice Ao130 t168.length co130] (0, 0) _ rfl (by (with_reducible repeat (first | refine blk_drewN ?_ _ | refine blk_drew ?_ | refine blk_alloc ?_ _)); refine blk_put (cs := #[.int .i64 t167, .slice none 0 0]) ?_ 1 _ rfl; (with_reducible repeat (first | refine blk_drewN ?_ _ | refine blk_drew ?_ | refine blk_alloc ?_ _)); refine blk_put (cs := #[.int .i64 0, .slice none 0 0]) ?_ 0 _ rfl; (with_reducible repeat (first | refine blk_drewN ?_ _ | refine blk_drew ?_ | refine blk_alloc ?_ _)); exact BK101.out) Try.underlying30 rfl (by kernel_rfl)) rfl ?_; exact ⟨_, Q10, by (with_reducible repeat (first | apply Kd.R_alloc | apply Kd.R_drewN | apply Kd.R_drew)); exact Kd.R_mono (Kd.R_far (p := ⟨gb101, 1, none⟩) (Kd.R_far (p := ⟨gb101, 0, none⟩) (Kd.R_types HO170.out BK101.out (by decide)) (fun _ hk => hk.2) (.int .i64 t167)) (fun _ hk => hk.2) (.slice Ao130 t168.length co130)) (fun _ hk => trivial), Q4 HI0 NB0_101 NB0_118, Q35 HB HI0 GE101, Q8 HK GW101 GW118⟩
end Go.Proofs.Ytcjddikalgnhpaa.P
