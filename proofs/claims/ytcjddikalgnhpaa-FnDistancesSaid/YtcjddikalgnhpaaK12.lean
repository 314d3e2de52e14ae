/- Functions of the program as Lean functions, that each call comes to what they say, and what holds of them; part 12 of 16; no conditions beyond those that each theorem names. -/
import Derived.Test.YtcjddikalgnhpaaK1
import Derived.Test.YtcjddikalgnhpaaK4
import Derived.Test.YtcjddikalgnhpaaK5
import Derived.Test.YtcjddikalgnhpaaK6
import Derived.Test.YtcjddikalgnhpaaK10
import Derived.Test.YtcjddikalgnhpaaK11
namespace Go.Proofs.Ytcjddikalgnhpaa.P
open Go.RowKit Go.Proofs.YtcjddikalgnhpaaW.PrintWords Go.Proofs.YtcjddikalgnhpaaW.PrintLast Go.Proofs.YtcjddikalgnhpaaW.PrintMore
attribute [local go_sem] max2_int min2_int max_two min_two max_three min_three max_four min_four   -- for this text's walks alone
set_option linter.unusedVariables false
set_option linter.unusedSimpArgs false
/-! ### spec_NeighborsOf: function 80 -/
def spec_NeighborsOf.f (k : Nat) (a0_0 : Int) (l0_1 : List (S71)) (a1 : Int) : Option (List Int × Bool) := (spec_l2Good.f k a0_0 l0_1).bind fun t102 => (if t102 = true then ((spec_l2Node.f a0_0 l0_1 a1).bind fun t103 => (if t103 = true then ((spec_l2Neighbors.f k a0_0 l0_1 a1).bind fun t104 => (some (t104, true))) else (some ((([] : List Int)), false)))) else (some ((([] : List Int)), false)))
theorem spec_NeighborsOf.mono : ∀ a0 a1 a2 k, LeO (spec_NeighborsOf.f k a0 a1 a2) (spec_NeighborsOf.f (k + 1) a0 a1 a2) := by
 intro a0 a1 a2 k
 unfold spec_NeighborsOf.f
 repeat' first | (with_reducible first | exact spec_l2Good.mono _ _ _ | exact spec_l2Neighbors.mono _ _ _ _ | exact LeO.refl _ | exact LeO.none _ | refine LeO.ite ?_ ?_ | refine LeO.bind ?_ (fun _ => ?_))
set_option maxHeartbeats 8000000 in
set_option maxRecDepth 100000 in
theorem spec_NeighborsOf.calls (k : Nat) (a0_0 : Int) (A0_1 : Option Addr) (c0_1 : Nat) (l0_1 : List (S71)) (a1 : Int) (r1 : List Int) (r2 : Bool) (w : World) (hr0_1 : Kd.C k71 w A0_1 l0_1.length l0_1) (hc0_1 : l0_1.length ≤ c0_1) (h : spec_NeighborsOf.f k a0_0 l0_1 a1 = some (r1, r2)) :
  Calls Try.prog 80 #[.agg #[.int .i64 a0_0, .slice A0_1 l0_1.length c0_1], .int .i64 a1] w fun e w' => ∃ v0_ : Value, e = .returned (.tuple #[v0_, .bool r2]) ∧ Kd.R (Kd.int .i64) 3 w' w.heap.size (fun _ => True) v0_ r1 ∧ Below w.heap.size w w' := by
 have hu30 := Try.underlying30
 have HR0_1 := Aside0.mk hr0_1
 have HC0_1 := Aside0.mk hc0_1
 clear hr0_1 hc0_1
 have HB := am (Below.refl w.heap.size w)
 have H : ((spec_l2Good.f k a0_0 l0_1).bind fun t102 => (if t102 = true then ((spec_l2Node.f a0_0 l0_1 a1).bind fun t103 => (if t103 = true then ((spec_l2Neighbors.f k a0_0 l0_1 a1).bind fun t104 => (some (t104, true))) else (some ((([] : List Int)), false)))) else (some ((([] : List Int)), false)))) = some (r1, r2) := h
 clear h
 have HU3 := Aside0.mk H
 clear H
 go_enter Try.func80, Try.ntmps80
 go_upto_region 1 with (first | ((with_reducible refine gate_dst (N := 2) rfl ?_); refine box_event (by rfl) (N := 2) (by rfl) (cs := #[.int .i64 a0_0, .slice A0_1 l0_1.length c0_1]) (t := 30) Qr ?_; intro gb101 hg w4 hbox hb; have BK101 := am (hbox); have GW101 := am ((Q26 : w.heap.size ≤ gb101)); have GE101 := am ((Q26 : w.heap.size ≤ gb101)); replace HB := bs HB hb; clear hb hbox hg))
 (try simp only [Act.put, List.setIfInBounds_toArray, List.set_cons_zero, List.set_cons_succ])
 have H := HU3.out
 clear HU3
 replace H := (ob H)
 obtain ⟨t102, A50, H⟩ := H
 (try dsimp only at H)
 have A5 := Aside0.mk A50
 clear A50
 by_cases c6 : t102 = true
 ·subst c6
  have H1 : ((spec_l2Node.f a0_0 l0_1 a1).bind fun t103 => (if t103 = true then ((spec_l2Neighbors.f k a0_0 l0_1 a1).bind fun t104 => (some (t104, true))) else (some ((([] : List Int)), false)))) = some (r1, r2) := by rw [if_pos rfl] at H; exact H
  clear H; have H := H1; clear H1; replace H := (ob H); obtain ⟨t103, A70, H⟩ := H; (try dsimp only at H); have A7 := Aside0.mk A70; clear A70; have HU8 := Aside0.mk H; clear H; obtain ⟨hcz9_0, hfz9_0, hcz9_1, hfz9_1⟩ := b2 BK101
  go_upto_if 14 with (first | ((with_reducible refine gate_callee (f := 120) rfl ?_); refine goesL_ (some 7) rfl rfl Try.func120 (by kernel_rfl) rfl #[.agg #[.int .i64 a0_0, .slice A0_1 l0_1.length c0_1]] rfl Q3 ?_; (with_reducible refine (spec_l2Good.calls k a0_0 _ _ l0_1 true _ ?side1 ?side2 A5.out).mono ?_); (case side1 => exact (Q7 HR0_1 HB)); (case side2 => exact HC0_1.out); rintro e w10 ⟨rfl, hb⟩; refine ⟨_, rfl, ?_⟩; replace BK101 := bb BK101 hb; replace HB := bs HB hb; (try clear hb); (try clear hb2); (try clear hk); (try clear hi); obtain ⟨hcz11_0, hfz11_0, hcz11_1, hfz11_1⟩ := b2 BK101) | (go_at_call 125; (with_reducible refine (spec_l2Node.calls a0_0 _ _ l0_1 a1 t103 _ ?side1 ?side2 A7.out).mono ?_); (case side1 => exact (Q7 HR0_1 HB)); (case side2 => exact HC0_1.out); rintro e w12 ⟨rfl, hb⟩; replace BK101 := bb BK101 hb; replace HB := bs HB hb; (try clear hb); (try clear hb2); (try clear hk); (try clear hi)))
  (try simp only [Act.put, List.setIfInBounds_toArray, List.set_cons_zero, List.set_cons_succ]); have H := HU8.out; clear HU8
  by_cases c13 : t103 = true
  ·subst c13
   have H1 : ((spec_l2Neighbors.f k a0_0 l0_1 a1).bind fun t104 => (some (t104, true))) = some (r1, r2) := by rw [if_pos rfl] at H; exact H
   clear H; have H := H1; clear H1; replace H := (ob H); obtain ⟨t104, A140, H⟩ := H; (try dsimp only at H); have A14 := Aside0.mk A140; clear A140
   simp only [Option.some.injEq, Prod.mk.injEq] at H
   obtain ⟨rfl, rfl⟩ := H; obtain ⟨hcz15_0, hfz15_0, hcz15_1, hfz15_1⟩ := b2 BK101
   go_wp2_with (first | ((with_reducible refine gate_callee (f := 160) rfl ?_); refine goesL_ (some 18) rfl rfl Try.func160 (by kernel_rfl) rfl #[.agg #[.int .i64 a0_0, .slice A0_1 l0_1.length c0_1], .int .i64 a1] rfl Q3 ?_; (with_reducible refine (spec_l2Neighbors.calls k a0_0 _ _ l0_1 a1 t104 _ ?side1 ?side2 A14.out).mono ?_); (case side1 => exact (Q7 HR0_1 HB)); (case side2 => exact HC0_1.out); rintro e w16 ⟨v105, rfl, ho0, hb⟩; refine ⟨_, rfl, ?_⟩; have HO106 := am (Kd.R_lower ho0 (below_size (Q0 HB))); replace BK101 := bb BK101 hb; replace HB := bs HB hb; (try clear hb); (try clear hb2); (try clear hk); (try clear hi); (try clear ho0)))
   go_ret2
   exact ⟨_, Q10, Q2 HO106, Q0 HB⟩
  ·replace c13 := Bool.eq_false_iff.mpr c13
   subst c13; have H1 : (some ((([] : List Int)), false)) = some (r1, r2) := by rw [if_neg (show ¬ (false = true) by decide)] at H; exact H
   clear H; have H := H1; clear H1; obtain ⟨y107, hy107⟩ : ∃ y_ : List Int, y_ = (([] : List Int)) := ⟨_, rfl⟩; replace H : (some (y107, false)) = some (r1, r2) := RH hy107 H; have Ny107 := Aside0.mk hy107; clear hy107
   simp only [Option.some.injEq, Prod.mk.injEq] at H
   obtain ⟨rfl, rfl⟩ := H
   go_wp2_with (first | ((with_reducible refine gate_dst (N := 15) rfl ?_); refine Kd.R_lit (Kd.int .i64) _ 3 (by rfl) (N := 15) (by rfl) (xs := ([] : List Int)) (inner := []) (ok := fun _ => True) (okp := fun _ => True) Qr ?hp (fun _ hk => hk) trivial (Below.refl _ _) (Nat.le_refl _) (by simp) ?_; (case hp => exact (Reps.none _ _)); intro v108 w17 ho18 hb hg_ hnew_; clear hg_ hnew_; (first | rw [← Ny107.out] at ho18 | (simp only [Int.reduceToNat] at ho18; rw [← Ny107.out] at ho18)); have HO109 := am (Kd.R_lower ho18 (below_size (Q0 HB))); replace BK101 := bb BK101 hb; replace HB := bs HB hb; clear hb ho18))
   go_ret2
   exact ⟨_, Q10, Q2 HO109, Q0 HB⟩
 ·replace c6 := Bool.eq_false_iff.mpr c6
  subst c6; have H1 : (some ((([] : List Int)), false)) = some (r1, r2) := by rw [if_neg (show ¬ (false = true) by decide)] at H; exact H
  clear H; have H := H1; clear H1; have HU19 := Aside0.mk H; clear H; obtain ⟨hcz20_0, hfz20_0, hcz20_1, hfz20_1⟩ := b2 BK101
  go_upto_if 14 with (first | ((with_reducible refine gate_callee (f := 120) rfl ?_); refine goesL_ (some 7) rfl rfl Try.func120 (by kernel_rfl) rfl #[.agg #[.int .i64 a0_0, .slice A0_1 l0_1.length c0_1]] rfl Q3 ?_; (with_reducible refine (spec_l2Good.calls k a0_0 _ _ l0_1 false _ ?side1 ?side2 A5.out).mono ?_); (case side1 => exact (Q7 HR0_1 HB)); (case side2 => exact HC0_1.out); rintro e w21 ⟨rfl, hb⟩; refine ⟨_, rfl, ?_⟩; replace BK101 := bb BK101 hb; replace HB := bs HB hb; (try clear hb); (try clear hb2); (try clear hk); (try clear hi)))
  (try simp only [Act.put, List.setIfInBounds_toArray, List.set_cons_zero, List.set_cons_succ]); have H := HU19.out; clear HU19; obtain ⟨y110, hy110⟩ : ∃ y_ : List Int, y_ = (([] : List Int)) := ⟨_, rfl⟩; replace H : (some (y110, false)) = some (r1, r2) := RH hy110 H; have Ny110 := Aside0.mk hy110; clear hy110
  simp only [Option.some.injEq, Prod.mk.injEq] at H
  obtain ⟨rfl, rfl⟩ := H
  go_wp2_with (first | ((with_reducible refine gate_dst (N := 15) rfl ?_); refine Kd.R_lit (Kd.int .i64) _ 3 (by rfl) (N := 15) (by rfl) (xs := ([] : List Int)) (inner := []) (ok := fun _ => True) (okp := fun _ => True) Qr ?hp (fun _ hk => hk) trivial (Below.refl _ _) (Nat.le_refl _) (by simp) ?_; (case hp => exact (Reps.none _ _)); intro v111 w22 ho23 hb hg_ hnew_; clear hg_ hnew_; (first | rw [← Ny110.out] at ho23 | (simp only [Int.reduceToNat] at ho23; rw [← Ny110.out] at ho23)); have HO112 := am (Kd.R_lower ho23 (below_size (Q0 HB))); replace BK101 := bb BK101 hb; replace HB := bs HB hb; clear hb ho23))
  go_ret2
  exact ⟨_, Q10, Q2 HO112, Q0 HB⟩
/-! ### spec_PartsOf: function 75 -/
def spec_PartsOf.f (k : Nat) (a0_0 : Int) (l0_1 : List (S71)) : Option ((List (List Int)) × Bool) := (spec_l2Good.f k a0_0 l0_1).bind fun t102 => (if t102 = true then ((spec_l2All.f k a0_0 l0_1).bind fun t103 => ((spec_l2Parts.f k a0_0 l0_1 t103).bind fun t106 => (some (t106, true)))) else (some ((([] : List (List Int))), false)))
theorem spec_PartsOf.mono : ∀ a0 a1 k, LeO (spec_PartsOf.f k a0 a1) (spec_PartsOf.f (k + 1) a0 a1) := by
 intro a0 a1 k
 unfold spec_PartsOf.f
 repeat' first | (with_reducible first | exact spec_l2All.mono _ _ _ | exact spec_l2Good.mono _ _ _ | exact spec_l2Parts.mono _ _ _ _ | exact LeO.refl _ | exact LeO.none _ | refine LeO.ite ?_ ?_ | refine LeO.bind ?_ (fun _ => ?_))
set_option maxHeartbeats 8000000 in
set_option maxRecDepth 100000 in
theorem spec_PartsOf.calls (k : Nat) (a0_0 : Int) (A0_1 : Option Addr) (c0_1 : Nat) (l0_1 : List (S71)) (r1 : List (List Int)) (r2 : Bool) (w : World) (hr0_1 : Kd.C k71 w A0_1 l0_1.length l0_1) (hc0_1 : l0_1.length ≤ c0_1) (h : spec_PartsOf.f k a0_0 l0_1 = some (r1, r2)) :
  Calls Try.prog 75 #[.agg #[.int .i64 a0_0, .slice A0_1 l0_1.length c0_1]] w fun e w' => ∃ v0_ : Value, e = .returned (.tuple #[v0_, .bool r2]) ∧ Kd.S (Kd.slice 3 (Kd.int .i64)) 25 w' w.heap.size (fun _ => True) v0_ r1 ∧ Below w.heap.size w w' := by
 have hu30 := Try.underlying30
 have HR0_1 := Aside0.mk hr0_1
 have HC0_1 := Aside0.mk hc0_1
 clear hr0_1 hc0_1
 have HB := am (Below.refl w.heap.size w)
 have H : ((spec_l2Good.f k a0_0 l0_1).bind fun t102 => (if t102 = true then ((spec_l2All.f k a0_0 l0_1).bind fun t103 => ((spec_l2Parts.f k a0_0 l0_1 t103).bind fun t106 => (some (t106, true)))) else (some ((([] : List (List Int))), false)))) = some (r1, r2) := h
 clear h
 replace H := (ob H)
 obtain ⟨t102, A20, H⟩ := H
 (try dsimp only at H)
 have A2 := Aside0.mk A20
 clear A20
 have HU3 := Aside0.mk H
 clear H
 go_enter Try.func75, Try.ntmps75
 go_upto_if 6 with (first | ((with_reducible refine gate_dst (N := 1) rfl ?_); refine box_event (by rfl) (N := 1) (by rfl) (cs := #[.int .i64 a0_0, .slice A0_1 l0_1.length c0_1]) (t := 30) Qr ?_; intro gb101 hg w4 hbox hb; have BK101 := am (hbox); have GW101 := am ((Q26 : w.heap.size ≤ gb101)); have GE101 := am ((Q26 : w.heap.size ≤ gb101)); replace HB := bs HB hb; clear hb hbox hg; obtain ⟨hcz5_0, hfz5_0, hcz5_1, hfz5_1⟩ := b2 BK101) | ((with_reducible refine gate_callee (f := 120) rfl ?_); refine goesL_ (some 5) rfl rfl Try.func120 (by kernel_rfl) rfl #[.agg #[.int .i64 a0_0, .slice A0_1 l0_1.length c0_1]] rfl Q3 ?_; (with_reducible refine (spec_l2Good.calls k a0_0 _ _ l0_1 t102 _ ?side1 ?side2 A2.out).mono ?_); (case side1 => exact (Q7 HR0_1 HB)); (case side2 => exact HC0_1.out); rintro e w6 ⟨rfl, hb⟩; refine ⟨_, rfl, ?_⟩; replace BK101 := bb BK101 hb; replace HB := bs HB hb; (try clear hb); (try clear hb2); (try clear hk); (try clear hi)))
 (try simp only [Act.put, List.setIfInBounds_toArray, List.set_cons_zero, List.set_cons_succ])
 have H := HU3.out
 clear HU3
 by_cases c7 : t102 = true
 ·subst c7
  have H1 : ((spec_l2All.f k a0_0 l0_1).bind fun t103 => ((spec_l2Parts.f k a0_0 l0_1 t103).bind fun t106 => (some (t106, true)))) = some (r1, r2) := by rw [if_pos rfl] at H; exact H
  clear H; have H := H1; clear H1; replace H := (ob H); obtain ⟨t103, A80, H⟩ := H; (try dsimp only at H); have A8 := Aside0.mk A80; clear A80; replace H := (ob H); obtain ⟨t106, A90, H⟩ := H; (try dsimp only at H); have A9 := Aside0.mk A90; clear A90
  simp only [Option.some.injEq, Prod.mk.injEq] at H
  obtain ⟨rfl, rfl⟩ := H
  try go_wp2
  replace BK101 := am (blk_drew BK101.out); replace HB := am (below_drew1 HB.out); refine start_ (n := 6) (S := fun w' => w'.cell? ⟨gb101, 0, none⟩ = some (.int .i64 a0_0) ∧ w'.cell? ⟨gb101, 1, none⟩ = some (.slice A0_1 l0_1.length c0_1)) (ds := []) #[false, false, false, false, false, false] (by kernel_rfl) rfl rfl ⟨(blk_cell BK101.out 0).trans rfl, (blk_cell BK101.out 1).trans rfl⟩ (fun hHeld => ?_); generalize w6.drew = w10 at BK101 HB hHeld ⊢; refine take_ (i := 0) (N := some 8) (v := ?_) (a' := ?_) #[true, false, false, false, false, false] rfl rfl (by kernel_rfl) (fun _ _ _ h => h) (Or.inl ⟨by rfl, ?_⟩) hHeld ?_ ?_
  rotate_left
  ·rintro w' ⟨s0, s1⟩
   go_simp
   with_reducible rfl
  rotate_left
  ·simp only [Act.put, List.setIfInBounds_toArray, List.set_cons_zero, List.set_cons_succ, i64_w, i32_w]
   rfl
  refine take_ (i := 1) (N := some 9) (v := ?_) (a' := ?_) #[true, true, false, false, false, false] rfl rfl (by kernel_rfl) (fun _ _ _ h => h) (Or.inl ⟨by rfl, ?_⟩) hHeld ?_ ?_
  rotate_left
  ·rintro w' ⟨s0, s1⟩
   go_simp
   with_reducible rfl
  rotate_left
  ·simp only [Act.put, List.setIfInBounds_toArray, List.set_cons_zero, List.set_cons_succ, i64_w, i32_w]
   rfl
  refine one_ (i := 2) (N := some 10) #[true, true, true, false, false, false] rfl rfl (by kernel_rfl) (by decide) (fun K hK => ?_); refine goes_ Try.func128 (by kernel_rfl) rfl #[.agg #[.int .i64 a0_0, .slice A0_1 l0_1.length c0_1]] (by rfl) rfl rfl Q3 ?_
  with_reducible refine (spec_l2All.calls k a0_0 _ _ l0_1 t103 _ ?side1 ?side2 A8.out).mono ?_
  (case side1 => exact (Q7 HR0_1 HB))
  (case side2 => exact HC0_1.out)
  rintro e w11 ⟨v104, rfl, ho0, hb⟩; refine ⟨_, rfl, ?_⟩; have HO105 := am (Kd.R_lower ho0 (below_size (Q0 HB))); replace BK101 := bb BK101 hb; replace HB := bs HB hb; (try clear hb); (try clear hb2); (try clear hk); (try clear hi); (try clear ho0); obtain ⟨Ao12, co12, eo12⟩ := Kd.R_slice HO105.out
  (first | subst eo12 | (injection eo12 with f1_ f2_ f3_; have f4_ := f1_.symm; have f5_ := f3_.symm; clear f1_ f2_ f3_; subst f4_; subst f5_))
  refine hK.out _ _ ⟨(blk_cell BK101.out 0).trans rfl, (blk_cell BK101.out 1).trans rfl⟩ (fun hHeld => ?_); clear hK K; refine nz ?_
  refine one_ (i := 3) (N := some 11) #[true, true, true, true, false, false] rfl rfl (by kernel_rfl) (by decide) (fun K hK => ?_); refine goes_ Try.func161 (by kernel_rfl) rfl #[.agg #[.int .i64 a0_0, .slice A0_1 l0_1.length c0_1], .slice Ao12 t103.length co12] (by rfl) rfl rfl Q3 ?_
  with_reducible refine (spec_l2Parts.calls k a0_0 _ _ l0_1 _ _ t103 t106 _ ?side1 ?side2 ?side3 ?side4 A9.out).mono ?_
  (case side1 => exact (Q7 HR0_1 HB))
  (case side2 => exact HC0_1.out)
  (case side3 => exact (Q15 HO105))
  (case side4 => exact (Kd.R_reads' HO105.out).2.1)
  rintro e w13 ⟨v107, rfl, ho0, hb⟩; refine ⟨_, rfl, ?_⟩; have HO108 := am (Kd.S_lower (Kd.S_new' ho0 (Kd.R_lt (Q2 HO105))) (below_size (Q0 HB))); replace HO105 := am (Kd.R_below (Q2 HO105) hb); replace BK101 := bb BK101 hb; replace HB := bs HB hb; (try clear hb); (try clear hb2); (try clear hk); (try clear hi); (try clear ho0); refine hK.out _ _ ⟨(blk_cell BK101.out 0).trans rfl, (blk_cell BK101.out 1).trans rfl⟩ (fun hHeld => ?_); clear hK K; refine nz ?_
  refine pure_ (i := 4) (N := some 2) (v := ?_) (a' := ?_) #[true, true, true, true, true, false] rfl rfl (by kernel_rfl) (fun _ _ _ h => h) (Or.inl ⟨by rfl, ?_⟩) ?_ ?_
  rotate_left
  ·intro w'
   go_simp
   with_reducible rfl
  rotate_left
  ·simp only [Act.put, List.setIfInBounds_toArray, List.set_cons_zero, List.set_cons_succ, i64_w, i32_w]
   rfl
  refine pure_ (i := 5) (N := some 3) (v := ?_) (a' := ?_) #[true, true, true, true, true, true] rfl rfl (by kernel_rfl) (fun _ _ _ h => h) (Or.inl ⟨by rfl, ?_⟩) ?_ ?_
  rotate_left
  ·intro w'
   go_simp
   with_reducible rfl
  rotate_left
  ·simp only [Act.put, List.setIfInBounds_toArray, List.set_cons_zero, List.set_cons_succ, i64_w, i32_w]
   rfl
  refine done_ (by kernel_rfl) ?_
  try go_wp2
  go_ret2
  exact ⟨_, Q10, by (with_reducible repeat (first | apply Kd.S_alloc | apply Kd.S_drewN | apply Kd.S_drew)); exact Kd.S_mono HO108.out (fun _ hk => trivial), Q0 HB⟩
 ·replace c7 := Bool.eq_false_iff.mpr c7
  subst c7; have H1 : (some ((([] : List (List Int))), false)) = some (r1, r2) := by rw [if_neg (show ¬ (false = true) by decide)] at H; exact H
  clear H; have H := H1; clear H1; obtain ⟨y109, hy109⟩ : ∃ y_ : List (List Int), y_ = (([] : List (List Int))) := ⟨_, rfl⟩; replace H : (some (y109, false)) = some (r1, r2) := RH hy109 H; have Ny109 := Aside0.mk hy109; clear hy109
  simp only [Option.some.injEq, Prod.mk.injEq] at H
  obtain ⟨rfl, rfl⟩ := H
  go_wp2_with (first | ((with_reducible refine gate_dst (N := 7) rfl ?_); refine Kd.S_lit (Kd.slice 3 (Kd.int .i64)) _ 25 (by rfl) (N := 7) (by rfl) (xs := ([] : List (List Int))) (inner := []) (ok := fun _ => True) (okp := fun _ => True) Qr ?hp (fun _ hk => hk) trivial (Below.refl _ _) (Nat.le_refl _) (by simp) ?_; (case hp => exact (Reps.none _ _)); intro v110 w14 ho15 hb hg_ hnew_; clear hg_ hnew_; (first | rw [← Ny109.out] at ho15 | (simp only [Int.reduceToNat] at ho15; rw [← Ny109.out] at ho15)); have HO111 := am (Kd.S_lower ho15 (below_size (Q0 HB))); replace BK101 := bb BK101 hb; replace HB := bs HB hb; clear hb ho15))
  go_ret2
  exact ⟨_, Q10, Q32 HO111, Q0 HB⟩
end Go.Proofs.Ytcjddikalgnhpaa.P
