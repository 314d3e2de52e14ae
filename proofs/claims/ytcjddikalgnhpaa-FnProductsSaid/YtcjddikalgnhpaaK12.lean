/- Functions of the program as Lean functions, that each call comes to what they say, and what holds of them; part 12 of 15; no conditions beyond those that each theorem names. -/
import Derived.Test.YtcjddikalgnhpaaK1
import Derived.Test.YtcjddikalgnhpaaK8
import Derived.Test.YtcjddikalgnhpaaK9
import Derived.Test.YtcjddikalgnhpaaK11
namespace Go.Proofs.Ytcjddikalgnhpaa.P
open Go.RowKit Go.Proofs.YtcjddikalgnhpaaW.PrintWords Go.Proofs.YtcjddikalgnhpaaW.PrintLast Go.Proofs.YtcjddikalgnhpaaW.PrintMore
attribute [local go_sem] max2_int min2_int max_two min_two max_three min_three max_four min_four   -- for this text's walks alone
set_option linter.unusedVariables false
set_option linter.unusedSimpArgs false
/-! ### spec_DrawCartesianProduct: function 37 -/
def spec_DrawCartesianProduct.st (k : Nat) (s0_0 : List Int) (s0_1 : Int) (s0_2 : Int) : Option (Int × (List (S71)) × Int × (List (S71)) × Int × Int) := (spec_l1Cur_one.f s0_0 s0_1 s0_2 6).bind fun bt103 => (if bt103.1 = true then ((spec_l1Cur_someGraph.f k s0_0 bt103.2.1 bt103.2.2 4).bind fun bt106 => ((spec_l1Cur_someGraph.f k s0_0 bt106.2.2.1 bt106.2.2.2 3).bind fun bt112 => (some (bt106.1, bt106.2.1, bt112.1, bt112.2.1, bt112.2.2.1, bt112.2.2.2)))) else ((spec_l1Cur_among.f s0_0 bt103.2.1 bt103.2.2 (([2, 4, 8] : List Int))).bind fun bt121 => ((spec_l1Cur_someGraph.f k s0_0 bt121.2.1 bt121.2.2 bt121.1).bind fun bt124 => ((spec_l1Cur_someGraph.f k s0_0 bt124.2.2.1 bt124.2.2.2 2).bind fun bt130 => (some (bt124.1, bt124.2.1, bt130.1, bt130.2.1, bt130.2.2.1, bt130.2.2.2))))))
theorem spec_DrawCartesianProduct.stmono : ∀ a0 a1 a2 k, LeO (spec_DrawCartesianProduct.st k a0 a1 a2) (spec_DrawCartesianProduct.st (k + 1) a0 a1 a2) := by
 intro a0 a1 a2 k
 unfold spec_DrawCartesianProduct.st
 repeat' first | (with_reducible first | exact spec_l1Cur_someGraph.mono _ _ _ _ _ | exact LeO.refl _ | exact LeO.none _ | refine LeO.ite ?_ ?_ | refine LeO.bind ?_ (fun _ => ?_))
set_option maxHeartbeats 8000000 in
set_option maxRecDepth 100000 in
theorem spec_DrawCartesianProduct.callsM (k : Nat) (A0 : Option Addr) (c0 : Nat) (s0_0 : List Int) (r1 : Int) (r2 : List (S71)) (r3 : Int) (r4 : List (S71)) (r5 : Int) (r6 : Int) (w0 : World) (hr0 : Kd.C (Kd.int .u8) w0 A0 s0_0.length s0_0) (hc0 : s0_0.length ≤ c0) (h : spec_DrawCartesianProduct.st k s0_0 0 0 = some (r1, r2, r3, r4, r5, r6)) :
  Calls Try.prog 37 #[.slice A0 s0_0.length c0] w0 fun e w' => ∃ (g_ : Nat) (w_ : World), w0.heap.size ≤ w_.heap.size ∧ (∃ v1_ v3_ : Value, e = .returned (.tuple #[.agg #[.int .i64 r1, v1_], .agg #[.int .i64 r3, v3_]]) ∧ Kd.R k71 71 w' w_.heap.size (fun k_ => some k_ ≠ (v3_ : Value).ownBlock) v1_ r2 ∧ Kd.R k71 71 w' w_.heap.size (fun k_ => some k_ ≠ (v1_ : Value).ownBlock) v3_ r4 ∧ IsS96 w0 w' g_ s0_0 r5 r6 ∧ Below w0.heap.size w0 w' ∧ KeepBut w_ w' g_ none) := by
 have HR0 := Aside0.mk hr0
 have HC0 := Aside0.mk hc0
 clear hr0 hc0
 have HB := am (Below.refl w0.heap.size w0)
 obtain ⟨w, hw0_⟩ : ∃ w : World, w = w0 := ⟨_, rfl⟩
 have HW0 := am (show w0.heap.size ≤ w.heap.size by rw [hw0_]; exact Nat.le_refl _)
 have HL := HW0
 replace hw0_ := Aside0.mk hw0_
 have H : ((spec_l1Cur_one.f s0_0 0 0 6).bind fun bt103 => (if bt103.1 = true then ((spec_l1Cur_someGraph.f k s0_0 bt103.2.1 bt103.2.2 4).bind fun bt106 => ((spec_l1Cur_someGraph.f k s0_0 bt106.2.2.1 bt106.2.2.2 3).bind fun bt112 => (some (bt106.1, bt106.2.1, bt112.1, bt112.2.1, bt112.2.2.1, bt112.2.2.2)))) else ((spec_l1Cur_among.f s0_0 bt103.2.1 bt103.2.2 (([2, 4, 8] : List Int))).bind fun bt121 => ((spec_l1Cur_someGraph.f k s0_0 bt121.2.1 bt121.2.2 bt121.1).bind fun bt124 => ((spec_l1Cur_someGraph.f k s0_0 bt124.2.2.1 bt124.2.2.2 2).bind fun bt130 => (some (bt124.1, bt124.2.1, bt130.1, bt130.2.1, bt130.2.2.1, bt130.2.2.2))))))) = some (r1, r2, r3, r4, r5, r6) := h
 clear h
 replace H := (ob H)
 obtain ⟨⟨t103, t104, t105⟩, A20, H⟩ := H
 (try dsimp only at H)
 have A2 := Aside0.mk A20
 clear A20
 have HU3 := Aside0.mk H
 clear H
 go_enter Try.func37, Try.ntmps37
 go_upto_if 9 with (first | ((with_reducible refine gate_dst (N := 7) rfl ?_); refine box_event (by rfl) (N := 7) (by rfl) (cs := #[.slice A0 s0_0.length c0, .int .i64 0, .int .u64 0]) (t := 96) Qr ?_; intro g hg wS_ hbox hb; have n0_ := bs HB hb; have n1_ := am (show IsS96 w0 wS_ g s0_0 0 0 from ⟨A0, c0, hbox, Q25, HR0.out⟩); have m101_ := bb BK101 hb; have p101_ := am (Q132 : g ≠ gb101); have q101_ := am (Q131 : gb101 ≠ g); have m102_ := bb BK102 hb; have p102_ := am (Q190 : g ≠ gb102); have q102_ := am (Q189 : gb102 ≠ g); replace HB := n0_; have HI0 := n1_; clear n0_ n1_; clear BK101; have BK101 := m101_; have NB0_101 := p101_; have NB101_0 := q101_; clear m101_ p101_ q101_; clear BK102; have BK102 := m102_; have NB0_102 := p102_; have NB102_0 := q102_; clear m102_ p102_ q102_; clear hb hbox hg; have HK := am (show KeepBut w wS_ g none from by rw [hw0_.out]; exact KeepBut.of_below HB.out g none)) | ((with_reducible refine gate_dst (N := 2) rfl ?_); refine box_event (by rfl) (N := 2) (by rfl) (cs := #[.int .i64 0, .slice none 0 0]) (t := 30) Qr ?_; intro gb101 hg w4 hbox hb; have n2_ := bs HB hb; have n3_ := Aside0.mk hbox; have n4_ := am ((by rw [hg, hw0_.out]; exact (below_size (Q1 HB))) : w.heap.size ≤ gb101); have n5_ := am (Q25 : w0.heap.size ≤ gb101); replace HB := n2_; have BK101 := n3_; have GW101 := n4_; have GE101 := n5_; clear n2_ n3_ n4_ n5_; clear hb hbox hg) | ((with_reducible refine gate_dst (N := 3) rfl ?_); refine box_event (by rfl) (N := 3) (by rfl) (cs := #[.int .i64 0, .slice none 0 0]) (t := 30) Qr ?_; intro gb102 hg w5 hbox hb; have n2_ := bs HB hb; have n3_ := Aside0.mk hbox; have n4_ := am ((by rw [hg, hw0_.out]; exact (below_size (Q1 HB))) : w.heap.size ≤ gb102); have n5_ := am (Q25 : w0.heap.size ≤ gb102); have m101_ := bb BK101 hb; have p101_ := am (Q131 : gb101 ≠ gb102); have q101_ := am (Q132 : gb102 ≠ gb101); replace HB := n2_; have BK102 := n3_; have GW102 := n4_; have GE102 := n5_; clear n2_ n3_ n4_ n5_; clear BK101; have BK101 := m101_; have NB101_102 := p101_; have NB102_101 := q101_; clear m101_ p101_ q101_; clear hb hbox hg) | ((with_reducible refine gate_callee (f := 129) rfl ?_); refine goesL_ (some 9) rfl rfl Try.func129 (by kernel_rfl) rfl #[.pointer (some ⟨g, 0, none⟩), .int .i64 6] rfl Q6 ?_; (with_reducible refine (spec_l1Cur_one.calls g s0_0 0 0 6 t103 t104 t105 w0 _ ?side1 ?side2 A2.out).mono ?_); (case side1 => exact (Q3 HI0 NB0_101 NB0_102)); (case side2 => exact (Q7 HB HI0)); rintro e w6 ⟨rfl, hi, hb, hk⟩; refine ⟨_, rfl, ?_⟩; replace BK101 := am (KeepBut.blk hk (g' := gb101) (o := .cells #[.int .i64 0, .slice none 0 0] 30 (0, 0)) (Q0 BK101) NB101_0.out (by simp)); replace BK102 := am (KeepBut.blk hk (g' := gb102) (o := .cells #[.int .i64 0, .slice none 0 0] 30 (0, 0)) (Q0 BK102) NB102_0.out (by simp)); replace HK := am (KeepBut.trans (Q8 HK GW101 GW102) hk (.inl rfl)); replace HB := am (hb); replace HI0 := am (hi); (try clear hb); (try clear hk); (try clear hi)))
 (try simp only [Act.put, List.setIfInBounds_toArray, List.set_cons_zero, List.set_cons_succ])
 have H := HU3.out
 clear HU3
 by_cases c7 : t103 = true
 ·subst c7
  have H1 : ((spec_l1Cur_someGraph.f k s0_0 t104 t105 4).bind fun bt106 => ((spec_l1Cur_someGraph.f k s0_0 bt106.2.2.1 bt106.2.2.2 3).bind fun bt112 => (some (bt106.1, bt106.2.1, bt112.1, bt112.2.1, bt112.2.2.1, bt112.2.2.2)))) = some (r1, r2, r3, r4, r5, r6) := by rw [if_pos rfl] at H; exact H
  clear H; have H := H1; clear H1; replace H := (ob H); obtain ⟨⟨t106, t107, t110, t111⟩, A80, H⟩ := H; (try dsimp only at H); have A8 := Aside0.mk A80; clear A80; replace H := (ob H); obtain ⟨⟨t112, t113, t116, t117⟩, A90, H⟩ := H; (try dsimp only at H); have A9 := Aside0.mk A90; clear A90
  simp only [Option.some.injEq, Prod.mk.injEq] at H
  obtain ⟨rfl, rfl, rfl, rfl, rfl, rfl⟩ := H
  go_wp2_with (first | ((with_reducible refine gate_callee (f := 118) rfl ?_); refine goesL_ (some 11) rfl rfl Try.func118 (by kernel_rfl) rfl #[.pointer (some ⟨g, 0, none⟩), .int .i64 4] rfl Q6 ?_; (with_reducible refine (spec_l1Cur_someGraph.calls k g s0_0 t104 t105 4 t106 t107 t110 t111 w0 _ ?side1 ?side2 A8.out).mono ?_); (case side1 => exact (Q3 HI0 NB0_101 NB0_102)); (case side2 => exact (Q7 HB HI0)); rintro e w10 ⟨v108, rfl, ho0, hi, hb, hk⟩; refine ⟨_, rfl, ?_⟩; replace BK101 := am (KeepBut.blk hk (g' := gb101) (o := .cells #[.int .i64 0, .slice none 0 0] 30 (0, 0)) (Q0 BK101) NB101_0.out (by simp)); replace BK102 := am (KeepBut.blk hk (g' := gb102) (o := .cells #[.int .i64 0, .slice none 0 0] 30 (0, 0)) (Q0 BK102) NB102_0.out (by simp)); have HO109 := am (Kd.R_lower ho0 (keep_size (w := w) (g := g) (row := none) (Q8 HK GW101 GW102))); replace HK := am (KeepBut.trans (Q8 HK GW101 GW102) hk (.inl rfl)); replace HB := am (hb); replace HI0 := am (hi); (try clear hb); (try clear hk); (try clear hi); (try clear ho0)) | ((with_reducible refine gate_callee (f := 118) rfl ?_); refine goesL_ (some 13) rfl rfl Try.func118 (by kernel_rfl) rfl #[.pointer (some ⟨g, 0, none⟩), .int .i64 3] rfl Q6 ?_; (with_reducible refine (spec_l1Cur_someGraph.calls k g s0_0 t110 t111 3 t112 t113 t116 t117 w0 _ ?side1 ?side2 A9.out).mono ?_); (case side1 => exact (Q3 HI0 NB0_101 NB0_102)); (case side2 => exact (Q7 HB HI0)); rintro e w11 ⟨v114, rfl, ho0, hi, hb, hk⟩; refine ⟨_, rfl, ?_⟩; replace BK101 := am (KeepBut.blk hk (g' := gb101) (o := .cells #[.int .i64 0, .slice none 0 0] 30 (0, 0)) (Q0 BK101) NB101_0.out (by simp)); replace BK102 := am (KeepBut.blk hk (g' := gb102) (o := .cells #[.int .i64 0, .slice none 0 0] 30 (0, 0)) (Q0 BK102) NB102_0.out (by simp)); have HO115 := am (Kd.R_lower (Kd.R_new' ho0 (Kd.R_lt (Q5 HO109))) (keep_size (w := w) (g := g) (row := none) (Q8 HK GW101 GW102))); replace HO109 := am (Kd.R_mono (Kd.R_told (Kd.R_oldK (IsS96.apart (show IsS96 w0 _ g s0_0 t110 t111 from Q3 HI0 NB0_101 NB0_102) (Q5 HO109) (by decide)) hk) (Kd.R_base ho0)) (fun _ h_ => h_.1)); replace HK := am (KeepBut.trans (Q8 HK GW101 GW102) hk (.inl rfl)); replace HB := am (hb); replace HI0 := am (hi); (try clear hb); (try clear hk); (try clear hi); (try clear ho0); obtain ⟨_, _, _, _⟩ := o4 NB101_102 NB102_101 NB101_0 NB0_101; obtain ⟨_, _, _, _⟩ := b2 BK101; obtain ⟨Ao15, co15, eo15⟩ := Kd.R_slice HO109.out; subst eo15; obtain ⟨_, _⟩ := o2 NB102_0 NB0_102; obtain ⟨_, _, _, _⟩ := b2 BK102; obtain ⟨Ao18, co18, eo18⟩ := Kd.R_slice HO115.out; subst eo18))
  refine bodyPost_ret (results_cc rfl _ _ gb101 gb102 30 30 #[.int .i64 t106, .slice Ao15 t107.length co15] #[.int .i64 t112, .slice Ao18 t113.length co18] (0, 0) (0, 0) _ _ rfl (by (with_reducible repeat (first | refine blk_drewN ?_ _ | refine blk_drew ?_ | refine blk_alloc ?_ _)); refine blk_far ?_ NB101_102.out _; (with_reducible repeat (first | refine blk_drewN ?_ _ | refine blk_drew ?_ | refine blk_alloc ?_ _)); refine blk_far ?_ NB101_102.out _; (with_reducible repeat (first | refine blk_drewN ?_ _ | refine blk_drew ?_ | refine blk_alloc ?_ _)); refine blk_put (cs := #[.int .i64 t106, .slice none 0 0]) ?_ 1 _ rfl; (with_reducible repeat (first | refine blk_drewN ?_ _ | refine blk_drew ?_ | refine blk_alloc ?_ _)); refine blk_put (cs := #[.int .i64 0, .slice none 0 0]) ?_ 0 _ rfl; (with_reducible repeat (first | refine blk_drewN ?_ _ | refine blk_drew ?_ | refine blk_alloc ?_ _)); exact BK101.out) Try.underlying30 rfl (by kernel_rfl) rfl (by (with_reducible repeat (first | refine blk_drewN ?_ _ | refine blk_drew ?_ | refine blk_alloc ?_ _)); refine blk_put (cs := #[.int .i64 t112, .slice none 0 0]) ?_ 1 _ rfl; (with_reducible repeat (first | refine blk_drewN ?_ _ | refine blk_drew ?_ | refine blk_alloc ?_ _)); refine blk_put (cs := #[.int .i64 0, .slice none 0 0]) ?_ 0 _ rfl; (with_reducible repeat (first | refine blk_drewN ?_ _ | refine blk_drew ?_ | refine blk_alloc ?_ _)); refine blk_far ?_ NB102_101.out _; (with_reducible repeat (first | refine blk_drewN ?_ _ | refine blk_drew ?_ | refine blk_alloc ?_ _)); refine blk_far ?_ NB102_101.out _; (with_reducible repeat (first | refine blk_drewN ?_ _ | refine blk_drew ?_ | refine blk_alloc ?_ _)); exact BK102.out) Try.underlying30 rfl (by kernel_rfl)) rfl ?_; exact ⟨g, w, HL.out, ⟨_, _, Q19, Q156 HO109 BK101 BK102, Q156 HO115 BK101 BK102, Q3 HI0 NB0_101 NB0_102, Q124 HB HI0 GE101 GE102, Q8 HK GW101 GW102⟩⟩
 ·replace c7 := Bool.eq_false_iff.mpr c7
  subst c7; have H1 : ((spec_l1Cur_among.f s0_0 t104 t105 (([2, 4, 8] : List Int))).bind fun bt121 => ((spec_l1Cur_someGraph.f k s0_0 bt121.2.1 bt121.2.2 bt121.1).bind fun bt124 => ((spec_l1Cur_someGraph.f k s0_0 bt124.2.2.1 bt124.2.2.2 2).bind fun bt130 => (some (bt124.1, bt124.2.1, bt130.1, bt130.2.1, bt130.2.2.1, bt130.2.2.2))))) = some (r1, r2, r3, r4, r5, r6) := by rw [if_neg (show ¬ (false = true) by decide)] at H; exact H
  clear H; have H := H1; clear H1; obtain ⟨y118, hy118⟩ : ∃ y_ : List Int, y_ = (([2, 4, 8] : List Int)) := ⟨_, rfl⟩; replace H : ((spec_l1Cur_among.f s0_0 t104 t105 y118).bind fun bt121 => ((spec_l1Cur_someGraph.f k s0_0 bt121.2.1 bt121.2.2 bt121.1).bind fun bt124 => ((spec_l1Cur_someGraph.f k s0_0 bt124.2.2.1 bt124.2.2.2 2).bind fun bt130 => (some (bt124.1, bt124.2.1, bt130.1, bt130.2.1, bt130.2.2.1, bt130.2.2.2))))) = some (r1, r2, r3, r4, r5, r6) := RH hy118 H; have Ny118 := Aside0.mk hy118; clear hy118; replace H := (ob H); obtain ⟨⟨t121, t122, t123⟩, A190, H⟩ := H; (try dsimp only at H); have A19 := Aside0.mk A190; clear A190; replace H := (ob H); obtain ⟨⟨t124, t125, t128, t129⟩, A200, H⟩ := H; (try dsimp only at H); have A20 := Aside0.mk A200; clear A200; replace H := (ob H); obtain ⟨⟨t130, t131, t134, t135⟩, A210, H⟩ := H; (try dsimp only at H); have A21 := Aside0.mk A210; clear A210
  simp only [Option.some.injEq, Prod.mk.injEq] at H
  obtain ⟨rfl, rfl, rfl, rfl, rfl, rfl⟩ := H
  go_wp2_with (first | ((with_reducible refine gate_dst (N := 16) rfl ?_); refine Kd.R_lit (Kd.int .i64) _ 3 (by rfl) (N := 16) (by rfl) (xs := ([2, 4, 8] : List Int)) (inner := [.int .i64 2, .int .i64 4, .int .i64 8]) (ok := fun _ => True) (okp := fun _ => True) Qr ?hp (fun _ hk => hk) trivial (Below.refl _ _) (Nat.le_refl _) (by simp) ?_; (case hp => exact (Reps.one (show Kd.M (Kd.int .i64) _ _ _ 2 [.int .i64 2] from rfl) (Reps.one (show Kd.M (Kd.int .i64) _ _ _ 4 [.int .i64 4] from rfl) (Reps.one (show Kd.M (Kd.int .i64) _ _ _ 8 [.int .i64 8] from rfl) (Reps.none _ _))))); intro v119 w22 ho23 hb hg_ hnew_; clear hg_ hnew_; (first | rw [← Ny118.out] at ho23 | (simp only [Int.reduceToNat] at ho23; rw [← Ny118.out] at ho23)); have HO120 := am (Kd.R_lower ho23 (keep_size (w := w) (g := g) (row := none) (Q8 HK GW101 GW102))); replace BK101 := bb BK101 hb; replace BK102 := bb BK102 hb; replace HK := am (KeepBut.trans (Q8 HK GW101 GW102) (KeepBut.of_below hb g none) (.inl rfl)); replace HB := am (below_step (Q7 HB HI0) hb); replace HI0 := am (IsS96.below (Q3 HI0 NB0_101 NB0_102) hb); clear hb ho23; obtain ⟨Ao24, co24, eo24⟩ := Kd.R_slice HO120.out; subst eo24) | ((with_reducible refine gate_callee (f := 106) rfl ?_); refine goesL_ (some 17) rfl rfl Try.func106 (by kernel_rfl) rfl #[.pointer (some ⟨g, 0, none⟩), .slice Ao24 y118.length co24] rfl Q6 ?_; (with_reducible refine (spec_l1Cur_among.calls g s0_0 t104 t105 _ _ y118 t121 t122 t123 w0 _ ?side1 ?side2 ?side3 ?side4 ?side5 A19.out).mono ?_); (case side1 => exact (Q3 HI0 NB0_101 NB0_102)); (case side2 => exact (Q7 HB HI0)); (case side3 => exact (Q105 HO120)); (case side4 => exact (Kd.R_reads' HO120.out).2.1); (case side5 => exact far_slice (IsS96.own_ne HI0.out HO120.out (by decide))); rintro e w25 ⟨rfl, hi, hb, hk⟩; refine ⟨_, rfl, ?_⟩; replace BK101 := am (KeepBut.blk hk (g' := gb101) (o := .cells #[.int .i64 0, .slice none 0 0] 30 (0, 0)) (Q0 BK101) NB101_0.out (by simp)); replace BK102 := am (KeepBut.blk hk (g' := gb102) (o := .cells #[.int .i64 0, .slice none 0 0] 30 (0, 0)) (Q0 BK102) NB102_0.out (by simp)); replace HO120 := am (Kd.R_mono (Kd.R_keep (IsS96.apart (show IsS96 w0 _ g s0_0 t104 t105 from Q3 HI0 NB0_101 NB0_102) (Q5 HO120) (by decide)) hk (fun _ h => h.2)) (fun _ h => h.1)); replace HK := am (KeepBut.trans (Q8 HK GW101 GW102) hk (.inl rfl)); replace HB := am (hb); replace HI0 := am (hi); (try clear hb); (try clear hk); (try clear hi)) | ((with_reducible refine gate_callee (f := 118) rfl ?_); refine goesL_ (some 18) rfl rfl Try.func118 (by kernel_rfl) rfl #[.pointer (some ⟨g, 0, none⟩), .int .i64 t121] rfl Q6 ?_; (with_reducible refine (spec_l1Cur_someGraph.calls k g s0_0 t122 t123 t121 t124 t125 t128 t129 w0 _ ?side1 ?side2 A20.out).mono ?_); (case side1 => exact (Q3 HI0 NB0_101 NB0_102)); (case side2 => exact (Q7 HB HI0)); rintro e w26 ⟨v126, rfl, ho0, hi, hb, hk⟩; refine ⟨_, rfl, ?_⟩; replace BK101 := am (KeepBut.blk hk (g' := gb101) (o := .cells #[.int .i64 0, .slice none 0 0] 30 (0, 0)) (Q0 BK101) NB101_0.out (by simp)); replace BK102 := am (KeepBut.blk hk (g' := gb102) (o := .cells #[.int .i64 0, .slice none 0 0] 30 (0, 0)) (Q0 BK102) NB102_0.out (by simp)); replace HO120 := am (Kd.R_mono (Kd.R_keep (IsS96.apart (show IsS96 w0 _ g s0_0 t122 t123 from Q3 HI0 NB0_101 NB0_102) (Q5 HO120) (by decide)) hk (fun _ h => h.2)) (fun _ h => h.1)); have HO127 := am (Kd.R_lower ho0 (keep_size (w := w) (g := g) (row := none) (Q8 HK GW101 GW102))); replace HK := am (KeepBut.trans (Q8 HK GW101 GW102) hk (.inl rfl)); replace HB := am (hb); replace HI0 := am (hi); (try clear hb); (try clear hk); (try clear hi); (try clear ho0)) | ((with_reducible refine gate_callee (f := 118) rfl ?_); refine goesL_ (some 20) rfl rfl Try.func118 (by kernel_rfl) rfl #[.pointer (some ⟨g, 0, none⟩), .int .i64 2] rfl Q6 ?_; (with_reducible refine (spec_l1Cur_someGraph.calls k g s0_0 t128 t129 2 t130 t131 t134 t135 w0 _ ?side1 ?side2 A21.out).mono ?_); (case side1 => exact (Q3 HI0 NB0_101 NB0_102)); (case side2 => exact (Q7 HB HI0)); rintro e w27 ⟨v132, rfl, ho0, hi, hb, hk⟩; refine ⟨_, rfl, ?_⟩; replace BK101 := am (KeepBut.blk hk (g' := gb101) (o := .cells #[.int .i64 0, .slice none 0 0] 30 (0, 0)) (Q0 BK101) NB101_0.out (by simp)); replace BK102 := am (KeepBut.blk hk (g' := gb102) (o := .cells #[.int .i64 0, .slice none 0 0] 30 (0, 0)) (Q0 BK102) NB102_0.out (by simp)); replace HO120 := am (Kd.R_mono (Kd.R_keep (IsS96.apart (show IsS96 w0 _ g s0_0 t128 t129 from Q3 HI0 NB0_101 NB0_102) (Q5 HO120) (by decide)) hk (fun _ h => h.2)) (fun _ h => h.1)); have HO133 := am (Kd.R_lower (Kd.R_new' ho0 (Kd.R_lt (Q5 HO127))) (keep_size (w := w) (g := g) (row := none) (Q8 HK GW101 GW102))); replace HO127 := am (Kd.R_mono (Kd.R_told (Kd.R_oldK (IsS96.apart (show IsS96 w0 _ g s0_0 t128 t129 from Q3 HI0 NB0_101 NB0_102) (Q5 HO127) (by decide)) hk) (Kd.R_base ho0)) (fun _ h_ => h_.1)); replace HK := am (KeepBut.trans (Q8 HK GW101 GW102) hk (.inl rfl)); replace HB := am (hb); replace HI0 := am (hi); (try clear hb); (try clear hk); (try clear hi); (try clear ho0); obtain ⟨_, _, _, _⟩ := o4 NB101_102 NB102_101 NB101_0 NB0_101; obtain ⟨_, _, _, _⟩ := b2 BK101; obtain ⟨Ao31, co31, eo31⟩ := Kd.R_slice HO127.out; subst eo31; obtain ⟨_, _⟩ := o2 NB102_0 NB0_102; obtain ⟨_, _, _, _⟩ := b2 BK102; obtain ⟨Ao34, co34, eo34⟩ := Kd.R_slice HO133.out; subst eo34))
  refine bodyPost_ret (results_cc rfl _ _ gb101 gb102 30 30 #[.int .i64 t124, .slice Ao31 t125.length co31] #[.int .i64 t130, .slice Ao34 t131.length co34] (0, 0) (0, 0) _ _ rfl (by (with_reducible repeat (first | refine blk_drewN ?_ _ | refine blk_drew ?_ | refine blk_alloc ?_ _)); refine blk_far ?_ NB101_102.out _; (with_reducible repeat (first | refine blk_drewN ?_ _ | refine blk_drew ?_ | refine blk_alloc ?_ _)); refine blk_far ?_ NB101_102.out _; (with_reducible repeat (first | refine blk_drewN ?_ _ | refine blk_drew ?_ | refine blk_alloc ?_ _)); refine blk_put (cs := #[.int .i64 t124, .slice none 0 0]) ?_ 1 _ rfl; (with_reducible repeat (first | refine blk_drewN ?_ _ | refine blk_drew ?_ | refine blk_alloc ?_ _)); refine blk_put (cs := #[.int .i64 0, .slice none 0 0]) ?_ 0 _ rfl; (with_reducible repeat (first | refine blk_drewN ?_ _ | refine blk_drew ?_ | refine blk_alloc ?_ _)); exact BK101.out) Try.underlying30 rfl (by kernel_rfl) rfl (by (with_reducible repeat (first | refine blk_drewN ?_ _ | refine blk_drew ?_ | refine blk_alloc ?_ _)); refine blk_put (cs := #[.int .i64 t130, .slice none 0 0]) ?_ 1 _ rfl; (with_reducible repeat (first | refine blk_drewN ?_ _ | refine blk_drew ?_ | refine blk_alloc ?_ _)); refine blk_put (cs := #[.int .i64 0, .slice none 0 0]) ?_ 0 _ rfl; (with_reducible repeat (first | refine blk_drewN ?_ _ | refine blk_drew ?_ | refine blk_alloc ?_ _)); refine blk_far ?_ NB102_101.out _; (with_reducible repeat (first | refine blk_drewN ?_ _ | refine blk_drew ?_ | refine blk_alloc ?_ _)); refine blk_far ?_ NB102_101.out _; (with_reducible repeat (first | refine blk_drewN ?_ _ | refine blk_drew ?_ | refine blk_alloc ?_ _)); exact BK102.out) Try.underlying30 rfl (by kernel_rfl)) rfl ?_; exact ⟨g, w, HL.out, ⟨_, _, Q19, Q157 HO127 BK101 BK102, Q157 HO133 BK101 BK102, Q3 HI0 NB0_101 NB0_102, Q124 HB HI0 GE101 GE102, Q8 HK GW101 GW102⟩⟩
/-- The same, with the state that it makes itself. -/
def spec_DrawCartesianProduct.f (k : Nat) (a0 : List Int) : Option (Int × List (S71) × Int × List (S71)) := (spec_DrawCartesianProduct.st k a0 0 0).bind fun b_ => some (b_.1, b_.2.1, b_.2.2.1, b_.2.2.2.1)
theorem spec_DrawCartesianProduct.mono : ∀ a0 k, LeO (spec_DrawCartesianProduct.f k a0) (spec_DrawCartesianProduct.f (k + 1) a0) := fun a0 k => LeO.bind (spec_DrawCartesianProduct.stmono a0 0 0 k) (fun _ => LeO.refl _)
theorem spec_DrawCartesianProduct.calls (k : Nat) (A0 : Option Addr) (c0 : Nat) (a0 : List Int) (r1 : Int) (r2 : List (S71)) (r3 : Int) (r4 : List (S71)) (w : World) (hr0 : Kd.C (Kd.int .u8) w A0 a0.length a0) (hc0 : a0.length ≤ c0) (h : spec_DrawCartesianProduct.f k a0 = some (r1, r2, r3, r4)) :
  Calls Try.prog 37 #[.slice A0 a0.length c0] w fun e w' => ∃ v1_ v3_ : Value, e = .returned (.tuple #[.agg #[.int .i64 r1, v1_], .agg #[.int .i64 r3, v3_]]) ∧ Kd.R k71 71 w' w.heap.size (fun k_ => some k_ ≠ (v3_ : Value).ownBlock) v1_ r2 ∧ Kd.R k71 71 w' w.heap.size (fun k_ => some k_ ≠ (v1_ : Value).ownBlock) v3_ r4 ∧ Below w.heap.size w w' := by
 obtain ⟨⟨r0_, r1_, r2_, r3_, r4_, r5_⟩, h1_, h2_⟩ := Option.bind_eq_some_iff.mp h
 simp only [Option.some.injEq, Prod.mk.injEq] at h2_
 obtain ⟨rfl, rfl, rfl, rfl⟩ := h2_
 refine (spec_DrawCartesianProduct.callsM k A0 c0 a0 _ _ _ _ _ _ w hr0 hc0 h1_).mono ?_
 rintro e w' ⟨g_, w_, hL_, ⟨v1_, ⟨v3_, ⟨h0_, h1_, h2_, _, hB_, _⟩⟩⟩⟩
 exact ⟨v1_, v3_, h0_, Kd.R_lower h1_ hL_, Kd.R_lower h2_ hL_, hB_⟩
/-! ### spec_l1Cur_bigGraph: function 156 -/
def spec_l1Cur_bigGraph.f (k : Nat) (s0_0 : List Int) (s0_1 : Int) (s0_2 : Int) : Option (Int × (List (S71)) × Int × Int) := (spec_l1Cur_someGraph.f k s0_0 s0_1 s0_2 8).bind fun bt102 => (some (bt102.1, bt102.2.1, bt102.2.2.1, bt102.2.2.2))
theorem spec_l1Cur_bigGraph.mono : ∀ a0 a1 a2 k, LeO (spec_l1Cur_bigGraph.f k a0 a1 a2) (spec_l1Cur_bigGraph.f (k + 1) a0 a1 a2) := by
 intro a0 a1 a2 k
 unfold spec_l1Cur_bigGraph.f
 repeat' first | (with_reducible first | exact spec_l1Cur_someGraph.mono _ _ _ _ _ | exact LeO.refl _ | exact LeO.none _ | refine LeO.ite ?_ ?_ | refine LeO.bind ?_ (fun _ => ?_))
set_option maxHeartbeats 8000000 in
set_option maxRecDepth 100000 in
theorem spec_l1Cur_bigGraph.calls (k : Nat) (g : Nat) (s0_0 : List Int) (s0_1 : Int) (s0_2 : Int) (r1 : Int) (r2 : List (S71)) (r3 : Int) (r4 : Int) (w0 w : World) (hI : IsS96 w0 w g s0_0 s0_1 s0_2) (hB : Below w0.heap.size w0 w) (h : spec_l1Cur_bigGraph.f k s0_0 s0_1 s0_2 = some (r1, r2, r3, r4)) :
  Calls Try.prog 156 #[.pointer (some ⟨g, 0, none⟩)] w fun e w' => ∃ v1_ : Value, e = .returned (.agg #[.int .i64 r1, v1_]) ∧ Kd.R k71 71 w' w.heap.size (fun _ => True) v1_ r2 ∧ IsS96 w0 w' g s0_0 r3 r4 ∧ Below w0.heap.size w0 w' ∧ KeepBut w w' g none := by
 have hu30 := Try.underlying30
 have HI0 := Aside0.mk hI
 have HK := am (KeepBut.refl w g none)
 have HL := Aside0.mk hB.size
 clear hI
 have HW0 := Aside0.mk hB.size
 have HB := Aside0.mk hB
 clear hB
 have H : ((spec_l1Cur_someGraph.f k s0_0 s0_1 s0_2 8).bind fun bt102 => (some (bt102.1, bt102.2.1, bt102.2.2.1, bt102.2.2.2))) = some (r1, r2, r3, r4) := h
 clear h
 replace H := (ob H)
 obtain ⟨⟨t102, t103, t106, t107⟩, A20, H⟩ := H
 (try dsimp only at H)
 have A2 := Aside0.mk A20
 clear A20
 simp only [Option.some.injEq, Prod.mk.injEq] at H
 obtain ⟨rfl, rfl, rfl, rfl⟩ := H
 go_enter Try.func156, Try.ntmps156
 go_wp2_with (first | ((with_reducible refine gate_dst (N := 2) rfl ?_); refine box_event (by rfl) (N := 2) (by rfl) (cs := #[.int .i64 0, .slice none 0 0]) (t := 30) Qr ?_; intro gb101 hg w3 hbox hb; replace HB := am (below_step (Q7 HB HI0) hb); have BK101 := am (hbox); have GW101 := am ((Q196 : w.heap.size ≤ gb101)); have GE101 := am ((Nat.le_trans HW0.out (Q196 : w.heap.size ≤ gb101) : w0.heap.size ≤ gb101)); replace HK := am (KeepBut.trans (Q50 HK) (KeepBut.of_below hb g none) (.inl rfl)); have NB0_101 := am ((Q201 : g ≠ gb101)); have NB101_0 := am ((Q202 : gb101 ≠ g)); replace HI0 := am (IsS96.below (Q36 HI0) hb); clear hb hbox hg) | ((with_reducible refine gate_callee (f := 118) rfl ?_); refine goesL_ (some 4) rfl rfl Try.func118 (by kernel_rfl) rfl #[.pointer (some ⟨g, 0, none⟩), .int .i64 8] rfl Q6 ?_; (with_reducible refine (spec_l1Cur_someGraph.calls k g s0_0 s0_1 s0_2 8 t102 t103 t106 t107 w0 _ ?side1 ?side2 A2.out).mono ?_); (case side1 => exact (Q31 HI0 NB0_101)); (case side2 => exact (Q7 HB HI0)); rintro e w4 ⟨v104, rfl, ho0, hi, hb, hk⟩; refine ⟨_, rfl, ?_⟩; replace BK101 := am (KeepBut.blk hk (g' := gb101) (o := .cells #[.int .i64 0, .slice none 0 0] 30 (0, 0)) (Q0 BK101) NB101_0.out (by simp)); have HO105 := am (Kd.R_lower ho0 (keep_size (w := w) (g := g) (row := none) (Q37 HK GW101))); replace HK := am (KeepBut.trans (Q37 HK GW101) hk (.inl rfl)); replace HB := am (hb); replace HI0 := am (hi); (try clear hb); (try clear hk); (try clear hi); (try clear ho0); obtain ⟨_, _⟩ := o2 NB101_0 NB0_101; obtain ⟨_, _, _, _⟩ := b2 BK101; obtain ⟨Ao7, co7, eo7⟩ := Kd.R_slice HO105.out; subst eo7))
 refine bodyPost_ret (results_cell_row rfl _ _ gb101 30 #[.int .i64 t102, .slice Ao7 t103.length co7] (0, 0) _ rfl (Q98 BK101) Try.underlying30 rfl (by kernel_rfl)) rfl ?_
 exact ⟨_, Q19, Q178 HO105 BK101, Q31 HI0 NB0_101, Q48 HB HI0 GE101, Q37 HK GW101⟩
/-! ### spec_DrawIsGraph: function 134 -/
def spec_DrawIsGraph.st (k : Nat) (s0_0 : List Int) (s0_1 : Int) (s0_2 : Int) : Option (Int × (List (S71)) × Int × Int) := (spec_l1Cur_bigGraph.f k s0_0 s0_1 s0_2).bind fun bt102 => (some (bt102.1, bt102.2.1, bt102.2.2.1, bt102.2.2.2))
theorem spec_DrawIsGraph.stmono : ∀ a0 a1 a2 k, LeO (spec_DrawIsGraph.st k a0 a1 a2) (spec_DrawIsGraph.st (k + 1) a0 a1 a2) := by
 intro a0 a1 a2 k
 unfold spec_DrawIsGraph.st
 repeat' first | (with_reducible first | exact spec_l1Cur_bigGraph.mono _ _ _ _ | exact LeO.refl _ | exact LeO.none _ | refine LeO.ite ?_ ?_ | refine LeO.bind ?_ (fun _ => ?_))
set_option maxHeartbeats 8000000 in
set_option maxRecDepth 100000 in
theorem spec_DrawIsGraph.callsM (k : Nat) (A0 : Option Addr) (c0 : Nat) (s0_0 : List Int) (r1 : Int) (r2 : List (S71)) (r3 : Int) (r4 : Int) (w0 : World) (hr0 : Kd.C (Kd.int .u8) w0 A0 s0_0.length s0_0) (hc0 : s0_0.length ≤ c0) (h : spec_DrawIsGraph.st k s0_0 0 0 = some (r1, r2, r3, r4)) :
  Calls Try.prog 134 #[.slice A0 s0_0.length c0] w0 fun e w' => ∃ (g_ : Nat) (w_ : World), w0.heap.size ≤ w_.heap.size ∧ (∃ v1_ : Value, e = .returned (.agg #[.int .i64 r1, v1_]) ∧ Kd.R k71 71 w' w_.heap.size (fun _ => True) v1_ r2 ∧ IsS96 w0 w' g_ s0_0 r3 r4 ∧ Below w0.heap.size w0 w' ∧ KeepBut w_ w' g_ none) := by
 have HR0 := Aside0.mk hr0
 have HC0 := Aside0.mk hc0
 clear hr0 hc0
 have HB := am (Below.refl w0.heap.size w0)
 obtain ⟨w, hw0_⟩ : ∃ w : World, w = w0 := ⟨_, rfl⟩
 have HW0 := am (show w0.heap.size ≤ w.heap.size by rw [hw0_]; exact Nat.le_refl _)
 have HL := HW0
 replace hw0_ := Aside0.mk hw0_
 have H : ((spec_l1Cur_bigGraph.f k s0_0 0 0).bind fun bt102 => (some (bt102.1, bt102.2.1, bt102.2.2.1, bt102.2.2.2))) = some (r1, r2, r3, r4) := h
 clear h
 replace H := (ob H)
 obtain ⟨⟨t102, t103, t106, t107⟩, A20, H⟩ := H
 (try dsimp only at H)
 have A2 := Aside0.mk A20
 clear A20
 simp only [Option.some.injEq, Prod.mk.injEq] at H
 obtain ⟨rfl, rfl, rfl, rfl⟩ := H
 go_enter Try.func134, Try.ntmps134
 go_wp2_with (first | ((with_reducible refine gate_dst (N := 6) rfl ?_); refine box_event (by rfl) (N := 6) (by rfl) (cs := #[.slice A0 s0_0.length c0, .int .i64 0, .int .u64 0]) (t := 96) Qr ?_; intro g hg wS_ hbox hb; have n0_ := bs HB hb; have n1_ := am (show IsS96 w0 wS_ g s0_0 0 0 from ⟨A0, c0, hbox, Q25, HR0.out⟩); have m101_ := bb BK101 hb; have p101_ := am (Q132 : g ≠ gb101); have q101_ := am (Q131 : gb101 ≠ g); replace HB := n0_; have HI0 := n1_; clear n0_ n1_; clear BK101; have BK101 := m101_; have NB0_101 := p101_; have NB101_0 := q101_; clear m101_ p101_ q101_; clear hb hbox hg; have HK := am (show KeepBut w wS_ g none from by rw [hw0_.out]; exact KeepBut.of_below HB.out g none)) | ((with_reducible refine gate_dst (N := 2) rfl ?_); refine box_event (by rfl) (N := 2) (by rfl) (cs := #[.int .i64 0, .slice none 0 0]) (t := 30) Qr ?_; intro gb101 hg w3 hbox hb; have n2_ := bs HB hb; have n3_ := Aside0.mk hbox; have n4_ := am ((by rw [hg, hw0_.out]; exact (below_size (Q1 HB))) : w.heap.size ≤ gb101); have n5_ := am (Q25 : w0.heap.size ≤ gb101); replace HB := n2_; have BK101 := n3_; have GW101 := n4_; have GE101 := n5_; clear n2_ n3_ n4_ n5_; clear hb hbox hg) | ((with_reducible refine gate_callee (f := 156) rfl ?_); refine goesL_ (some 8) rfl rfl Try.func156 (by kernel_rfl) rfl #[.pointer (some ⟨g, 0, none⟩)] rfl Q6 ?_; (with_reducible refine (spec_l1Cur_bigGraph.calls k g s0_0 0 0 t102 t103 t106 t107 w0 _ ?side1 ?side2 A2.out).mono ?_); (case side1 => exact (Q31 HI0 NB0_101)); (case side2 => exact (Q7 HB HI0)); rintro e w4 ⟨v104, rfl, ho0, hi, hb, hk⟩; refine ⟨_, rfl, ?_⟩; replace BK101 := am (KeepBut.blk hk (g' := gb101) (o := .cells #[.int .i64 0, .slice none 0 0] 30 (0, 0)) (Q0 BK101) NB101_0.out (by simp)); have HO105 := am (Kd.R_lower ho0 (keep_size (w := w) (g := g) (row := none) (Q37 HK GW101))); replace HK := am (KeepBut.trans (Q37 HK GW101) hk (.inl rfl)); replace HB := am (hb); replace HI0 := am (hi); (try clear hb); (try clear hk); (try clear hi); (try clear ho0); obtain ⟨_, _⟩ := o2 NB101_0 NB0_101; obtain ⟨_, _, _, _⟩ := b2 BK101; obtain ⟨Ao7, co7, eo7⟩ := Kd.R_slice HO105.out; subst eo7))
 refine bodyPost_ret (results_cell_row rfl _ _ gb101 30 #[.int .i64 t102, .slice Ao7 t103.length co7] (0, 0) _ rfl (Q98 BK101) Try.underlying30 rfl (by kernel_rfl)) rfl ?_
 exact ⟨g, w, HL.out, ⟨_, Q19, Q178 HO105 BK101, Q31 HI0 NB0_101, Q48 HB HI0 GE101, Q37 HK GW101⟩⟩
/-- The same, with the state that it makes itself. -/
def spec_DrawIsGraph.f (k : Nat) (a0 : List Int) : Option (Int × List (S71)) := (spec_DrawIsGraph.st k a0 0 0).bind fun b_ => some (b_.1, b_.2.1)
theorem spec_DrawIsGraph.mono : ∀ a0 k, LeO (spec_DrawIsGraph.f k a0) (spec_DrawIsGraph.f (k + 1) a0) := fun a0 k => LeO.bind (spec_DrawIsGraph.stmono a0 0 0 k) (fun _ => LeO.refl _)
theorem spec_DrawIsGraph.calls (k : Nat) (A0 : Option Addr) (c0 : Nat) (a0 : List Int) (r1 : Int) (r2 : List (S71)) (w : World) (hr0 : Kd.C (Kd.int .u8) w A0 a0.length a0) (hc0 : a0.length ≤ c0) (h : spec_DrawIsGraph.f k a0 = some (r1, r2)) :
  Calls Try.prog 134 #[.slice A0 a0.length c0] w fun e w' => ∃ v1_ : Value, e = .returned (.agg #[.int .i64 r1, v1_]) ∧ Kd.R k71 71 w' w.heap.size (fun _ => True) v1_ r2 ∧ Below w.heap.size w w' := by
 obtain ⟨⟨r0_, r1_, r2_, r3_⟩, h1_, h2_⟩ := Option.bind_eq_some_iff.mp h
 simp only [Option.some.injEq, Prod.mk.injEq] at h2_
 obtain ⟨rfl, rfl⟩ := h2_
 refine (spec_DrawIsGraph.callsM k A0 c0 a0 _ _ _ _ w hr0 hc0 h1_).mono ?_
 rintro e w' ⟨g_, w_, hL_, ⟨v1_, ⟨h0_, h1_, _, hB_, _⟩⟩⟩
 exact ⟨v1_, h0_, Kd.R_lower h1_ hL_, hB_⟩
/-! ### spec_DrawComplementOf: function 42 -/
def spec_DrawComplementOf.f (k : Nat) (l0 : List Int) : Option (Int × (List (S71))) := (spec_DrawIsGraph.f k l0).bind fun bt102 => (some (bt102.1, bt102.2))
theorem spec_DrawComplementOf.mono : ∀ a0 k, LeO (spec_DrawComplementOf.f k a0) (spec_DrawComplementOf.f (k + 1) a0) := by
 intro a0 k
 unfold spec_DrawComplementOf.f
 repeat' first | (with_reducible first | exact spec_DrawIsGraph.mono _ _ | exact LeO.refl _ | exact LeO.none _ | refine LeO.ite ?_ ?_ | refine LeO.bind ?_ (fun _ => ?_))
set_option maxHeartbeats 8000000 in
set_option maxRecDepth 100000 in
theorem spec_DrawComplementOf.calls (k : Nat) (A0 : Option Addr) (c0 : Nat) (l0 : List Int) (r1 : Int) (r2 : List (S71)) (w : World) (hr0 : Kd.C (Kd.int .u8) w A0 l0.length l0) (hc0 : l0.length ≤ c0) (h : spec_DrawComplementOf.f k l0 = some (r1, r2)) :
  Calls Try.prog 42 #[.slice A0 l0.length c0] w fun e w' => ∃ v1_ : Value, e = .returned (.agg #[.int .i64 r1, v1_]) ∧ Kd.R k71 71 w' w.heap.size (fun _ => True) v1_ r2 ∧ Below w.heap.size w w' := by
 have hu30 := Try.underlying30
 have HR0 := Aside0.mk hr0
 have HC0 := Aside0.mk hc0
 clear hr0 hc0
 have HB := am (Below.refl w.heap.size w)
 have H : ((spec_DrawIsGraph.f k l0).bind fun bt102 => (some (bt102.1, bt102.2))) = some (r1, r2) := h
 clear h
 replace H := (ob H)
 obtain ⟨⟨t102, t103⟩, A20, H⟩ := H
 (try dsimp only at H)
 have A2 := Aside0.mk A20
 clear A20
 simp only [Option.some.injEq, Prod.mk.injEq] at H
 obtain ⟨rfl, rfl⟩ := H
 go_enter Try.func42, Try.ntmps42
 go_wp2_with (first | ((with_reducible refine gate_dst (N := 2) rfl ?_); refine box_event (by rfl) (N := 2) (by rfl) (cs := #[.int .i64 0, .slice none 0 0]) (t := 30) Qr ?_; intro gb101 hg w3 hbox hb; have BK101 := am (hbox); have GE101 := ge HB hg; replace HB := bs HB hb; clear hb hbox hg) | ((with_reducible refine gate_callee (f := 134) rfl ?_); refine goesL_ (some 4) rfl rfl Try.func134 (by kernel_rfl) rfl #[.slice A0 l0.length c0] rfl Q6 ?_; (with_reducible refine (spec_DrawIsGraph.calls k _ _ l0 t102 t103 _ ?side1 ?side2 A2.out).mono ?_); (case side1 => exact (Q11 HR0 HB)); (case side2 => exact HC0.out); rintro e w4 ⟨v104, rfl, ho0, hb⟩; refine ⟨_, rfl, ?_⟩; have HO105 := am (Kd.R_lower ho0 (below_size (Q1 HB))); replace BK101 := bb BK101 hb; replace HB := bs HB hb; (try clear hb); (try clear ho0); obtain ⟨_, _, _, _⟩ := b2 BK101; obtain ⟨Ao6, co6, eo6⟩ := Kd.R_slice HO105.out; subst eo6))
 refine bodyPost_ret (results_cell_row rfl _ _ gb101 30 #[.int .i64 t102, .slice Ao6 t103.length co6] (0, 0) _ rfl (Q98 BK101) Try.underlying30 rfl (by kernel_rfl)) rfl ?_
 exact ⟨_, Q19, by (with_reducible repeat (first | apply Kd.R_alloc | apply Kd.R_drewN | apply Kd.R_drew)); exact Kd.R_mono (Kd.R_far (p := ⟨gb101, 1, none⟩) (Kd.R_far (p := ⟨gb101, 0, none⟩) (Kd.R_types HO105.out BK101.out (by decide)) (fun _ hk => hk.2) (.int .i64 t102)) (fun _ hk => hk.2) (.slice Ao6 t103.length co6)) (fun _ hk => trivial), Q4 HB GE101⟩
/-! ### spec_StrongProduct: function 41 -/
def spec_StrongProduct.f (k : Nat) (a0_0 : Int) (l0_1 : List (S71)) (a1_0 : Int) (l1_1 : List (S71)) : Option (Int × (List (S71)) × Bool) := (spec_l2Product.f k a0_0 l0_1 a1_0 l1_1 true).bind fun bt104 => (some (bt104.1, bt104.2.1, bt104.2.2))
theorem spec_StrongProduct.mono : ∀ a0 a1 a2 a3 k, LeO (spec_StrongProduct.f k a0 a1 a2 a3) (spec_StrongProduct.f (k + 1) a0 a1 a2 a3) := by
 intro a0 a1 a2 a3 k
 unfold spec_StrongProduct.f
 repeat' first | (with_reducible first | exact spec_l2Product.mono _ _ _ _ _ _ | exact LeO.refl _ | exact LeO.none _ | refine LeO.ite ?_ ?_ | refine LeO.bind ?_ (fun _ => ?_))
set_option maxHeartbeats 8000000 in
set_option maxRecDepth 100000 in
theorem spec_StrongProduct.calls (k : Nat) (a0_0 : Int) (A0_1 : Option Addr) (c0_1 : Nat) (l0_1 : List (S71)) (a1_0 : Int) (A1_1 : Option Addr) (c1_1 : Nat) (l1_1 : List (S71)) (r1 : Int) (r2 : List (S71)) (r3 : Bool) (w : World) (hr0_1 : Kd.C k71 w A0_1 l0_1.length l0_1) (hc0_1 : l0_1.length ≤ c0_1) (hr1_1 : Kd.C k71 w A1_1 l1_1.length l1_1) (hc1_1 : l1_1.length ≤ c1_1) (h : spec_StrongProduct.f k a0_0 l0_1 a1_0 l1_1 = some (r1, r2, r3)) :
  Calls Try.prog 41 #[.agg #[.int .i64 a0_0, .slice A0_1 l0_1.length c0_1], .agg #[.int .i64 a1_0, .slice A1_1 l1_1.length c1_1]] w fun e w' => ∃ v1_ : Value, e = .returned (.tuple #[.agg #[.int .i64 r1, v1_], .bool r3]) ∧ Kd.R k71 71 w' w.heap.size (fun _ => True) v1_ r2 ∧ Below w.heap.size w w' := by
 have hu30 := Try.underlying30
 have HR0_1 := Aside0.mk hr0_1
 have HC0_1 := Aside0.mk hc0_1
 clear hr0_1 hc0_1
 have HR1_1 := Aside0.mk hr1_1
 have HC1_1 := Aside0.mk hc1_1
 clear hr1_1 hc1_1
 have HB := am (Below.refl w.heap.size w)
 have H : ((spec_l2Product.f k a0_0 l0_1 a1_0 l1_1 true).bind fun bt104 => (some (bt104.1, bt104.2.1, bt104.2.2))) = some (r1, r2, r3) := h
 clear h
 replace H := (ob H)
 obtain ⟨⟨t104, t105, t108⟩, A30, H⟩ := H
 (try dsimp only at H)
 have A3 := Aside0.mk A30
 clear A30
 simp only [Option.some.injEq, Prod.mk.injEq] at H
 obtain ⟨rfl, rfl, rfl⟩ := H
 go_enter Try.func41, Try.ntmps41
 go_wp2_with (first | ((with_reducible refine gate_dst (N := 2) rfl ?_); refine box_event (by rfl) (N := 2) (by rfl) (cs := #[.int .i64 a0_0, .slice A0_1 l0_1.length c0_1]) (t := 30) Qr ?_; intro gb101 hg w4 hbox hb; have BK101 := am (hbox); have GE101 := ge HB hg; replace HB := bs HB hb; clear hb hbox hg) | ((with_reducible refine gate_dst (N := 3) rfl ?_); refine box_event (by rfl) (N := 3) (by rfl) (cs := #[.int .i64 a1_0, .slice A1_1 l1_1.length c1_1]) (t := 30) Qr ?_; intro gb102 hg w5 hbox hb; have BK102 := am (hbox); have GE102 := ge HB hg; replace HB := bs HB hb; obtain ⟨NB101_102, NB102_101⟩ := ne2 BK101 hg; replace BK101 := bb BK101 hb; clear hb hbox hg) | ((with_reducible refine gate_dst (N := 4) rfl ?_); refine box_event (by rfl) (N := 4) (by rfl) (cs := #[.int .i64 0, .slice none 0 0]) (t := 30) Qr ?_; intro gb103 hg w6 hbox hb; have BK103 := am (hbox); have GE103 := ge HB hg; replace HB := bs HB hb; obtain ⟨NB101_103, NB103_101⟩ := ne2 BK101 hg; replace BK101 := bb BK101 hb; obtain ⟨NB102_103, NB103_102⟩ := ne2 BK102 hg; replace BK102 := bb BK102 hb; clear hb hbox hg; obtain ⟨_, _, _, _⟩ := o4 NB101_102 NB102_101 NB101_103 NB103_101; obtain ⟨_, _, _, _⟩ := b2 BK101; obtain ⟨_, _⟩ := o2 NB102_103 NB103_102; obtain ⟨_, _, _, _⟩ := b2 BK102) | ((with_reducible refine gate_callee (f := 132) rfl ?_); refine goesL_ (some 8) rfl rfl Try.func132 (by kernel_rfl) rfl #[.agg #[.int .i64 a0_0, .slice A0_1 l0_1.length c0_1], .agg #[.int .i64 a1_0, .slice A1_1 l1_1.length c1_1], .bool true] rfl Q6 ?_; (with_reducible refine (spec_l2Product.calls k a0_0 _ _ l0_1 a1_0 _ _ l1_1 true t104 t105 t108 _ ?side1 ?side2 ?side3 ?side4 A3.out).mono ?_); (case side1 => exact (Q11 HR0_1 HB)); (case side2 => exact HC0_1.out); (case side3 => exact (Q11 HR1_1 HB)); (case side4 => exact HC1_1.out); rintro e w12 ⟨v106, rfl, ho0, hb⟩; refine ⟨_, rfl, ?_⟩; have HO107 := am (Kd.R_lower ho0 (below_size (Q1 HB))); replace BK101 := bb BK101 hb; replace BK102 := bb BK102 hb; replace BK103 := bb BK103 hb; replace HB := bs HB hb; (try clear hb); (try clear ho0); obtain ⟨_, _, _, _⟩ := b2 BK103; obtain ⟨Ao14, co14, eo14⟩ := Kd.R_slice HO107.out; subst eo14))
 refine bodyPost_ret (results_ct rfl _ _ gb103 30 #[.int .i64 t104, .slice Ao14 t105.length co14] (0, 0) _ rfl (Q97 BK103) Try.underlying30 rfl (by kernel_rfl)) rfl ?_
 exact ⟨_, Q19, Q112 HO107 BK103, Q4 HB GE103⟩
end Go.Proofs.Ytcjddikalgnhpaa.P
