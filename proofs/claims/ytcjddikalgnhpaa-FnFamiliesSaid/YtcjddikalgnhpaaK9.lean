/- Functions of the program as Lean functions, that each call comes to what they say, and what holds of them; part 9 of 14; no conditions beyond those that each theorem names. -/
import Derived.Test.YtcjddikalgnhpaaK1
import Derived.Test.YtcjddikalgnhpaaK5
import Derived.Test.YtcjddikalgnhpaaK6
import Derived.Test.YtcjddikalgnhpaaK8
namespace Go.Proofs.Ytcjddikalgnhpaa.P
open Go.RowKit Go.Proofs.YtcjddikalgnhpaaW.PrintWords Go.Proofs.YtcjddikalgnhpaaW.PrintLast Go.Proofs.YtcjddikalgnhpaaW.PrintMore
attribute [local go_sem] max2_int min2_int max_two min_two max_three min_three max_four min_four   -- for this text's walks alone
set_option linter.unusedVariables false
set_option linter.unusedSimpArgs false
/-! ### spec_DrawPutBeside: function 31 -/
def spec_DrawPutBeside.st (k : Nat) (s0_0 : List Int) (s0_1 : Int) (s0_2 : Int) : Option (Int × (List (S71)) × Int × (List (S71)) × Int × Int) := (spec_l1Cur_someGraph.f k s0_0 s0_1 s0_2 5).bind fun bt103 => ((spec_l1Cur_someGraph.f k s0_0 bt103.2.2.1 bt103.2.2.2 4).bind fun bt109 => (some (bt103.1, bt103.2.1, bt109.1, bt109.2.1, bt109.2.2.1, bt109.2.2.2)))
theorem spec_DrawPutBeside.stmono : ∀ a0 a1 a2 k, LeO (spec_DrawPutBeside.st k a0 a1 a2) (spec_DrawPutBeside.st (k + 1) a0 a1 a2) := by
 intro a0 a1 a2 k
 unfold spec_DrawPutBeside.st
 repeat' first | (with_reducible first | exact spec_l1Cur_someGraph.mono _ _ _ _ _ | exact LeO.refl _ | exact LeO.none _ | refine LeO.ite ?_ ?_ | refine LeO.bind ?_ (fun _ => ?_))
set_option maxHeartbeats 8000000 in
set_option maxRecDepth 100000 in
theorem spec_DrawPutBeside.callsM (k : Nat) (A0 : Option Addr) (c0 : Nat) (s0_0 : List Int) (r1 : Int) (r2 : List (S71)) (r3 : Int) (r4 : List (S71)) (r5 : Int) (r6 : Int) (w0 : World) (hr0 : Kd.C (Kd.int .u8) w0 A0 s0_0.length s0_0) (hc0 : s0_0.length ≤ c0) (h : spec_DrawPutBeside.st k s0_0 0 0 = some (r1, r2, r3, r4, r5, r6)) :
  Calls Try.prog 31 #[.slice A0 s0_0.length c0] w0 fun e w' => ∃ (g_ : Nat) (w_ : World), w0.heap.size ≤ w_.heap.size ∧ (∃ v1_ v3_ : Value, e = .returned (.tuple #[.agg #[.int .i64 r1, v1_], .agg #[.int .i64 r3, v3_]]) ∧ Kd.R k71 71 w' w_.heap.size (fun k_ => some k_ ≠ (v3_ : Value).ownBlock) v1_ r2 ∧ Kd.R k71 71 w' w_.heap.size (fun k_ => some k_ ≠ (v1_ : Value).ownBlock) v3_ r4 ∧ IsS96 w0 w' g_ s0_0 r5 r6 ∧ Below w0.heap.size w0 w' ∧ KeepBut w_ w' g_ none) := by
 have HR0 := Aside0.mk hr0
 have HC0 := Aside0.mk hc0
 clear hr0 hc0
 have HB := am (Below.refl w0.heap.size w0)
 obtain ⟨w, hw0_⟩ : ∃ w : World, w = w0 := ⟨_, rfl⟩
 have HW0 := am (show w0.heap.size ≤ w.heap.size by rw [hw0_]; exact Nat.le_refl _)
 have HL := HW0
 replace hw0_ := Aside0.mk hw0_
 have H : ((spec_l1Cur_someGraph.f k s0_0 0 0 5).bind fun bt103 => ((spec_l1Cur_someGraph.f k s0_0 bt103.2.2.1 bt103.2.2.2 4).bind fun bt109 => (some (bt103.1, bt103.2.1, bt109.1, bt109.2.1, bt109.2.2.1, bt109.2.2.2)))) = some (r1, r2, r3, r4, r5, r6) := h
 clear h
 replace H := (ob H)
 obtain ⟨⟨t103, t104, t107, t108⟩, A20, H⟩ := H
 (try dsimp only at H)
 have A2 := Aside0.mk A20
 clear A20
 replace H := (ob H)
 obtain ⟨⟨t109, t110, t113, t114⟩, A30, H⟩ := H
 (try dsimp only at H)
 have A3 := Aside0.mk A30
 clear A30
 simp only [Option.some.injEq, Prod.mk.injEq] at H
 obtain ⟨rfl, rfl, rfl, rfl, rfl, rfl⟩ := H
 go_enter Try.func31, Try.ntmps31
 go_wp2_with (first | ((with_reducible refine gate_dst (N := 7) rfl ?_); refine box_event ?hg (N := 7) ?hd (cs := #[.slice A0 s0_0.length c0, .int .i64 0, .int .u64 0]) (t := 96) ?hr ?_; (case hd => rfl); (case hg => rfl); (case hr => first | (go_simp; done) | (go_simp; rfl)); intro g hg wS_ hbox hb; have n0_ := am (below_step (Q1 HB) hb); have n1_ := am (show IsS96 w0 wS_ g s0_0 0 0 from ⟨A0, c0, hbox, Q25, HR0.out⟩); have m101_ := am (blk_below (g := gb101) (o := .cells #[.int .i64 0, .slice none 0 0] 30 (0, 0)) (Q0 BK101) hb); have p101_ := am (Q81 : g ≠ gb101); have q101_ := am (Q80 : gb101 ≠ g); have m102_ := am (blk_below (g := gb102) (o := .cells #[.int .i64 0, .slice none 0 0] 30 (0, 0)) (Q0 BK102) hb); have p102_ := am (Q162 : g ≠ gb102); have q102_ := am (Q161 : gb102 ≠ g); replace HB := n0_; have HI0 := n1_; clear n0_ n1_; clear BK101; have BK101 := m101_; have NB0_101 := p101_; have NB101_0 := q101_; clear m101_ p101_ q101_; clear BK102; have BK102 := m102_; have NB0_102 := p102_; have NB102_0 := q102_; clear m102_ p102_ q102_; clear hb hbox hg; have HK := am (show KeepBut w wS_ g none from by rw [hw0_.out]; exact KeepBut.of_below HB.out g none)) | ((with_reducible refine gate_dst (N := 2) rfl ?_); refine box_event ?hg (N := 2) ?hd (cs := #[.int .i64 0, .slice none 0 0]) (t := 30) ?hr ?_; (case hd => rfl); (case hg => rfl); (case hr => first | (go_simp; done) | (go_simp; rfl)); intro gb101 hg w4 hbox hb; have n2_ := am (below_step (Q1 HB) hb); have n3_ := Aside0.mk hbox; have n4_ := am ((by rw [hg, hw0_.out]; exact (below_size (Q1 HB))) : w.heap.size ≤ gb101); have n5_ := am (Q25 : w0.heap.size ≤ gb101); replace HB := n2_; have BK101 := n3_; have GW101 := n4_; have GE101 := n5_; clear n2_ n3_ n4_ n5_; clear hb hbox hg) | ((with_reducible refine gate_dst (N := 3) rfl ?_); refine box_event ?hg (N := 3) ?hd (cs := #[.int .i64 0, .slice none 0 0]) (t := 30) ?hr ?_; (case hd => rfl); (case hg => rfl); (case hr => first | (go_simp; done) | (go_simp; rfl)); intro gb102 hg w5 hbox hb; have n2_ := am (below_step (Q1 HB) hb); have n3_ := Aside0.mk hbox; have n4_ := am ((by rw [hg, hw0_.out]; exact (below_size (Q1 HB))) : w.heap.size ≤ gb102); have n5_ := am (Q25 : w0.heap.size ≤ gb102); have m101_ := am (blk_below (g := gb101) (o := .cells #[.int .i64 0, .slice none 0 0] 30 (0, 0)) (Q0 BK101) hb); have p101_ := am (Q80 : gb101 ≠ gb102); have q101_ := am (Q81 : gb102 ≠ gb101); replace HB := n2_; have BK102 := n3_; have GW102 := n4_; have GE102 := n5_; clear n2_ n3_ n4_ n5_; clear BK101; have BK101 := m101_; have NB101_102 := p101_; have NB102_101 := q101_; clear m101_ p101_ q101_; clear hb hbox hg) | ((with_reducible refine gate_callee (f := 118) rfl ?_); refine goesL_ (some 9) rfl rfl Try.func118 (by kernel_rfl) rfl #[.pointer (some ⟨g, 0, none⟩), .int .i64 5] rfl Q3 ?_; (with_reducible refine (spec_l1Cur_someGraph.calls k g s0_0 0 0 5 t103 t104 t107 t108 w0 _ ?side1 ?side2 A2.out).mono ?_); (case side1 => exact (Q4 HI0 NB0_101 NB0_102)); (case side2 => exact (Q7 HB HI0)); rintro e w6 ⟨v105, rfl, ho0, hi, hb, hk⟩; refine ⟨_, rfl, ?_⟩; replace BK101 := am (KeepBut.blk hk (g' := gb101) (o := .cells #[.int .i64 0, .slice none 0 0] 30 (0, 0)) (Q0 BK101) NB101_0.out (by simp)); replace BK102 := am (KeepBut.blk hk (g' := gb102) (o := .cells #[.int .i64 0, .slice none 0 0] 30 (0, 0)) (Q0 BK102) NB102_0.out (by simp)); have HO106 := am (Kd.R_lower ho0 (keep_size (w := w) (g := g) (row := none) (Q8 HK GW101 GW102))); replace HK := am (KeepBut.trans (Q8 HK GW101 GW102) hk (.inl rfl)); replace HB := am (hb); replace HI0 := am (hi); (try clear hb); (try clear hb2); (try clear hk); (try clear hi); (try clear ho0)) | ((with_reducible refine gate_callee (f := 118) rfl ?_); refine goesL_ (some 11) rfl rfl Try.func118 (by kernel_rfl) rfl #[.pointer (some ⟨g, 0, none⟩), .int .i64 4] rfl Q3 ?_; (with_reducible refine (spec_l1Cur_someGraph.calls k g s0_0 t107 t108 4 t109 t110 t113 t114 w0 _ ?side1 ?side2 A3.out).mono ?_); (case side1 => exact (Q4 HI0 NB0_101 NB0_102)); (case side2 => exact (Q7 HB HI0)); rintro e w7 ⟨v111, rfl, ho0, hi, hb, hk⟩; refine ⟨_, rfl, ?_⟩; replace BK101 := am (KeepBut.blk hk (g' := gb101) (o := .cells #[.int .i64 0, .slice none 0 0] 30 (0, 0)) (Q0 BK101) NB101_0.out (by simp)); replace BK102 := am (KeepBut.blk hk (g' := gb102) (o := .cells #[.int .i64 0, .slice none 0 0] 30 (0, 0)) (Q0 BK102) NB102_0.out (by simp)); have HO112 := am (Kd.R_lower (Kd.R_new' ho0 (Kd.R_lt (Q6 HO106))) (keep_size (w := w) (g := g) (row := none) (Q8 HK GW101 GW102))); replace HO106 := am (Kd.R_mono (Kd.R_told (Kd.R_oldK (IsS96.apart (show IsS96 w0 _ g s0_0 t107 t108 from Q4 HI0 NB0_101 NB0_102) (Q6 HO106) (by decide)) hk) (Kd.R_base ho0)) (fun _ h_ => h_.1)); replace HK := am (KeepBut.trans (Q8 HK GW101 GW102) hk (.inl rfl)); replace HB := am (hb); replace HI0 := am (hi); (try clear hb); (try clear hb2); (try clear hk); (try clear hi); (try clear ho0); have hnb8 := NB101_102.out; have hnc8 := NB102_101.out; have hnb9 := NB101_0.out; have hnc9 := NB0_101.out; have hcz10_0 : w7.cell? ⟨gb101, 0, none⟩ = some (.int .i64 0) := (blk_cell BK101.out 0).trans rfl; have hcz10_1 : w7.cell? ⟨gb101, 1, none⟩ = some (.slice none 0 0) := (blk_cell BK101.out 1).trans rfl; have hfz10_0 := blk_frozen BK101.out 0; have hfz10_1 := blk_frozen BK101.out 1; obtain ⟨Ao11, co11, eo11⟩ := Kd.R_slice HO106.out; subst eo11; have hnb12 := NB102_0.out; have hnc12 := NB0_102.out; have hcz13_0 : w7.cell? ⟨gb102, 0, none⟩ = some (.int .i64 0) := (blk_cell BK102.out 0).trans rfl; have hcz13_1 : w7.cell? ⟨gb102, 1, none⟩ = some (.slice none 0 0) := (blk_cell BK102.out 1).trans rfl; have hfz13_0 := blk_frozen BK102.out 0; have hfz13_1 := blk_frozen BK102.out 1; obtain ⟨Ao14, co14, eo14⟩ := Kd.R_slice HO112.out; subst eo14))
 refine bodyPost_ret (results_cc rfl _ _ gb101 gb102 30 30 #[.int .i64 t103, .slice Ao11 t104.length co11] #[.int .i64 t109, .slice Ao14 t110.length co14] (0, 0) (0, 0) _ _ rfl (by (with_reducible repeat (first | refine blk_drewN ?_ _ | refine blk_drew ?_ | refine blk_alloc ?_ _)); refine blk_far ?_ NB101_102.out _; (with_reducible repeat (first | refine blk_drewN ?_ _ | refine blk_drew ?_ | refine blk_alloc ?_ _)); refine blk_far ?_ NB101_102.out _; (with_reducible repeat (first | refine blk_drewN ?_ _ | refine blk_drew ?_ | refine blk_alloc ?_ _)); refine blk_put (cs := #[.int .i64 t103, .slice none 0 0]) ?_ 1 _ rfl; (with_reducible repeat (first | refine blk_drewN ?_ _ | refine blk_drew ?_ | refine blk_alloc ?_ _)); refine blk_put (cs := #[.int .i64 0, .slice none 0 0]) ?_ 0 _ rfl; (with_reducible repeat (first | refine blk_drewN ?_ _ | refine blk_drew ?_ | refine blk_alloc ?_ _)); exact BK101.out) Try.underlying30 rfl (by kernel_rfl) rfl (by (with_reducible repeat (first | refine blk_drewN ?_ _ | refine blk_drew ?_ | refine blk_alloc ?_ _)); refine blk_put (cs := #[.int .i64 t109, .slice none 0 0]) ?_ 1 _ rfl; (with_reducible repeat (first | refine blk_drewN ?_ _ | refine blk_drew ?_ | refine blk_alloc ?_ _)); refine blk_put (cs := #[.int .i64 0, .slice none 0 0]) ?_ 0 _ rfl; (with_reducible repeat (first | refine blk_drewN ?_ _ | refine blk_drew ?_ | refine blk_alloc ?_ _)); refine blk_far ?_ NB102_101.out _; (with_reducible repeat (first | refine blk_drewN ?_ _ | refine blk_drew ?_ | refine blk_alloc ?_ _)); refine blk_far ?_ NB102_101.out _; (with_reducible repeat (first | refine blk_drewN ?_ _ | refine blk_drew ?_ | refine blk_alloc ?_ _)); exact BK102.out) Try.underlying30 rfl (by kernel_rfl)) rfl ?_
 exact ⟨g, w, HL.out, ⟨_, _, Q10, Q96 HO106 BK101 BK102, Q96 HO112 BK101 BK102, Q4 HI0 NB0_101 NB0_102, Q84 HB HI0 GE101 GE102, Q8 HK GW101 GW102⟩⟩
/-- The same, with the state that it makes itself. -/
def spec_DrawPutBeside.f (k : Nat) (a0 : List Int) : Option (Int × List (S71) × Int × List (S71)) := (spec_DrawPutBeside.st k a0 0 0).bind fun b_ => some (b_.1, b_.2.1, b_.2.2.1, b_.2.2.2.1)
theorem spec_DrawPutBeside.mono : ∀ a0 k, LeO (spec_DrawPutBeside.f k a0) (spec_DrawPutBeside.f (k + 1) a0) := fun a0 k => LeO.bind (spec_DrawPutBeside.stmono a0 0 0 k) (fun _ => LeO.refl _)
theorem spec_DrawPutBeside.calls (k : Nat) (A0 : Option Addr) (c0 : Nat) (a0 : List Int) (r1 : Int) (r2 : List (S71)) (r3 : Int) (r4 : List (S71)) (w : World) (hr0 : Kd.C (Kd.int .u8) w A0 a0.length a0) (hc0 : a0.length ≤ c0) (h : spec_DrawPutBeside.f k a0 = some (r1, r2, r3, r4)) :
  Calls Try.prog 31 #[.slice A0 a0.length c0] w fun e w' => ∃ v1_ v3_ : Value, e = .returned (.tuple #[.agg #[.int .i64 r1, v1_], .agg #[.int .i64 r3, v3_]]) ∧ Kd.R k71 71 w' w.heap.size (fun k_ => some k_ ≠ (v3_ : Value).ownBlock) v1_ r2 ∧ Kd.R k71 71 w' w.heap.size (fun k_ => some k_ ≠ (v1_ : Value).ownBlock) v3_ r4 ∧ Below w.heap.size w w' := by
 obtain ⟨⟨r0_, r1_, r2_, r3_, r4_, r5_⟩, h1_, h2_⟩ := Option.bind_eq_some_iff.mp h
 simp only [Option.some.injEq, Prod.mk.injEq] at h2_
 obtain ⟨rfl, rfl, rfl, rfl⟩ := h2_
 refine (spec_DrawPutBeside.callsM k A0 c0 a0 _ _ _ _ _ _ w hr0 hc0 h1_).mono ?_
 rintro e w' ⟨g_, w_, hL_, ⟨v1_, ⟨v3_, ⟨h0_, h1_, h2_, _, hB_, _⟩⟩⟩⟩
 exact ⟨v1_, v3_, h0_, Kd.R_lower h1_ hL_, Kd.R_lower h2_ hL_, hB_⟩
/-! ### spec_PathGraph: function 24 -/
def spec_PathGraph.f (k : Nat) (a0 : Int) : Option (Int × (List (S71)) × Bool) := (spec_l1In.f a0 0 8).bind fun t102 => (if t102 = true then ((spec_l2Path.f k a0).bind fun bt103 => (some (bt103.1, bt103.2, true))) else (some (0, ([] : List (S71)), false)))
theorem spec_PathGraph.mono : ∀ a0 k, LeO (spec_PathGraph.f k a0) (spec_PathGraph.f (k + 1) a0) := by
 intro a0 k
 unfold spec_PathGraph.f
 repeat' first | (with_reducible first | exact spec_l2Path.mono _ _ | exact LeO.refl _ | exact LeO.none _ | refine LeO.ite ?_ ?_ | refine LeO.bind ?_ (fun _ => ?_))
set_option maxHeartbeats 8000000 in
set_option maxRecDepth 100000 in
theorem spec_PathGraph.calls (k : Nat) (a0 : Int) (r1 : Int) (r2 : List (S71)) (r3 : Bool) (w : World) (h : spec_PathGraph.f k a0 = some (r1, r2, r3)) :
  Calls Try.prog 24 #[.int .i64 a0] w fun e w' => ∃ v1_ : Value, e = .returned (.tuple #[.agg #[.int .i64 r1, v1_], .bool r3]) ∧ Kd.R k71 71 w' w.heap.size (fun _ => True) v1_ r2 ∧ Below w.heap.size w w' := by
 have hu30 := Try.underlying30
 have HB := am (Below.refl w.heap.size w)
 have H : ((spec_l1In.f a0 0 8).bind fun t102 => (if t102 = true then ((spec_l2Path.f k a0).bind fun bt103 => (some (bt103.1, bt103.2, true))) else (some (0, ([] : List (S71)), false)))) = some (r1, r2, r3) := h
 clear h
 replace H := (ob H)
 obtain ⟨t102, A20, H⟩ := H
 (try dsimp only at H)
 have A2 := Aside0.mk A20
 clear A20
 have HU3 := Aside0.mk H
 clear H
 go_enter Try.func24, Try.ntmps24
 go_upto_if 6 with (first | ((with_reducible refine gate_dst (N := 2) rfl ?_); refine box_event ?hg (N := 2) ?hd (cs := #[.int .i64 0, .slice none 0 0]) (t := 30) ?hr ?_; (case hd => rfl); (case hg => rfl); (case hr => first | (go_simp; done) | (go_simp; rfl)); intro gb101 hg w4 hbox hb; have BK101 := am (hbox); have GW101 := am ((Q25 : w.heap.size ≤ gb101)); have GE101 := am ((Q25 : w.heap.size ≤ gb101)); replace HB := am (below_step (Q1 HB) hb); clear hb hbox hg) | ((with_reducible refine gate_callee (f := 110) rfl ?_); refine goesL_ (some 5) rfl rfl Try.func110 (by kernel_rfl) rfl #[.int .i64 a0, .int .i64 0, .int .i64 8] rfl Q3 ?_; (with_reducible refine (spec_l1In.calls a0 0 8 t102 _ A2.out).mono ?_); rintro e w' ⟨rfl, ⟨nd, rfl⟩⟩; refine ⟨_, rfl, ?_⟩))
 (try simp only [Act.put, List.setIfInBounds_toArray, List.set_cons_zero, List.set_cons_succ])
 have H := HU3.out
 clear HU3
 by_cases c5 : t102 = true
 ·subst c5
  have H1 : ((spec_l2Path.f k a0).bind fun bt103 => (some (bt103.1, bt103.2, true))) = some (r1, r2, r3) := by rw [if_pos rfl] at H; exact H
  clear H; have H := H1; clear H1; replace H := (ob H); obtain ⟨⟨t103, t104⟩, A60, H⟩ := H; (try dsimp only at H); have A6 := Aside0.mk A60; clear A60
  simp only [Option.some.injEq, Prod.mk.injEq] at H
  obtain ⟨rfl, rfl, rfl⟩ := H
  go_wp2_with (first | ((with_reducible refine gate_callee (f := 111) rfl ?_); refine goesL_ (some 9) rfl rfl Try.func111 (by kernel_rfl) rfl #[.int .i64 a0] rfl Q3 ?_; (with_reducible refine (spec_l2Path.calls k a0 t103 t104 _ A6.out).mono ?_); rintro e w7 ⟨v105, rfl, ho0, hb⟩; refine ⟨_, rfl, ?_⟩; have HO106 := am (Kd.R_lower ho0 (below_size (Q1 HB))); replace BK101 := am (blk_below (g := gb101) (o := .cells #[.int .i64 0, .slice none 0 0] 30 (0, 0)) (Q0 BK101) hb); replace HB := am (below_step (Q1 HB) hb); (try clear hb); (try clear hb2); (try clear hk); (try clear hi); (try clear ho0); have hcz8_0 : w7.cell? ⟨gb101, 0, none⟩ = some (.int .i64 0) := (blk_cell BK101.out 0).trans rfl; have hcz8_1 : w7.cell? ⟨gb101, 1, none⟩ = some (.slice none 0 0) := (blk_cell BK101.out 1).trans rfl; have hfz8_0 := blk_frozen BK101.out 0; have hfz8_1 := blk_frozen BK101.out 1; obtain ⟨Ao9, co9, eo9⟩ := Kd.R_slice HO106.out; subst eo9))
  refine bodyPost_ret (results_ct rfl _ _ gb101 30 #[.int .i64 t103, .slice Ao9 t104.length co9] (0, 0) _ rfl (Q31 BK101) Try.underlying30 rfl (by kernel_rfl)) rfl ?_; exact ⟨_, Q10, Q48 HO106 BK101, Q5 HB GE101⟩
 ·replace c5 := Bool.eq_false_iff.mpr c5
  subst c5; have H1 : (some (0, ([] : List (S71)), false)) = some (r1, r2, r3) := by rw [if_neg (show ¬ (false = true) by decide)] at H; exact H
  clear H; have H := H1; clear H1
  simp only [Option.some.injEq, Prod.mk.injEq] at H
  obtain ⟨rfl, rfl, rfl⟩ := H; have hcz10_0 : w4.cell? ⟨gb101, 0, none⟩ = some (.int .i64 0) := (blk_cell BK101.out 0).trans rfl; have hcz10_1 : w4.cell? ⟨gb101, 1, none⟩ = some (.slice none 0 0) := (blk_cell BK101.out 1).trans rfl; have hfz10_0 := blk_frozen BK101.out 0; have hfz10_1 := blk_frozen BK101.out 1
  go_wp2
  refine bodyPost_ret (results_ct rfl _ _ gb101 30 #[.int .i64 0, .slice none 0 0] (0, 0) _ rfl (Q26 BK101) Try.underlying30 rfl (by kernel_rfl)) rfl ?_; exact ⟨_, Q10, Q43, Q5 HB GE101⟩
/-! ### spec_l2Good: function 120 -/
def spec_l2Good.l0 : Nat → Int → Int → List (S71) → Option (Bool)
 | 0, _, _, _ => none
 | k + 1, x3, x102000, x102001 => if x3 < (x102001.length : Int) then (if 0 ≤ x3 then ((spec_l1In.f ((rd_T71 x102001 x3).f0) 0 (wrap64 (x102000 - 1))).bind fun t105 => (if t105 = true then ((spec_l1In.f ((rd_T71 x102001 x3).f1) 0 (wrap64 (x102000 - 1))).bind fun t106 => (if t106 = true then (if ((rd_T71 x102001 x3).f0) ≥ ((rd_T71 x102001 x3).f1) then (some false) else (if x3 > 0 then (if 0 ≤ (wrap64 (x3 - 1)) then (if (wrap64 (x3 - 1)) < (x102001.length : Int) then ((spec_l2Before.f ((rd_T71 x102001 (wrap64 (x3 - 1))).f0) ((rd_T71 x102001 (wrap64 (x3 - 1))).f1) ((rd_T71 x102001 x3).f0) ((rd_T71 x102001 x3).f1)).bind fun t108 => (if t108 = true then (spec_l2Good.l0 k (wrap64 (x3 + 1)) x102000 x102001) else (some false))) else (none)) else (none)) else (spec_l2Good.l0 k (wrap64 (x3 + 1)) x102000 x102001))) else (some false))) else (some false))) else (none)) else ((spec_l1In.f x102000 0 8).bind fun t102 => (some t102))
def spec_l2Good.f (k : Nat) (a0_0 : Int) (l0_1 : List (S71)) : Option (Bool) := spec_l2Good.l0 k 0 a0_0 l0_1
theorem spec_l2Good.mono_l : ∀ k, (∀ y0 y1 y2, LeO (spec_l2Good.l0 k y0 y1 y2) (spec_l2Good.l0 (k + 1) y0 y1 y2))
 | 0 => fun _ _ _ r h => by simp [spec_l2Good.l0] at h
 | k + 1 => by
  have ih0 := spec_l2Good.mono_l k
  all_goals
   intros
   first | unfold spec_l2Good.l0
   repeat' first | (with_reducible first | exact ih0 _ _ _ | exact LeO.refl _ | exact LeO.none _ | refine LeO.ite ?_ ?_ | refine LeO.bind ?_ (fun _ => ?_))
theorem spec_l2Good.mono : ∀ a0 a1 k, LeO (spec_l2Good.f k a0 a1) (spec_l2Good.f (k + 1) a0 a1) := by
 intro a0 a1 k
 have ih0 := spec_l2Good.mono_l k
 unfold spec_l2Good.f
 repeat' first | (with_reducible first | exact ih0 _ _ _ | exact LeO.refl _ | exact LeO.none _ | refine LeO.ite ?_ ?_ | refine LeO.bind ?_ (fun _ => ?_))
def spec_l2Good.T5 : Bool × List (List Nat × List Nat) := (true, [([], []), ([0], [0]), ([], []), ([2], [2]), ([3], [3]), ([1, 4], [1, 4]), ([5], [5]), ([6, 5], [6]), ([7], [7]), ([8, 7], [7, 8]), ([7], [7]), ([10, 7], [7, 10]), ([11, 7], [7, 11]), ([9, 12, 7, 7], [7, 9, 12]), ([13, 7], [7, 13]), ([7, 14], [7, 14]), ([15, 13], [15]), ([16], [16]), ([17, 16], [16, 17]), ([16], [16]), ([19, 16], [16, 19]), ([18, 20, 16], [16, 18, 20]), ([16, 21], [16, 21]), ([22, 16], [22]), ([23], [23]), ([24, 23], [23, 24]), ([25, 23, 23], [23, 25]), ([26], [26]), ([27, 26], [26, 27]), ([26], [26]), ([29, 26], [26, 29]), ([28, 30, 26], [26, 28, 30]), ([31, 26], [26, 31]), ([26], [26]), ([32, 33, 26, 26], [26, 32, 33]), ([34, 26], [26, 34]), ([26, 35, 23], [23, 26, 35]), ([23, 36], [23, 36])])
def spec_l2Good.B5 : List Nat := [0, 1, 0, 4, 12, 31, 63, 127, 255, 511, 255, 1279, 3327, 8191, 16383, 32767, 65535, 131071, 262143, 131071, 655359, 2097151, 4194303, 8388607, 16777215, 33554431, 67108863, 134217727, 268435455, 134217727, 671088639, 2147483647, 4294967295, 134217727, 17179869183, 34359738367, 68719476735, 137438953471]
theorem spec_l2Good.tab5 : rtab .any (opsOf Try.f120 5) = spec_l2Good.T5 := by kernel_rfl
theorem spec_l2Good.bits5 : waitsOk spec_l2Good.T5.2 spec_l2Good.B5 = true := by kernel_rfl
set_option maxHeartbeats 8000000 in
set_option maxRecDepth 100000 in
theorem spec_l2Good.calls (k : Nat) (a0_0 : Int) (A0_1 : Option Addr) (c0_1 : Nat) (l0_1 : List (S71)) (r : Bool) (w : World) (hr0_1 : Kd.C k71 w A0_1 l0_1.length l0_1) (hc0_1 : l0_1.length ≤ c0_1) (h : spec_l2Good.f k a0_0 l0_1 = some r) :
  Calls Try.prog 120 #[.agg #[.int .i64 a0_0, .slice A0_1 l0_1.length c0_1]] w fun e w' => e = .returned (.bool r) ∧ Below w.heap.size w w' := by
 have hu30 := Try.underlying30
 have hu71 := Try.underlying71
 have HR0_1 := Aside0.mk hr0_1
 have HC0_1 := Aside0.mk hc0_1
 clear hr0_1 hc0_1
 have HB := am (Below.refl w.heap.size w)
 have H : (spec_l2Good.l0 k 0 a0_0 l0_1) = some r := h
 clear h
 have H' := Aside0.mk H
 clear H
 go_enter Try.func120, Try.ntmps120
 go_wp2_with (first | ((with_reducible refine gate_dst (N := 1) rfl ?_); refine box_event ?hg (N := 1) ?hd (cs := #[.int .i64 a0_0, .slice A0_1 l0_1.length c0_1]) (t := 30) ?hr ?_; (case hd => rfl); (case hg => rfl); (case hr => first | (go_simp; done) | (go_simp; rfl)); intro gb101 hg w2 hbox hb; have BK101 := am (hbox); have GW101 := am ((Q25 : w.heap.size ≤ gb101)); have GE101 := am ((Q25 : w.heap.size ≤ gb101)); replace HB := am (below_step (Q1 HB) hb); clear hb hbox hg))
 go_loopg [3] k (fun kq v3 w' => ∃ (x3_1 : Int), v3 = .int .i64 x3_1 ∧ Aside0 (spec_l2Good.l0 kq x3_1 a0_0 l0_1 = some r) ∧ Aside0 (kq ≤ k) ∧ Aside0 (w'.heap[gb101]? = some (.cells #[.int .i64 a0_0, (.slice A0_1 l0_1.length c0_1)] 30 (0, 0))) ∧ Aside0 (Below w.heap.size w w'))
 case atStart => exact ⟨(0), Q11, H', ⟨Nat.le_refl _⟩, ⟨Q0 BK101⟩, ⟨Q1 HB⟩⟩
 case round =>
  clear H'
  try clear c1
  try clear p2
  obtain ⟨x3_1, rfl, HA, HK1, BK101, HB⟩ := hrel
  cases gk with
  | zero => exact absurd HA.out (by simp [spec_l2Good.l0])
  | succ k1 =>
   have H := HA.out; clear HA
   simp only [spec_l2Good.l0] at H
   by_cases c3 : x3_1 < (l0_1.length : Int)
   ·rw [if_pos c3] at H
    have c3b0 := decide_eq_true c3; clear c3
    by_cases c4 : 0 ≤ x3_1
    ·rw [if_pos c4] at H
     have c4b0 := decide_eq_true c4; clear c4; replace H := (ob H); obtain ⟨t105, A50, H⟩ := H; (try dsimp only at H); have A5 := Aside0.mk A50; clear A50
     by_cases c6 : t105 = true
     ·subst c6
      have H1 : ((spec_l1In.f ((rd_T71 l0_1 x3_1).f1) 0 (wrap64 (a0_0 - 1))).bind fun t106 => (if t106 = true then (if ((rd_T71 l0_1 x3_1).f0) ≥ ((rd_T71 l0_1 x3_1).f1) then (some false) else (if x3_1 > 0 then (if 0 ≤ (wrap64 (x3_1 - 1)) then (if (wrap64 (x3_1 - 1)) < (l0_1.length : Int) then ((spec_l2Before.f ((rd_T71 l0_1 (wrap64 (x3_1 - 1))).f0) ((rd_T71 l0_1 (wrap64 (x3_1 - 1))).f1) ((rd_T71 l0_1 x3_1).f0) ((rd_T71 l0_1 x3_1).f1)).bind fun t108 => (if t108 = true then (spec_l2Good.l0 k1 (wrap64 (x3_1 + 1)) a0_0 l0_1) else (some false))) else (none)) else (none)) else (spec_l2Good.l0 k1 (wrap64 (x3_1 + 1)) a0_0 l0_1))) else (some false))) = some r := by rw [if_pos rfl] at H; exact H
      clear H; have H := H1; clear H1; replace H := (ob H); obtain ⟨t106, A70, H⟩ := H; (try dsimp only at H); have A7 := Aside0.mk A70; clear A70
      by_cases c8 : t106 = true
      ·subst c8
       have H1 : (if ((rd_T71 l0_1 x3_1).f0) ≥ ((rd_T71 l0_1 x3_1).f1) then (some false) else (if x3_1 > 0 then (if 0 ≤ (wrap64 (x3_1 - 1)) then (if (wrap64 (x3_1 - 1)) < (l0_1.length : Int) then ((spec_l2Before.f ((rd_T71 l0_1 (wrap64 (x3_1 - 1))).f0) ((rd_T71 l0_1 (wrap64 (x3_1 - 1))).f1) ((rd_T71 l0_1 x3_1).f0) ((rd_T71 l0_1 x3_1).f1)).bind fun t108 => (if t108 = true then (spec_l2Good.l0 k1 (wrap64 (x3_1 + 1)) a0_0 l0_1) else (some false))) else (none)) else (none)) else (spec_l2Good.l0 k1 (wrap64 (x3_1 + 1)) a0_0 l0_1))) = some r := by rw [if_pos rfl] at H; exact H
       clear H; have H := H1; clear H1
       by_cases c9 : ((rd_T71 l0_1 x3_1).f0) ≥ ((rd_T71 l0_1 x3_1).f1)
       ·rw [if_pos c9] at H
        have c9b0 : decide (((rd_T71 l0_1 x3_1).f1) ≤ ((rd_T71 l0_1 x3_1).f0)) = true := decide_eq_true c9; clear c9; have HU10 := Aside0.mk H; clear H; have hcz11_0 : wr.cell? ⟨gb101, 0, none⟩ = some (.int .i64 a0_0) := (blk_cell BK101.out 0).trans rfl; have hcz11_1 : wr.cell? ⟨gb101, 1, none⟩ = some (.slice A0_1 l0_1.length c0_1) := (blk_cell BK101.out 1).trans rfl; have hfz11_0 := blk_frozen BK101.out 0; have hfz11_1 := blk_frozen BK101.out 1; have p103 : 0 ≤ (x3_1 : Int) := of_decide_eq_true Q12; have q103 : x3_1 < (l0_1.length : Int) := of_decide_eq_true Q12; obtain ⟨ad103, e103, hx103_0, hx103_1⟩ := at_T71 HR0_1.out x3_1 p103 q103
        cases e103
        replace hx103_0 := (HB.out.cell (World.block_lt_of_cell? w _ hx103_0)).trans hx103_0; replace hx103_1 := (HB.out.cell (World.block_lt_of_cell? w _ hx103_1)).trans hx103_1; replace p103 := eq_true p103; replace q103 := eq_true q103
        try go_wp2_with (first | ((with_reducible refine gate_dst (N := 4) rfl ?_); refine box_event ?hg (N := 4) ?hd (cs := #[.int .i64 0, .int .i64 0]) (t := 71) ?hr ?_; (case hd => rfl); (case hg => rfl); (case hr => first | (go_simp; done) | (go_simp; rfl)); intro gb104 hg w12 hbox hb; have BK104 := am (hbox); have GW104 := am ((Q25 : w.heap.size ≤ gb104)); have GE104 := am ((Q25 : w.heap.size ≤ gb104)); replace HB := am (below_step (Q1 HB) hb); have NB101_104 := am ((Q82 : gb101 ≠ gb104)); have NB104_101 := am ((Q83 : gb104 ≠ gb101)); replace BK101 := am (blk_below (g := gb101) (o := .cells #[.int .i64 a0_0, .slice (some ad103) l0_1.length c0_1] 30 (0, 0)) (Q0 BK101) hb); clear hb hbox hg; have hnb13 := NB104_101.out; have hnc13 := NB101_104.out; have hcz14_0 : w12.cell? ⟨gb104, 0, none⟩ = some (.int .i64 0) := (blk_cell BK104.out 0).trans rfl; have hcz14_1 : w12.cell? ⟨gb104, 1, none⟩ = some (.int .i64 0) := (blk_cell BK104.out 1).trans rfl; have hfz14_0 := blk_frozen BK104.out 0; have hfz14_1 := blk_frozen BK104.out 1))
        have n0_ : Aside0 (((w12.setCell ⟨gb104, 0, none⟩ (.int .i64 ((rd_T71 l0_1 x3_1).f0))).setCell ⟨gb104, 1, none⟩ (.int .i64 ((rd_T71 l0_1 x3_1).f1))).heap[gb101]? = some (.cells #[.int .i64 a0_0, .slice (some ad103) l0_1.length c0_1] 30 (0, 0))) := ⟨Q2 NB101_104 BK101⟩; have n1_ : Aside0 (((w12.setCell ⟨gb104, 0, none⟩ (.int .i64 ((rd_T71 l0_1 x3_1).f0))).setCell ⟨gb104, 1, none⟩ (.int .i64 ((rd_T71 l0_1 x3_1).f1))).heap[gb104]? = some (.cells #[.int .i64 ((rd_T71 l0_1 x3_1).f0), .int .i64 ((rd_T71 l0_1 x3_1).f1)] 71 (0, 0))) := ⟨Q38 BK104⟩; have n2_ : Aside0 (Below w.heap.size w ((w12.setCell ⟨gb104, 0, none⟩ (.int .i64 ((rd_T71 l0_1 x3_1).f0))).setCell ⟨gb104, 1, none⟩ (.int .i64 ((rd_T71 l0_1 x3_1).f1)))) := ⟨Q5 HB GE104⟩; (try clear BK101); (try clear BK104); (try clear HB); generalize ((w12.setCell ⟨gb104, 0, none⟩ (.int .i64 ((rd_T71 l0_1 x3_1).f0))).setCell ⟨gb104, 1, none⟩ (.int .i64 ((rd_T71 l0_1 x3_1).f1))) = w15 at n0_ n1_ n2_ ⊢; have BK101 := n0_; have BK104 := n1_; have HB := n2_; clear n0_ n1_ n2_; replace BK101 := am (blk_drew BK101.out); replace BK104 := am (blk_drew BK104.out); replace HB := am (below_drew1 HB.out); refine start_ (n := 38) (S := fun w' => w'.cell? ⟨gb104, 0, none⟩ = some (.int .i64 ((rd_T71 l0_1 x3_1).f0)) ∧ w'.cell? ⟨gb104, 1, none⟩ = some (.int .i64 ((rd_T71 l0_1 x3_1).f1)) ∧ w'.cell? ⟨gb101, 0, none⟩ = some (.int .i64 a0_0) ∧ w'.cell? ⟨gb101, 1, none⟩ = some (.slice (some ad103) l0_1.length c0_1)) (ds := []) #[false, false, false, false, false, false, false, false, false, false, false, false, false, false, false, false, false, false, false, false, false, false, false, false, false, false, false, false, false, false, false, false, false, false, false, false, false, false] (by kernel_rfl) rfl rfl ⟨(blk_cell BK104.out 0).trans rfl, (blk_cell BK104.out 1).trans rfl, (blk_cell BK101.out 0).trans rfl, (blk_cell BK101.out 1).trans rfl⟩ (fun hHeld => ?_); refine with_tabW spec_l2Good.tab5 spec_l2Good.bits5 (fun HT_ HW_ => ?_); generalize w15.drew = w16 at BK101 BK104 HB hHeld ⊢; refine pq 0 17 rfl rfl HT_ ?_; refine pq 2 19 rfl rfl HT_ ?_; refine tq4 1 18 rfl rfl HT_ HW_ hHeld ?_; refine tq4 3 20 rfl rfl HT_ HW_ hHeld ?_; refine pq 4 21 rfl rfl HT_ ?_; refine oq 5 22 rfl rfl HT_ (fun K hK => ?_); refine goes_ Try.func110 (by kernel_rfl) rfl #[.int .i64 ((rd_T71 l0_1 x3_1).f0), .int .i64 0, .int .i64 (wrap64 (a0_0 - 1))] (by rfl) rfl rfl Q3 ?_
        with_reducible refine (spec_l1In.calls ((rd_T71 l0_1 x3_1).f0) 0 (wrap64 (a0_0 - 1)) true _ A5.out).mono ?_
        rintro e w' ⟨rfl, ⟨nd, rfl⟩⟩; refine ⟨_, rfl, ?_⟩; refine hK.out _ _ ⟨(blk_cell BK104.out 0).trans rfl, (blk_cell BK104.out 1).trans rfl, (blk_cell BK101.out 0).trans rfl, (blk_cell BK101.out 1).trans rfl⟩ (fun hHeld => ?_); clear hK K; refine norm_ (a' := ?_) ?_ ?_
        rotate_left
        ·show Act.put _ (some 22) _ = _
         simp only [Act.put, List.setIfInBounds_toArray, List.set_cons_zero, List.set_cons_succ, i64_w, i32_w]
         rfl
        refine pq 6 23 rfl rfl HT_ ?_; refine pq 7 24 rfl rfl HT_ ?_; refine pq 8 25 rfl rfl HT_ ?_; refine pq 10 27 rfl rfl HT_ ?_; refine tq4 9 26 rfl rfl HT_ HW_ hHeld ?_; refine tq4 11 28 rfl rfl HT_ HW_ hHeld ?_; refine pq 12 29 rfl rfl HT_ ?_; refine oq 13 30 rfl rfl HT_ (fun K hK => ?_); refine goes_ Try.func110 (by kernel_rfl) rfl #[.int .i64 ((rd_T71 l0_1 x3_1).f1), .int .i64 0, .int .i64 (wrap64 (a0_0 - 1))] (by rfl) rfl rfl Q3 ?_
        with_reducible refine (spec_l1In.calls ((rd_T71 l0_1 x3_1).f1) 0 (wrap64 (a0_0 - 1)) true _ A7.out).mono ?_
        rintro e w' ⟨rfl, ⟨nd, rfl⟩⟩; refine ⟨_, rfl, ?_⟩; refine hK.out _ _ ⟨(blk_cell BK104.out 0).trans rfl, (blk_cell BK104.out 1).trans rfl, (blk_cell BK101.out 0).trans rfl, (blk_cell BK101.out 1).trans rfl⟩ (fun hHeld => ?_); clear hK K; refine norm_ (a' := ?_) ?_ ?_
        rotate_left
        ·show Act.put _ (some 30) _ = _
         simp only [Act.put, List.setIfInBounds_toArray, List.set_cons_zero, List.set_cons_succ, i64_w, i32_w]
         rfl
        refine pq 14 31 rfl rfl HT_ ?_; refine pq 15 32 rfl rfl HT_ ?_; refine pq 16 33 rfl rfl HT_ ?_; refine pq 17 34 rfl rfl HT_ ?_; refine pq 19 36 rfl rfl HT_ ?_; refine tq4 18 35 rfl rfl HT_ HW_ hHeld ?_; refine tq4 20 37 rfl rfl HT_ HW_ hHeld ?_; refine pq 21 38 rfl rfl HT_ ?_; refine pq 22 39 rfl rfl HT_ ?_; refine pq 23 40 rfl rfl HT_ ?_; refine pu 24 41 rfl rfl HT_ ?_; refine pu 25 42 rfl rfl HT_ ?_; refine pu 26 43 rfl rfl HT_ ?_; refine pu 27 44 rfl rfl HT_ ?_; refine pu 28 45 rfl rfl HT_ ?_; refine pu 29 46 rfl rfl HT_ ?_; refine pu 30 47 rfl rfl HT_ ?_; refine pu 31 48 rfl rfl HT_ ?_; refine pu 32 49 rfl rfl HT_ ?_; refine pu 33 50 rfl rfl HT_ ?_; refine pu 34 51 rfl rfl HT_ ?_; refine pu 35 52 rfl rfl HT_ ?_; refine pu 36 53 rfl rfl HT_ ?_; refine pq 37 54 rfl rfl HT_ ?_; refine done_ (done_of HT_.out (by kernel_rfl)) ?_
        go_upto_if 54 with (fail)
        have H := HU10.out; clear HU10; obtain rfl := Option.some.inj H
        go_wp2
        go_ret
        exact ⟨Q10, Q1 HB⟩
       ·rw [if_neg c9] at H
        have c9b0 : decide (((rd_T71 l0_1 x3_1).f1) ≤ ((rd_T71 l0_1 x3_1).f0)) = false := decide_eq_false c9; clear c9
        by_cases c17 : x3_1 > 0
        ·rw [if_pos c17] at H
         have c17b0 : decide (0 < x3_1) = true := decide_eq_true c17; clear c17; obtain ⟨ji18, hji18⟩ : ∃ j_ : Int, (wrap64 (x3_1 - 1)) = j_ := ⟨_, rfl⟩; replace H : (if 0 ≤ (ji18) then (if (ji18) < (l0_1.length : Int) then ((spec_l2Before.f ((rd_T71 l0_1 (ji18)).f0) ((rd_T71 l0_1 (ji18)).f1) ((rd_T71 l0_1 x3_1).f0) ((rd_T71 l0_1 x3_1).f1)).bind fun t108 => (if t108 = true then (spec_l2Good.l0 k1 (wrap64 (x3_1 + 1)) a0_0 l0_1) else (some false))) else (none)) else (none)) = some r := by first | (rw [hji18] at H; exact H) | (simp only [hji18] at H ⊢; exact H)
         (try rw [hji18] at A5); (try rw [hji18] at A7); have hji18w : (IntKind.i64.wrap (x3_1 - 1)) = ji18 := (i64_w _).trans hji18
         by_cases c19 : 0 ≤ (ji18)
         ·rw [if_pos c19] at H
          have c19b0 := decide_eq_true c19; clear c19
          by_cases c20 : (ji18) < (l0_1.length : Int)
          ·rw [if_pos c20] at H
           have c20b0 := decide_eq_true c20; clear c20; replace H := (ob H); obtain ⟨t108, A210, H⟩ := H; (try dsimp only at H); have A21 := Aside0.mk A210; clear A210; have HU22 := Aside0.mk H; clear H; have hcz23_0 : wr.cell? ⟨gb101, 0, none⟩ = some (.int .i64 a0_0) := (blk_cell BK101.out 0).trans rfl; have hcz23_1 : wr.cell? ⟨gb101, 1, none⟩ = some (.slice A0_1 l0_1.length c0_1) := (blk_cell BK101.out 1).trans rfl; have hfz23_0 := blk_frozen BK101.out 0; have hfz23_1 := blk_frozen BK101.out 1; have p103 : 0 ≤ (x3_1 : Int) := of_decide_eq_true Q12; have q103 : x3_1 < (l0_1.length : Int) := of_decide_eq_true Q12; obtain ⟨ad103, e103, hx103_0, hx103_1⟩ := at_T71 HR0_1.out x3_1 p103 q103
           cases e103
           replace hx103_0 := (HB.out.cell (World.block_lt_of_cell? w _ hx103_0)).trans hx103_0; replace hx103_1 := (HB.out.cell (World.block_lt_of_cell? w _ hx103_1)).trans hx103_1; replace p103 := eq_true p103; replace q103 := eq_true q103
           try go_wp2_with (first | ((with_reducible refine gate_dst (N := 4) rfl ?_); refine box_event ?hg (N := 4) ?hd (cs := #[.int .i64 0, .int .i64 0]) (t := 71) ?hr ?_; (case hd => rfl); (case hg => rfl); (case hr => first | (go_simp; done) | (go_simp; rfl)); intro gb104 hg w24 hbox hb; have BK104 := am (hbox); have GW104 := am ((Q25 : w.heap.size ≤ gb104)); have GE104 := am ((Q25 : w.heap.size ≤ gb104)); replace HB := am (below_step (Q1 HB) hb); have NB101_104 := am ((Q82 : gb101 ≠ gb104)); have NB104_101 := am ((Q83 : gb104 ≠ gb101)); replace BK101 := am (blk_below (g := gb101) (o := .cells #[.int .i64 a0_0, .slice (some ad103) l0_1.length c0_1] 30 (0, 0)) (Q0 BK101) hb); clear hb hbox hg; have hnb25 := NB104_101.out; have hnc25 := NB101_104.out; have hcz26_0 : w24.cell? ⟨gb104, 0, none⟩ = some (.int .i64 0) := (blk_cell BK104.out 0).trans rfl; have hcz26_1 : w24.cell? ⟨gb104, 1, none⟩ = some (.int .i64 0) := (blk_cell BK104.out 1).trans rfl; have hfz26_0 := blk_frozen BK104.out 0; have hfz26_1 := blk_frozen BK104.out 1))
           have n0_ : Aside0 (((w24.setCell ⟨gb104, 0, none⟩ (.int .i64 ((rd_T71 l0_1 x3_1).f0))).setCell ⟨gb104, 1, none⟩ (.int .i64 ((rd_T71 l0_1 x3_1).f1))).heap[gb101]? = some (.cells #[.int .i64 a0_0, .slice (some ad103) l0_1.length c0_1] 30 (0, 0))) := ⟨Q2 NB101_104 BK101⟩; have n1_ : Aside0 (((w24.setCell ⟨gb104, 0, none⟩ (.int .i64 ((rd_T71 l0_1 x3_1).f0))).setCell ⟨gb104, 1, none⟩ (.int .i64 ((rd_T71 l0_1 x3_1).f1))).heap[gb104]? = some (.cells #[.int .i64 ((rd_T71 l0_1 x3_1).f0), .int .i64 ((rd_T71 l0_1 x3_1).f1)] 71 (0, 0))) := ⟨Q38 BK104⟩; have n2_ : Aside0 (Below w.heap.size w ((w24.setCell ⟨gb104, 0, none⟩ (.int .i64 ((rd_T71 l0_1 x3_1).f0))).setCell ⟨gb104, 1, none⟩ (.int .i64 ((rd_T71 l0_1 x3_1).f1)))) := ⟨Q5 HB GE104⟩; (try clear BK101); (try clear BK104); (try clear HB); generalize ((w24.setCell ⟨gb104, 0, none⟩ (.int .i64 ((rd_T71 l0_1 x3_1).f0))).setCell ⟨gb104, 1, none⟩ (.int .i64 ((rd_T71 l0_1 x3_1).f1))) = w27 at n0_ n1_ n2_ ⊢; have BK101 := n0_; have BK104 := n1_; have HB := n2_; clear n0_ n1_ n2_; replace BK101 := am (blk_drew BK101.out); replace BK104 := am (blk_drew BK104.out); replace HB := am (below_drew1 HB.out); have p107 : 0 ≤ ((ji18) : Int) := of_decide_eq_true Q12; have q107 : (ji18) < (l0_1.length : Int) := of_decide_eq_true Q12; obtain ⟨ad107, e107, hx107_0, hx107_1⟩ := at_T71 HR0_1.out (ji18) p107 q107; have hw107_1 := hx107_1; have hw107_0 := hx107_0; obtain rfl : ad103 = ad107 := (by injection e107); replace hx107_0 := (HB.out.cell (World.block_lt_of_cell? w _ hx107_0)).trans hx107_0; replace hx107_1 := (HB.out.cell (World.block_lt_of_cell? w _ hx107_1)).trans hx107_1; replace p107 := eq_true p107; replace q107 := eq_true q107; refine start_ (n := 38) (S := fun w' => w'.cell? ⟨gb104, 0, none⟩ = some (.int .i64 ((rd_T71 l0_1 x3_1).f0)) ∧ w'.cell? ⟨gb104, 1, none⟩ = some (.int .i64 ((rd_T71 l0_1 x3_1).f1)) ∧ w'.cell? ⟨gb101, 0, none⟩ = some (.int .i64 a0_0) ∧ w'.cell? ⟨gb101, 1, none⟩ = some (.slice (some ad103) l0_1.length c0_1) ∧ w'.cell? (ad103.add (((ji18)).toNat * 2)) = some (.int .i64 ((rd_T71 l0_1 (ji18)).f0)) ∧ w'.cell? ⟨(ad103.add (((ji18)).toNat * 2)).block, (ad103.add (((ji18)).toNat * 2)).off + 1, none⟩ = some (.int .i64 ((rd_T71 l0_1 (ji18)).f1))) (ds := []) #[false, false, false, false, false, false, false, false, false, false, false, false, false, false, false, false, false, false, false, false, false, false, false, false, false, false, false, false, false, false, false, false, false, false, false, false, false, false] (by kernel_rfl) rfl rfl ⟨(blk_cell BK104.out 0).trans rfl, (blk_cell BK104.out 1).trans rfl, (blk_cell BK101.out 0).trans rfl, (blk_cell BK101.out 1).trans rfl, ((HB.out.cell (World.block_lt_of_cell? w _ hw107_0)).trans hw107_0), ((HB.out.cell (World.block_lt_of_cell? w _ hw107_1)).trans hw107_1)⟩ (fun hHeld => ?_); refine with_tabW spec_l2Good.tab5 spec_l2Good.bits5 (fun HT_ HW_ => ?_); generalize w27.drew = w28 at BK101 BK104 HB hx107_0 hx107_1 hHeld ⊢; refine pq 0 17 rfl rfl HT_ ?_; refine pq 2 19 rfl rfl HT_ ?_; refine tq6 1 18 rfl rfl HT_ HW_ hHeld ?_; refine tq6 3 20 rfl rfl HT_ HW_ hHeld ?_; refine pq 4 21 rfl rfl HT_ ?_; refine oq 5 22 rfl rfl HT_ (fun K hK => ?_); refine goes_ Try.func110 (by kernel_rfl) rfl #[.int .i64 ((rd_T71 l0_1 x3_1).f0), .int .i64 0, .int .i64 (wrap64 (a0_0 - 1))] (by rfl) rfl rfl Q3 ?_
           with_reducible refine (spec_l1In.calls ((rd_T71 l0_1 x3_1).f0) 0 (wrap64 (a0_0 - 1)) true _ A5.out).mono ?_
           rintro e w' ⟨rfl, ⟨nd, rfl⟩⟩; refine ⟨_, rfl, ?_⟩; refine hK.out _ _ ⟨(blk_cell BK104.out 0).trans rfl, (blk_cell BK104.out 1).trans rfl, (blk_cell BK101.out 0).trans rfl, (blk_cell BK101.out 1).trans rfl, ((HB.out.cell (World.block_lt_of_cell? w _ hw107_0)).trans hw107_0), ((HB.out.cell (World.block_lt_of_cell? w _ hw107_1)).trans hw107_1)⟩ (fun hHeld => ?_); clear hK K; refine norm_ (a' := ?_) ?_ ?_
           rotate_left
           ·show Act.put _ (some 22) _ = _
            simp only [Act.put, List.setIfInBounds_toArray, List.set_cons_zero, List.set_cons_succ, i64_w, i32_w]
            rfl
           refine pq 6 23 rfl rfl HT_ ?_; refine pq 7 24 rfl rfl HT_ ?_; refine pq 8 25 rfl rfl HT_ ?_; refine pq 10 27 rfl rfl HT_ ?_; refine tq6 9 26 rfl rfl HT_ HW_ hHeld ?_; refine tq6 11 28 rfl rfl HT_ HW_ hHeld ?_; refine pq 12 29 rfl rfl HT_ ?_; refine oq 13 30 rfl rfl HT_ (fun K hK => ?_); refine goes_ Try.func110 (by kernel_rfl) rfl #[.int .i64 ((rd_T71 l0_1 x3_1).f1), .int .i64 0, .int .i64 (wrap64 (a0_0 - 1))] (by rfl) rfl rfl Q3 ?_
           with_reducible refine (spec_l1In.calls ((rd_T71 l0_1 x3_1).f1) 0 (wrap64 (a0_0 - 1)) true _ A7.out).mono ?_
           rintro e w' ⟨rfl, ⟨nd, rfl⟩⟩; refine ⟨_, rfl, ?_⟩; refine hK.out _ _ ⟨(blk_cell BK104.out 0).trans rfl, (blk_cell BK104.out 1).trans rfl, (blk_cell BK101.out 0).trans rfl, (blk_cell BK101.out 1).trans rfl, ((HB.out.cell (World.block_lt_of_cell? w _ hw107_0)).trans hw107_0), ((HB.out.cell (World.block_lt_of_cell? w _ hw107_1)).trans hw107_1)⟩ (fun hHeld => ?_); clear hK K; refine norm_ (a' := ?_) ?_ ?_
           rotate_left
           ·show Act.put _ (some 30) _ = _
            simp only [Act.put, List.setIfInBounds_toArray, List.set_cons_zero, List.set_cons_succ, i64_w, i32_w]
            rfl
           refine pq 14 31 rfl rfl HT_ ?_; refine pq 15 32 rfl rfl HT_ ?_; refine pq 16 33 rfl rfl HT_ ?_; refine pq 17 34 rfl rfl HT_ ?_; refine pq 19 36 rfl rfl HT_ ?_; refine tq6 18 35 rfl rfl HT_ HW_ hHeld ?_; refine tq6 20 37 rfl rfl HT_ HW_ hHeld ?_; refine pq 21 38 rfl rfl HT_ ?_; refine pq 22 39 rfl rfl HT_ ?_; refine pq 23 40 rfl rfl HT_ ?_; refine pq 24 41 rfl rfl HT_ ?_; refine pq 25 42 rfl rfl HT_ ?_; refine pq 26 43 rfl rfl HT_ ?_; refine pq 27 44 rfl rfl HT_ ?_; refine pq 29 46 rfl rfl HT_ ?_; refine pq 30 47 rfl rfl HT_ ?_; refine tq6 28 45 rfl rfl HT_ HW_ hHeld ?_; refine pq 31 48 rfl rfl HT_ ?_; refine tq6 32 49 rfl rfl HT_ HW_ hHeld ?_; refine tq6 33 50 rfl rfl HT_ HW_ hHeld ?_; refine oq 34 51 rfl rfl HT_ (fun K hK => ?_); refine goes_ Try.func189 (by kernel_rfl) rfl #[.agg #[.int .i64 ((rd_T71 l0_1 (ji18)).f0), .int .i64 ((rd_T71 l0_1 (ji18)).f1)], .agg #[.int .i64 ((rd_T71 l0_1 x3_1).f0), .int .i64 ((rd_T71 l0_1 x3_1).f1)]] (by rfl) rfl rfl (by (try simp only [List.map_toArray, List.map_cons, List.map_nil]); first | done | (simp only [hji18]; rfl) | rfl | (simp only [List.length_drop, List.length_take]; rfl)) ?_
           with_reducible refine (spec_l2Before.calls ((rd_T71 l0_1 (ji18)).f0) ((rd_T71 l0_1 (ji18)).f1) ((rd_T71 l0_1 x3_1).f0) ((rd_T71 l0_1 x3_1).f1) t108 _ A21.out).mono ?_
           rintro e w29 ⟨rfl, hb⟩; refine ⟨_, rfl, ?_⟩; replace BK101 := am (blk_below (g := gb101) (o := .cells #[.int .i64 a0_0, .slice (some ad103) l0_1.length c0_1] 30 (0, 0)) (Q0 BK101) hb); replace BK104 := am (blk_below (g := gb104) (o := .cells #[.int .i64 ((rd_T71 l0_1 x3_1).f0), .int .i64 ((rd_T71 l0_1 x3_1).f1)] 71 (0, 0)) (Q0 BK104) hb); replace HB := am (below_step (Q1 HB) hb); (try clear hb); (try clear hb2); (try clear hk); (try clear hi); refine hK.out _ _ ⟨(blk_cell BK104.out 0).trans rfl, (blk_cell BK104.out 1).trans rfl, (blk_cell BK101.out 0).trans rfl, (blk_cell BK101.out 1).trans rfl, ((HB.out.cell (World.block_lt_of_cell? w _ hw107_0)).trans hw107_0), ((HB.out.cell (World.block_lt_of_cell? w _ hw107_1)).trans hw107_1)⟩ (fun hHeld => ?_); clear hK K; refine norm_ (a' := ?_) ?_ ?_
           rotate_left
           ·show Act.put _ (some 51) _ = _
            simp only [Act.put, List.setIfInBounds_toArray, List.set_cons_zero, List.set_cons_succ, i64_w, i32_w]
            rfl
           refine pq 35 52 rfl rfl HT_ ?_; refine pq 36 53 rfl rfl HT_ ?_; refine pq 37 54 rfl rfl HT_ ?_; refine done_ (done_of HT_.out (by kernel_rfl)) ?_
           go_upto_if 54 with (fail)
           have H := HU22.out; clear HU22
           by_cases c30 : t108 = true
           ·subst c30
            have H1 : (spec_l2Good.l0 k1 (wrap64 (x3_1 + 1)) a0_0 l0_1) = some r := by rw [if_pos rfl] at H; exact H
            clear H; have H := H1; clear H1; have H' := Aside0.mk H; clear H
            go_wp2
            go_roundg k1
            case measure => have := HK1.out; omega
            case rel => exact ⟨(wrap64 (x3_1 + 1)), Q11, H', ⟨Q95⟩, ⟨Q0 BK101⟩, ⟨Q1 HB⟩⟩
           ·replace c30 := Bool.eq_false_iff.mpr c30
            subst c30; have H1 : (some false) = some r := by rw [if_neg (show ¬ (false = true) by decide)] at H; exact H
            clear H; have H := H1; clear H1; obtain rfl := Option.some.inj H
            go_wp2
            go_ret
            exact ⟨by first | rfl | (simp [errW_none, errW_some] <;> rfl) | (simp only [← hji18]; first | rfl | (simp [errW_none, errW_some] <;> rfl)) | (simp [*, errW_none, errW_some] <;> rfl), Q1 HB⟩
          ·rw [if_neg c20] at H
           exact absurd H (by simp)
         ·rw [if_neg c19] at H
          exact absurd H (by simp)
        ·rw [if_neg c17] at H
         have c17b0 : decide (0 < x3_1) = false := decide_eq_false c17; clear c17; have HU31 := Aside0.mk H; clear H; have hcz32_0 : wr.cell? ⟨gb101, 0, none⟩ = some (.int .i64 a0_0) := (blk_cell BK101.out 0).trans rfl; have hcz32_1 : wr.cell? ⟨gb101, 1, none⟩ = some (.slice A0_1 l0_1.length c0_1) := (blk_cell BK101.out 1).trans rfl; have hfz32_0 := blk_frozen BK101.out 0; have hfz32_1 := blk_frozen BK101.out 1; have p103 : 0 ≤ (x3_1 : Int) := of_decide_eq_true Q12; have q103 : x3_1 < (l0_1.length : Int) := of_decide_eq_true Q12; obtain ⟨ad103, e103, hx103_0, hx103_1⟩ := at_T71 HR0_1.out x3_1 p103 q103
         cases e103
         replace hx103_0 := (HB.out.cell (World.block_lt_of_cell? w _ hx103_0)).trans hx103_0; replace hx103_1 := (HB.out.cell (World.block_lt_of_cell? w _ hx103_1)).trans hx103_1; replace p103 := eq_true p103; replace q103 := eq_true q103
         try go_wp2_with (first | ((with_reducible refine gate_dst (N := 4) rfl ?_); refine box_event ?hg (N := 4) ?hd (cs := #[.int .i64 0, .int .i64 0]) (t := 71) ?hr ?_; (case hd => rfl); (case hg => rfl); (case hr => first | (go_simp; done) | (go_simp; rfl)); intro gb104 hg w33 hbox hb; have BK104 := am (hbox); have GW104 := am ((Q25 : w.heap.size ≤ gb104)); have GE104 := am ((Q25 : w.heap.size ≤ gb104)); replace HB := am (below_step (Q1 HB) hb); have NB101_104 := am ((Q82 : gb101 ≠ gb104)); have NB104_101 := am ((Q83 : gb104 ≠ gb101)); replace BK101 := am (blk_below (g := gb101) (o := .cells #[.int .i64 a0_0, .slice (some ad103) l0_1.length c0_1] 30 (0, 0)) (Q0 BK101) hb); clear hb hbox hg; have hnb34 := NB104_101.out; have hnc34 := NB101_104.out; have hcz35_0 : w33.cell? ⟨gb104, 0, none⟩ = some (.int .i64 0) := (blk_cell BK104.out 0).trans rfl; have hcz35_1 : w33.cell? ⟨gb104, 1, none⟩ = some (.int .i64 0) := (blk_cell BK104.out 1).trans rfl; have hfz35_0 := blk_frozen BK104.out 0; have hfz35_1 := blk_frozen BK104.out 1))
         have n0_ : Aside0 (((w33.setCell ⟨gb104, 0, none⟩ (.int .i64 ((rd_T71 l0_1 x3_1).f0))).setCell ⟨gb104, 1, none⟩ (.int .i64 ((rd_T71 l0_1 x3_1).f1))).heap[gb101]? = some (.cells #[.int .i64 a0_0, .slice (some ad103) l0_1.length c0_1] 30 (0, 0))) := ⟨Q2 NB101_104 BK101⟩; have n1_ : Aside0 (((w33.setCell ⟨gb104, 0, none⟩ (.int .i64 ((rd_T71 l0_1 x3_1).f0))).setCell ⟨gb104, 1, none⟩ (.int .i64 ((rd_T71 l0_1 x3_1).f1))).heap[gb104]? = some (.cells #[.int .i64 ((rd_T71 l0_1 x3_1).f0), .int .i64 ((rd_T71 l0_1 x3_1).f1)] 71 (0, 0))) := ⟨Q38 BK104⟩; have n2_ : Aside0 (Below w.heap.size w ((w33.setCell ⟨gb104, 0, none⟩ (.int .i64 ((rd_T71 l0_1 x3_1).f0))).setCell ⟨gb104, 1, none⟩ (.int .i64 ((rd_T71 l0_1 x3_1).f1)))) := ⟨Q5 HB GE104⟩; (try clear BK101); (try clear BK104); (try clear HB); generalize ((w33.setCell ⟨gb104, 0, none⟩ (.int .i64 ((rd_T71 l0_1 x3_1).f0))).setCell ⟨gb104, 1, none⟩ (.int .i64 ((rd_T71 l0_1 x3_1).f1))) = w36 at n0_ n1_ n2_ ⊢; have BK101 := n0_; have BK104 := n1_; have HB := n2_; clear n0_ n1_ n2_; replace BK101 := am (blk_drew BK101.out); replace BK104 := am (blk_drew BK104.out); replace HB := am (below_drew1 HB.out); refine start_ (n := 38) (S := fun w' => w'.cell? ⟨gb104, 0, none⟩ = some (.int .i64 ((rd_T71 l0_1 x3_1).f0)) ∧ w'.cell? ⟨gb104, 1, none⟩ = some (.int .i64 ((rd_T71 l0_1 x3_1).f1)) ∧ w'.cell? ⟨gb101, 0, none⟩ = some (.int .i64 a0_0) ∧ w'.cell? ⟨gb101, 1, none⟩ = some (.slice (some ad103) l0_1.length c0_1)) (ds := []) #[false, false, false, false, false, false, false, false, false, false, false, false, false, false, false, false, false, false, false, false, false, false, false, false, false, false, false, false, false, false, false, false, false, false, false, false, false, false] (by kernel_rfl) rfl rfl ⟨(blk_cell BK104.out 0).trans rfl, (blk_cell BK104.out 1).trans rfl, (blk_cell BK101.out 0).trans rfl, (blk_cell BK101.out 1).trans rfl⟩ (fun hHeld => ?_); refine with_tabW spec_l2Good.tab5 spec_l2Good.bits5 (fun HT_ HW_ => ?_); generalize w36.drew = w37 at BK101 BK104 HB hHeld ⊢; refine pq 0 17 rfl rfl HT_ ?_; refine pq 2 19 rfl rfl HT_ ?_; refine tq4 1 18 rfl rfl HT_ HW_ hHeld ?_; refine tq4 3 20 rfl rfl HT_ HW_ hHeld ?_; refine pq 4 21 rfl rfl HT_ ?_; refine oq 5 22 rfl rfl HT_ (fun K hK => ?_); refine goes_ Try.func110 (by kernel_rfl) rfl #[.int .i64 ((rd_T71 l0_1 x3_1).f0), .int .i64 0, .int .i64 (wrap64 (a0_0 - 1))] (by rfl) rfl rfl Q3 ?_
         with_reducible refine (spec_l1In.calls ((rd_T71 l0_1 x3_1).f0) 0 (wrap64 (a0_0 - 1)) true _ A5.out).mono ?_
         rintro e w' ⟨rfl, ⟨nd, rfl⟩⟩; refine ⟨_, rfl, ?_⟩; refine hK.out _ _ ⟨(blk_cell BK104.out 0).trans rfl, (blk_cell BK104.out 1).trans rfl, (blk_cell BK101.out 0).trans rfl, (blk_cell BK101.out 1).trans rfl⟩ (fun hHeld => ?_); clear hK K; refine norm_ (a' := ?_) ?_ ?_
         rotate_left
         ·show Act.put _ (some 22) _ = _
          simp only [Act.put, List.setIfInBounds_toArray, List.set_cons_zero, List.set_cons_succ, i64_w, i32_w]
          rfl
         refine pq 6 23 rfl rfl HT_ ?_; refine pq 7 24 rfl rfl HT_ ?_; refine pq 8 25 rfl rfl HT_ ?_; refine pq 10 27 rfl rfl HT_ ?_; refine tq4 9 26 rfl rfl HT_ HW_ hHeld ?_; refine tq4 11 28 rfl rfl HT_ HW_ hHeld ?_; refine pq 12 29 rfl rfl HT_ ?_; refine oq 13 30 rfl rfl HT_ (fun K hK => ?_); refine goes_ Try.func110 (by kernel_rfl) rfl #[.int .i64 ((rd_T71 l0_1 x3_1).f1), .int .i64 0, .int .i64 (wrap64 (a0_0 - 1))] (by rfl) rfl rfl Q3 ?_
         with_reducible refine (spec_l1In.calls ((rd_T71 l0_1 x3_1).f1) 0 (wrap64 (a0_0 - 1)) true _ A7.out).mono ?_
         rintro e w' ⟨rfl, ⟨nd, rfl⟩⟩; refine ⟨_, rfl, ?_⟩; refine hK.out _ _ ⟨(blk_cell BK104.out 0).trans rfl, (blk_cell BK104.out 1).trans rfl, (blk_cell BK101.out 0).trans rfl, (blk_cell BK101.out 1).trans rfl⟩ (fun hHeld => ?_); clear hK K; refine norm_ (a' := ?_) ?_ ?_
         rotate_left
         ·show Act.put _ (some 30) _ = _
          simp only [Act.put, List.setIfInBounds_toArray, List.set_cons_zero, List.set_cons_succ, i64_w, i32_w]
          rfl
         refine pq 14 31 rfl rfl HT_ ?_; refine pq 15 32 rfl rfl HT_ ?_; refine pq 16 33 rfl rfl HT_ ?_; refine pq 17 34 rfl rfl HT_ ?_; refine pq 19 36 rfl rfl HT_ ?_; refine tq4 18 35 rfl rfl HT_ HW_ hHeld ?_; refine tq4 20 37 rfl rfl HT_ HW_ hHeld ?_; refine pq 21 38 rfl rfl HT_ ?_; refine pq 22 39 rfl rfl HT_ ?_; refine pq 23 40 rfl rfl HT_ ?_; refine pq 24 41 rfl rfl HT_ ?_; refine pq 25 42 rfl rfl HT_ ?_; refine pq 26 43 rfl rfl HT_ ?_; refine pu 27 44 rfl rfl HT_ ?_; refine pu 28 45 rfl rfl HT_ ?_; refine pu 29 46 rfl rfl HT_ ?_; refine pu 30 47 rfl rfl HT_ ?_; refine pu 31 48 rfl rfl HT_ ?_; refine pu 32 49 rfl rfl HT_ ?_; refine pu 33 50 rfl rfl HT_ ?_; refine pu 34 51 rfl rfl HT_ ?_; refine pu 35 52 rfl rfl HT_ ?_; refine pq 36 53 rfl rfl HT_ ?_; refine pq 37 54 rfl rfl HT_ ?_; refine done_ (done_of HT_.out (by kernel_rfl)) ?_
         go_upto_if 54 with (fail)
         have H := HU31.out; clear HU31; have H' := Aside0.mk H; clear H
         go_wp2
         go_roundg k1
         case measure => have := HK1.out; omega
         case rel => exact ⟨(wrap64 (x3_1 + 1)), Q11, H', ⟨Q95⟩, ⟨Q0 BK101⟩, ⟨Q1 HB⟩⟩
      ·replace c8 := Bool.eq_false_iff.mpr c8
       subst c8; have H1 : (some false) = some r := by rw [if_neg (show ¬ (false = true) by decide)] at H; exact H
       clear H; have H := H1; clear H1; have HU38 := Aside0.mk H; clear H; have hcz39_0 : wr.cell? ⟨gb101, 0, none⟩ = some (.int .i64 a0_0) := (blk_cell BK101.out 0).trans rfl; have hcz39_1 : wr.cell? ⟨gb101, 1, none⟩ = some (.slice A0_1 l0_1.length c0_1) := (blk_cell BK101.out 1).trans rfl; have hfz39_0 := blk_frozen BK101.out 0; have hfz39_1 := blk_frozen BK101.out 1; have p103 : 0 ≤ (x3_1 : Int) := of_decide_eq_true Q12; have q103 : x3_1 < (l0_1.length : Int) := of_decide_eq_true Q12; obtain ⟨ad103, e103, hx103_0, hx103_1⟩ := at_T71 HR0_1.out x3_1 p103 q103
       cases e103
       replace hx103_0 := (HB.out.cell (World.block_lt_of_cell? w _ hx103_0)).trans hx103_0; replace hx103_1 := (HB.out.cell (World.block_lt_of_cell? w _ hx103_1)).trans hx103_1; replace p103 := eq_true p103; replace q103 := eq_true q103
       try go_wp2_with (first | ((with_reducible refine gate_dst (N := 4) rfl ?_); refine box_event ?hg (N := 4) ?hd (cs := #[.int .i64 0, .int .i64 0]) (t := 71) ?hr ?_; (case hd => rfl); (case hg => rfl); (case hr => first | (go_simp; done) | (go_simp; rfl)); intro gb104 hg w40 hbox hb; have BK104 := am (hbox); have GW104 := am ((Q25 : w.heap.size ≤ gb104)); have GE104 := am ((Q25 : w.heap.size ≤ gb104)); replace HB := am (below_step (Q1 HB) hb); have NB101_104 := am ((Q82 : gb101 ≠ gb104)); have NB104_101 := am ((Q83 : gb104 ≠ gb101)); replace BK101 := am (blk_below (g := gb101) (o := .cells #[.int .i64 a0_0, .slice (some ad103) l0_1.length c0_1] 30 (0, 0)) (Q0 BK101) hb); clear hb hbox hg; have hnb41 := NB104_101.out; have hnc41 := NB101_104.out; have hcz42_0 : w40.cell? ⟨gb104, 0, none⟩ = some (.int .i64 0) := (blk_cell BK104.out 0).trans rfl; have hcz42_1 : w40.cell? ⟨gb104, 1, none⟩ = some (.int .i64 0) := (blk_cell BK104.out 1).trans rfl; have hfz42_0 := blk_frozen BK104.out 0; have hfz42_1 := blk_frozen BK104.out 1))
       have n0_ : Aside0 (((w40.setCell ⟨gb104, 0, none⟩ (.int .i64 ((rd_T71 l0_1 x3_1).f0))).setCell ⟨gb104, 1, none⟩ (.int .i64 ((rd_T71 l0_1 x3_1).f1))).heap[gb101]? = some (.cells #[.int .i64 a0_0, .slice (some ad103) l0_1.length c0_1] 30 (0, 0))) := ⟨Q2 NB101_104 BK101⟩; have n1_ : Aside0 (((w40.setCell ⟨gb104, 0, none⟩ (.int .i64 ((rd_T71 l0_1 x3_1).f0))).setCell ⟨gb104, 1, none⟩ (.int .i64 ((rd_T71 l0_1 x3_1).f1))).heap[gb104]? = some (.cells #[.int .i64 ((rd_T71 l0_1 x3_1).f0), .int .i64 ((rd_T71 l0_1 x3_1).f1)] 71 (0, 0))) := ⟨Q38 BK104⟩; have n2_ : Aside0 (Below w.heap.size w ((w40.setCell ⟨gb104, 0, none⟩ (.int .i64 ((rd_T71 l0_1 x3_1).f0))).setCell ⟨gb104, 1, none⟩ (.int .i64 ((rd_T71 l0_1 x3_1).f1)))) := ⟨Q5 HB GE104⟩; (try clear BK101); (try clear BK104); (try clear HB); generalize ((w40.setCell ⟨gb104, 0, none⟩ (.int .i64 ((rd_T71 l0_1 x3_1).f0))).setCell ⟨gb104, 1, none⟩ (.int .i64 ((rd_T71 l0_1 x3_1).f1))) = w43 at n0_ n1_ n2_ ⊢; have BK101 := n0_; have BK104 := n1_; have HB := n2_; clear n0_ n1_ n2_; replace BK101 := am (blk_drew BK101.out); replace BK104 := am (blk_drew BK104.out); replace HB := am (below_drew1 HB.out); refine start_ (n := 38) (S := fun w' => w'.cell? ⟨gb104, 0, none⟩ = some (.int .i64 ((rd_T71 l0_1 x3_1).f0)) ∧ w'.cell? ⟨gb104, 1, none⟩ = some (.int .i64 ((rd_T71 l0_1 x3_1).f1)) ∧ w'.cell? ⟨gb101, 0, none⟩ = some (.int .i64 a0_0) ∧ w'.cell? ⟨gb101, 1, none⟩ = some (.slice (some ad103) l0_1.length c0_1)) (ds := []) #[false, false, false, false, false, false, false, false, false, false, false, false, false, false, false, false, false, false, false, false, false, false, false, false, false, false, false, false, false, false, false, false, false, false, false, false, false, false] (by kernel_rfl) rfl rfl ⟨(blk_cell BK104.out 0).trans rfl, (blk_cell BK104.out 1).trans rfl, (blk_cell BK101.out 0).trans rfl, (blk_cell BK101.out 1).trans rfl⟩ (fun hHeld => ?_); refine with_tabW spec_l2Good.tab5 spec_l2Good.bits5 (fun HT_ HW_ => ?_); generalize w43.drew = w44 at BK101 BK104 HB hHeld ⊢; refine pq 0 17 rfl rfl HT_ ?_; refine pq 2 19 rfl rfl HT_ ?_; refine tq4 1 18 rfl rfl HT_ HW_ hHeld ?_; refine tq4 3 20 rfl rfl HT_ HW_ hHeld ?_; refine pq 4 21 rfl rfl HT_ ?_; refine oq 5 22 rfl rfl HT_ (fun K hK => ?_); refine goes_ Try.func110 (by kernel_rfl) rfl #[.int .i64 ((rd_T71 l0_1 x3_1).f0), .int .i64 0, .int .i64 (wrap64 (a0_0 - 1))] (by rfl) rfl rfl Q3 ?_
       with_reducible refine (spec_l1In.calls ((rd_T71 l0_1 x3_1).f0) 0 (wrap64 (a0_0 - 1)) true _ A5.out).mono ?_
       rintro e w' ⟨rfl, ⟨nd, rfl⟩⟩; refine ⟨_, rfl, ?_⟩; refine hK.out _ _ ⟨(blk_cell BK104.out 0).trans rfl, (blk_cell BK104.out 1).trans rfl, (blk_cell BK101.out 0).trans rfl, (blk_cell BK101.out 1).trans rfl⟩ (fun hHeld => ?_); clear hK K; refine norm_ (a' := ?_) ?_ ?_
       rotate_left
       ·show Act.put _ (some 22) _ = _
        simp only [Act.put, List.setIfInBounds_toArray, List.set_cons_zero, List.set_cons_succ, i64_w, i32_w]
        rfl
       refine pq 6 23 rfl rfl HT_ ?_; refine pq 7 24 rfl rfl HT_ ?_; refine pq 8 25 rfl rfl HT_ ?_; refine pq 10 27 rfl rfl HT_ ?_; refine tq4 9 26 rfl rfl HT_ HW_ hHeld ?_; refine tq4 11 28 rfl rfl HT_ HW_ hHeld ?_; refine pq 12 29 rfl rfl HT_ ?_; refine oq 13 30 rfl rfl HT_ (fun K hK => ?_); refine goes_ Try.func110 (by kernel_rfl) rfl #[.int .i64 ((rd_T71 l0_1 x3_1).f1), .int .i64 0, .int .i64 (wrap64 (a0_0 - 1))] (by rfl) rfl rfl Q3 ?_
       with_reducible refine (spec_l1In.calls ((rd_T71 l0_1 x3_1).f1) 0 (wrap64 (a0_0 - 1)) false _ A7.out).mono ?_
       rintro e w' ⟨rfl, ⟨nd, rfl⟩⟩; refine ⟨_, rfl, ?_⟩; refine hK.out _ _ ⟨(blk_cell BK104.out 0).trans rfl, (blk_cell BK104.out 1).trans rfl, (blk_cell BK101.out 0).trans rfl, (blk_cell BK101.out 1).trans rfl⟩ (fun hHeld => ?_); clear hK K; refine norm_ (a' := ?_) ?_ ?_
       rotate_left
       ·show Act.put _ (some 30) _ = _
        simp only [Act.put, List.setIfInBounds_toArray, List.set_cons_zero, List.set_cons_succ, i64_w, i32_w]
        rfl
       refine pq 14 31 rfl rfl HT_ ?_; refine pq 15 32 rfl rfl HT_ ?_; refine pq 16 33 rfl rfl HT_ ?_; refine pu 17 34 rfl rfl HT_ ?_; refine pu 18 35 rfl rfl HT_ ?_; refine pu 19 36 rfl rfl HT_ ?_; refine pu 20 37 rfl rfl HT_ ?_; refine pu 21 38 rfl rfl HT_ ?_; refine pq 22 39 rfl rfl HT_ ?_; refine pq 23 40 rfl rfl HT_ ?_; refine pu 24 41 rfl rfl HT_ ?_; refine pu 25 42 rfl rfl HT_ ?_; refine pu 26 43 rfl rfl HT_ ?_; refine pu 27 44 rfl rfl HT_ ?_; refine pu 28 45 rfl rfl HT_ ?_; refine pu 29 46 rfl rfl HT_ ?_; refine pu 30 47 rfl rfl HT_ ?_; refine pu 31 48 rfl rfl HT_ ?_; refine pu 32 49 rfl rfl HT_ ?_; refine pu 33 50 rfl rfl HT_ ?_; refine pu 34 51 rfl rfl HT_ ?_; refine pu 35 52 rfl rfl HT_ ?_; refine pu 36 53 rfl rfl HT_ ?_; refine pq 37 54 rfl rfl HT_ ?_; refine done_ (done_of HT_.out (by kernel_rfl)) ?_
       go_upto_if 54 with (fail)
       have H := HU38.out; clear HU38; obtain rfl := Option.some.inj H
       go_wp2
       go_ret
       exact ⟨Q10, Q1 HB⟩
     ·replace c6 := Bool.eq_false_iff.mpr c6
      subst c6; have H1 : (some false) = some r := by rw [if_neg (show ¬ (false = true) by decide)] at H; exact H
      clear H; have H := H1; clear H1; have HU45 := Aside0.mk H; clear H; have hcz46_0 : wr.cell? ⟨gb101, 0, none⟩ = some (.int .i64 a0_0) := (blk_cell BK101.out 0).trans rfl; have hcz46_1 : wr.cell? ⟨gb101, 1, none⟩ = some (.slice A0_1 l0_1.length c0_1) := (blk_cell BK101.out 1).trans rfl; have hfz46_0 := blk_frozen BK101.out 0; have hfz46_1 := blk_frozen BK101.out 1; have p103 : 0 ≤ (x3_1 : Int) := of_decide_eq_true Q12; have q103 : x3_1 < (l0_1.length : Int) := of_decide_eq_true Q12; obtain ⟨ad103, e103, hx103_0, hx103_1⟩ := at_T71 HR0_1.out x3_1 p103 q103
      cases e103
      replace hx103_0 := (HB.out.cell (World.block_lt_of_cell? w _ hx103_0)).trans hx103_0; replace hx103_1 := (HB.out.cell (World.block_lt_of_cell? w _ hx103_1)).trans hx103_1; replace p103 := eq_true p103; replace q103 := eq_true q103
      try go_wp2_with (first | ((with_reducible refine gate_dst (N := 4) rfl ?_); refine box_event ?hg (N := 4) ?hd (cs := #[.int .i64 0, .int .i64 0]) (t := 71) ?hr ?_; (case hd => rfl); (case hg => rfl); (case hr => first | (go_simp; done) | (go_simp; rfl)); intro gb104 hg w47 hbox hb; have BK104 := am (hbox); have GW104 := am ((Q25 : w.heap.size ≤ gb104)); have GE104 := am ((Q25 : w.heap.size ≤ gb104)); replace HB := am (below_step (Q1 HB) hb); have NB101_104 := am ((Q82 : gb101 ≠ gb104)); have NB104_101 := am ((Q83 : gb104 ≠ gb101)); replace BK101 := am (blk_below (g := gb101) (o := .cells #[.int .i64 a0_0, .slice (some ad103) l0_1.length c0_1] 30 (0, 0)) (Q0 BK101) hb); clear hb hbox hg; have hnb48 := NB104_101.out; have hnc48 := NB101_104.out; have hcz49_0 : w47.cell? ⟨gb104, 0, none⟩ = some (.int .i64 0) := (blk_cell BK104.out 0).trans rfl; have hcz49_1 : w47.cell? ⟨gb104, 1, none⟩ = some (.int .i64 0) := (blk_cell BK104.out 1).trans rfl; have hfz49_0 := blk_frozen BK104.out 0; have hfz49_1 := blk_frozen BK104.out 1))
      have n0_ : Aside0 (((w47.setCell ⟨gb104, 0, none⟩ (.int .i64 ((rd_T71 l0_1 x3_1).f0))).setCell ⟨gb104, 1, none⟩ (.int .i64 ((rd_T71 l0_1 x3_1).f1))).heap[gb101]? = some (.cells #[.int .i64 a0_0, .slice (some ad103) l0_1.length c0_1] 30 (0, 0))) := ⟨Q2 NB101_104 BK101⟩; have n1_ : Aside0 (((w47.setCell ⟨gb104, 0, none⟩ (.int .i64 ((rd_T71 l0_1 x3_1).f0))).setCell ⟨gb104, 1, none⟩ (.int .i64 ((rd_T71 l0_1 x3_1).f1))).heap[gb104]? = some (.cells #[.int .i64 ((rd_T71 l0_1 x3_1).f0), .int .i64 ((rd_T71 l0_1 x3_1).f1)] 71 (0, 0))) := ⟨Q38 BK104⟩; have n2_ : Aside0 (Below w.heap.size w ((w47.setCell ⟨gb104, 0, none⟩ (.int .i64 ((rd_T71 l0_1 x3_1).f0))).setCell ⟨gb104, 1, none⟩ (.int .i64 ((rd_T71 l0_1 x3_1).f1)))) := ⟨Q5 HB GE104⟩; (try clear BK101); (try clear BK104); (try clear HB); generalize ((w47.setCell ⟨gb104, 0, none⟩ (.int .i64 ((rd_T71 l0_1 x3_1).f0))).setCell ⟨gb104, 1, none⟩ (.int .i64 ((rd_T71 l0_1 x3_1).f1))) = w50 at n0_ n1_ n2_ ⊢; have BK101 := n0_; have BK104 := n1_; have HB := n2_; clear n0_ n1_ n2_; replace BK101 := am (blk_drew BK101.out); replace BK104 := am (blk_drew BK104.out); replace HB := am (below_drew1 HB.out); refine start_ (n := 38) (S := fun w' => w'.cell? ⟨gb104, 0, none⟩ = some (.int .i64 ((rd_T71 l0_1 x3_1).f0)) ∧ w'.cell? ⟨gb104, 1, none⟩ = some (.int .i64 ((rd_T71 l0_1 x3_1).f1)) ∧ w'.cell? ⟨gb101, 0, none⟩ = some (.int .i64 a0_0) ∧ w'.cell? ⟨gb101, 1, none⟩ = some (.slice (some ad103) l0_1.length c0_1)) (ds := []) #[false, false, false, false, false, false, false, false, false, false, false, false, false, false, false, false, false, false, false, false, false, false, false, false, false, false, false, false, false, false, false, false, false, false, false, false, false, false] (by kernel_rfl) rfl rfl ⟨(blk_cell BK104.out 0).trans rfl, (blk_cell BK104.out 1).trans rfl, (blk_cell BK101.out 0).trans rfl, (blk_cell BK101.out 1).trans rfl⟩ (fun hHeld => ?_); refine with_tabW spec_l2Good.tab5 spec_l2Good.bits5 (fun HT_ HW_ => ?_); generalize w50.drew = w51 at BK101 BK104 HB hHeld ⊢; refine pq 0 17 rfl rfl HT_ ?_; refine pq 2 19 rfl rfl HT_ ?_; refine tq4 1 18 rfl rfl HT_ HW_ hHeld ?_; refine tq4 3 20 rfl rfl HT_ HW_ hHeld ?_; refine pq 4 21 rfl rfl HT_ ?_; refine oq 5 22 rfl rfl HT_ (fun K hK => ?_); refine goes_ Try.func110 (by kernel_rfl) rfl #[.int .i64 ((rd_T71 l0_1 x3_1).f0), .int .i64 0, .int .i64 (wrap64 (a0_0 - 1))] (by rfl) rfl rfl Q3 ?_
      with_reducible refine (spec_l1In.calls ((rd_T71 l0_1 x3_1).f0) 0 (wrap64 (a0_0 - 1)) false _ A5.out).mono ?_
      rintro e w' ⟨rfl, ⟨nd, rfl⟩⟩; refine ⟨_, rfl, ?_⟩; refine hK.out _ _ ⟨(blk_cell BK104.out 0).trans rfl, (blk_cell BK104.out 1).trans rfl, (blk_cell BK101.out 0).trans rfl, (blk_cell BK101.out 1).trans rfl⟩ (fun hHeld => ?_); clear hK K; refine norm_ (a' := ?_) ?_ ?_
      rotate_left
      ·show Act.put _ (some 22) _ = _
       simp only [Act.put, List.setIfInBounds_toArray, List.set_cons_zero, List.set_cons_succ, i64_w, i32_w]
       rfl
      refine pq 6 23 rfl rfl HT_ ?_; refine pq 7 24 rfl rfl HT_ ?_; refine pu 8 25 rfl rfl HT_ ?_; refine pu 9 26 rfl rfl HT_ ?_; refine pu 10 27 rfl rfl HT_ ?_; refine pu 11 28 rfl rfl HT_ ?_; refine pu 12 29 rfl rfl HT_ ?_; refine pu 13 30 rfl rfl HT_ ?_; refine pu 14 31 rfl rfl HT_ ?_; refine pq 15 32 rfl rfl HT_ ?_; refine pq 16 33 rfl rfl HT_ ?_; refine pu 17 34 rfl rfl HT_ ?_; refine pu 18 35 rfl rfl HT_ ?_; refine pu 19 36 rfl rfl HT_ ?_; refine pu 20 37 rfl rfl HT_ ?_; refine pu 21 38 rfl rfl HT_ ?_; refine pq 22 39 rfl rfl HT_ ?_; refine pq 23 40 rfl rfl HT_ ?_; refine pu 24 41 rfl rfl HT_ ?_; refine pu 25 42 rfl rfl HT_ ?_; refine pu 26 43 rfl rfl HT_ ?_; refine pu 27 44 rfl rfl HT_ ?_; refine pu 28 45 rfl rfl HT_ ?_; refine pu 29 46 rfl rfl HT_ ?_; refine pu 30 47 rfl rfl HT_ ?_; refine pu 31 48 rfl rfl HT_ ?_; refine pu 32 49 rfl rfl HT_ ?_; refine pu 33 50 rfl rfl HT_ ?_; refine pu 34 51 rfl rfl HT_ ?_; refine pu 35 52 rfl rfl HT_ ?_; refine pu 36 53 rfl rfl HT_ ?_; refine pq 37 54 rfl rfl HT_ ?_; refine done_ (done_of HT_.out (by kernel_rfl)) ?_
      go_upto_if 54 with (fail)
      have H := HU45.out; clear HU45; obtain rfl := Option.some.inj H
      go_wp2
      go_ret
      exact ⟨Q10, Q1 HB⟩
    ·rw [if_neg c4] at H
     exact absurd H (by simp)
   ·rw [if_neg c3] at H
    have c3b0 := decide_eq_false c3; clear c3; replace H := (ob H); obtain ⟨t102, A520, H⟩ := H; (try dsimp only at H); have A52 := Aside0.mk A520; clear A520; obtain rfl := Option.some.inj H; have hcz53_0 : wr.cell? ⟨gb101, 0, none⟩ = some (.int .i64 a0_0) := (blk_cell BK101.out 0).trans rfl; have hcz53_1 : wr.cell? ⟨gb101, 1, none⟩ = some (.slice A0_1 l0_1.length c0_1) := (blk_cell BK101.out 1).trans rfl; have hfz53_0 := blk_frozen BK101.out 0; have hfz53_1 := blk_frozen BK101.out 1
    go_wp2_with (first | ((with_reducible refine gate_callee (f := 110) rfl ?_); refine goesL_ (some 57) rfl rfl Try.func110 (by kernel_rfl) rfl #[.int .i64 a0_0, .int .i64 0, .int .i64 8] rfl Q3 ?_; (with_reducible refine (spec_l1In.calls a0_0 0 8 t102 _ A52.out).mono ?_); rintro e w' ⟨rfl, ⟨nd, rfl⟩⟩; refine ⟨_, rfl, ?_⟩))
    go_ret
    exact ⟨Q10, Q1 HB⟩
end Go.Proofs.Ytcjddikalgnhpaa.P
