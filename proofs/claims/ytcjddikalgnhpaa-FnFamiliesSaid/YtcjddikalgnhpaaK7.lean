/- Functions of the program as Lean functions, that each call comes to what they say, and what holds of them; part 7 of 14; no conditions beyond those that each theorem names. -/
import Derived.Test.YtcjddikalgnhpaaK1
import Derived.Test.YtcjddikalgnhpaaK6
namespace Go.Proofs.Ytcjddikalgnhpaa.P
open Go.RowKit Go.Proofs.YtcjddikalgnhpaaW.PrintWords Go.Proofs.YtcjddikalgnhpaaW.PrintLast Go.Proofs.YtcjddikalgnhpaaW.PrintMore
attribute [local go_sem] max2_int min2_int max_two min_two max_three min_three max_four min_four   -- for this text's walks alone
set_option linter.unusedVariables false
set_option linter.unusedSimpArgs false
/-! ### spec_l1Cur_pick: function 141 -/
def spec_l1Cur_pick.f (s0_0 : List Int) (s0_1 : Int) (s0_2 : Int) (a1 : Int) : Option (Int × Int × Int) := if a1 ≤ 1 then (some (0, s0_1, s0_2)) else ((spec_l1Cur_next.f s0_0 s0_1 s0_2).bind fun bt101 => (if a1 > 200 then ((spec_l1Cur_next.f s0_0 bt101.2.1 bt101.2.2).bind fun bt104 => (if a1 = 0 then (none) else (some (Int.tmod (wrap64 ((wrap64 (bt101.1 * 256)) + bt104.1)) a1, bt104.2.1, bt104.2.2)))) else (if a1 = 0 then (none) else (some (Int.tmod bt101.1 a1, bt101.2.1, bt101.2.2)))))
set_option maxHeartbeats 8000000 in
set_option maxRecDepth 100000 in
theorem spec_l1Cur_pick.calls (g : Nat) (s0_0 : List Int) (s0_1 : Int) (s0_2 : Int) (a1 : Int) (r1 : Int) (r2 : Int) (r3 : Int) (w0 w : World) (hI : IsS96 w0 w g s0_0 s0_1 s0_2) (hB : Below w0.heap.size w0 w) (h : spec_l1Cur_pick.f s0_0 s0_1 s0_2 a1 = some (r1, r2, r3)) :
  Calls Try.prog 141 #[.pointer (some ⟨g, 0, none⟩), .int .i64 a1] w fun e w' => e = .returned (.int .i64 r1) ∧ IsS96 w0 w' g s0_0 r2 r3 ∧ Below w0.heap.size w0 w' ∧ KeepBut w w' g none := by
 have HI0 := Aside0.mk hI
 have HK := am (KeepBut.refl w g none)
 have HL := Aside0.mk hB.size
 clear hI
 have HW0 := Aside0.mk hB.size
 have HB := Aside0.mk hB
 clear hB
 have H : (if a1 ≤ 1 then (some (0, s0_1, s0_2)) else ((spec_l1Cur_next.f s0_0 s0_1 s0_2).bind fun bt101 => (if a1 > 200 then ((spec_l1Cur_next.f s0_0 bt101.2.1 bt101.2.2).bind fun bt104 => (if a1 = 0 then (none) else (some (Int.tmod (wrap64 ((wrap64 (bt101.1 * 256)) + bt104.1)) a1, bt104.2.1, bt104.2.2)))) else (if a1 = 0 then (none) else (some (Int.tmod bt101.1 a1, bt101.2.1, bt101.2.2)))))) = some (r1, r2, r3) := h
 clear h
 by_cases c3 : a1 ≤ 1
 ·rw [if_pos c3] at H
  have c3b0 := decide_eq_true c3; clear c3
  simp only [Option.some.injEq, Prod.mk.injEq] at H
  obtain ⟨rfl, rfl, rfl⟩ := H
  go_enter Try.func141, Try.ntmps141
  go_wp2
  go_ret
  exact ⟨Q10, Q13 HI0, Q7 HB HI0, Q22 HK⟩
 ·rw [if_neg c3] at H
  have c3b0 := decide_eq_false c3; clear c3; replace H := (ob H); obtain ⟨⟨t101, t102, t103⟩, A40, H⟩ := H; (try dsimp only at H); have A4 := Aside0.mk A40; clear A40; have HU5 := Aside0.mk H; clear H
  go_enter Try.func141, Try.ntmps141
  go_upto_if 11 with (first | ((with_reducible refine gate_callee (f := 197) rfl ?_); refine goesL_ (some 9) rfl rfl Try.func197 (by kernel_rfl) rfl #[.pointer (some ⟨g, 0, none⟩)] rfl Q3 ?_; (with_reducible refine (spec_l1Cur_next.calls g s0_0 s0_1 s0_2 t101 t102 t103 w0 _ ?side1 ?side2 A4.out).mono ?_); (case side1 => exact (Q13 HI0)); (case side2 => exact (Q7 HB HI0)); rintro e w6 ⟨rfl, hi, hb, hk⟩; refine ⟨_, rfl, ?_⟩; replace HK := am (KeepBut.trans (Q22 HK) hk (.inl rfl)); replace HB := am (hb); replace HI0 := am (hi); (try clear hb); (try clear hb2); (try clear hk); (try clear hi)))
  (try simp only [Act.put, List.setIfInBounds_toArray, List.set_cons_zero, List.set_cons_succ]); have H := HU5.out; clear HU5
  by_cases c7 : a1 > 200
  ·rw [if_pos c7] at H
   have c7b0 : decide (200 < a1) = true := decide_eq_true c7; clear c7
   (first | rw [c7b0] | (simp only [i64_w, i32_w]; rw [c7b0]) | skip)
   replace H := (ob H); obtain ⟨⟨t104, t105, t106⟩, A80, H⟩ := H; (try dsimp only at H); have A8 := Aside0.mk A80; clear A80
   by_cases c9 : a1 = 0
   ·rw [if_pos c9] at H
    exact absurd H (by simp)
   ·rw [if_neg c9] at H
    have c9b0 := beq_eq_false_iff_ne.mpr c9; have c9b1 := bne_iff_ne.mpr c9
    simp only [Option.some.injEq, Prod.mk.injEq] at H
    obtain ⟨rfl, rfl, rfl⟩ := H
    go_wp2_with (first | ((with_reducible refine gate_callee (f := 197) rfl ?_); refine goesL_ (some 15) rfl rfl Try.func197 (by kernel_rfl) rfl #[.pointer (some ⟨g, 0, none⟩)] rfl Q3 ?_; (with_reducible refine (spec_l1Cur_next.calls g s0_0 t102 t103 t104 t105 t106 w0 _ ?side1 ?side2 A8.out).mono ?_); (case side1 => exact (Q13 HI0)); (case side2 => exact (Q7 HB HI0)); rintro e w10 ⟨rfl, hi, hb, hk⟩; refine ⟨_, rfl, ?_⟩; replace HK := am (KeepBut.trans (Q22 HK) hk (.inl rfl)); replace HB := am (hb); replace HI0 := am (hi); (try clear hb); (try clear hb2); (try clear hk); (try clear hi)))
    go_ret
    exact ⟨Q10, Q13 HI0, Q7 HB HI0, Q22 HK⟩
  ·rw [if_neg c7] at H
   have c7b0 : decide (200 < a1) = false := decide_eq_false c7; clear c7
   (first | rw [c7b0] | (simp only [i64_w, i32_w]; rw [c7b0]) | skip)
   by_cases c11 : a1 = 0
   ·rw [if_pos c11] at H
    exact absurd H (by simp)
   ·rw [if_neg c11] at H
    have c11b0 := beq_eq_false_iff_ne.mpr c11; have c11b1 := bne_iff_ne.mpr c11
    simp only [Option.some.injEq, Prod.mk.injEq] at H
    obtain ⟨rfl, rfl, rfl⟩ := H
    go_wp2
    go_ret
    exact ⟨Q10, Q13 HI0, Q7 HB HI0, Q22 HK⟩
/-! ### spec_l1Cur_among: function 106 -/
def spec_l1Cur_among.f (s0_0 : List Int) (s0_1 : Int) (s0_2 : Int) (l1 : List Int) : Option (Int × Int × Int) := (spec_l1Cur_pick.f s0_0 s0_1 s0_2 (l1.length : Int)).bind fun bt101 => (if 0 ≤ bt101.1 then (if bt101.1 < (l1.length : Int) then (some (rd l1 bt101.1, bt101.2.1, bt101.2.2)) else (none)) else (none))
set_option maxHeartbeats 8000000 in
set_option maxRecDepth 100000 in
theorem spec_l1Cur_among.calls (g : Nat) (s0_0 : List Int) (s0_1 : Int) (s0_2 : Int) (A1 : Option Addr) (c1 : Nat) (l1 : List Int) (r1 : Int) (r2 : Int) (r3 : Int) (w0 w : World) (hI : IsS96 w0 w g s0_0 s0_1 s0_2) (hB : Below w0.heap.size w0 w) (hr1 : Kd.C (Kd.int .i64) w A1 l1.length l1) (hc1 : l1.length ≤ c1) (hf1 : ∀ ad, A1 = some ad → 0 < l1.length → ad.block ≠ g) (h : spec_l1Cur_among.f s0_0 s0_1 s0_2 l1 = some (r1, r2, r3)) :
  Calls Try.prog 106 #[.pointer (some ⟨g, 0, none⟩), .slice A1 l1.length c1] w fun e w' => e = .returned (.int .i64 r1) ∧ IsS96 w0 w' g s0_0 r2 r3 ∧ Below w0.heap.size w0 w' ∧ KeepBut w w' g none := by
 have HR1 := Aside0.mk hr1
 have HC1 := Aside0.mk hc1
 clear hr1 hc1
 have HI0 := Aside0.mk hI
 have HK := am (KeepBut.refl w g none)
 have HL := Aside0.mk hB.size
 clear hI
 have HW0 := Aside0.mk hB.size
 have HB := Aside0.mk hB
 clear hB
 have H : ((spec_l1Cur_pick.f s0_0 s0_1 s0_2 (l1.length : Int)).bind fun bt101 => (if 0 ≤ bt101.1 then (if bt101.1 < (l1.length : Int) then (some (rd l1 bt101.1, bt101.2.1, bt101.2.2)) else (none)) else (none))) = some (r1, r2, r3) := h
 clear h
 replace H := (ob H)
 obtain ⟨⟨t101, t102, t103⟩, A30, H⟩ := H
 (try dsimp only at H)
 have A3 := Aside0.mk A30
 clear A30
 by_cases c4 : 0 ≤ t101
 ·rw [if_pos c4] at H
  have c4b0 := decide_eq_true c4; clear c4
  by_cases c5 : t101 < (l1.length : Int)
  ·rw [if_pos c5] at H
   have c5b0 := decide_eq_true c5; clear c5
   simp only [Option.some.injEq, Prod.mk.injEq] at H
   obtain ⟨rfl, rfl, rfl⟩ := H
   go_enter Try.func106, Try.ntmps106
   go_wp2_with (first | ((with_reducible refine gate_callee (f := 141) rfl ?_); refine goesL_ (some 9) rfl rfl Try.func141 (by kernel_rfl) rfl #[.pointer (some ⟨g, 0, none⟩), .int .i64 (l1.length : Int)] rfl Q3 ?_; (with_reducible refine (spec_l1Cur_pick.calls g s0_0 s0_1 s0_2 (l1.length : Int) t101 t102 t103 w0 _ ?side1 ?side2 A3.out).mono ?_); (case side1 => exact (Q13 HI0)); (case side2 => exact (Q7 HB HI0)); rintro e w6 ⟨rfl, hi, hb, hk⟩; refine ⟨_, rfl, ?_⟩; replace HK := am (KeepBut.trans (Q22 HK) hk (.inl rfl)); replace HB := am (hb); replace HI0 := am (hi); (try clear hb); (try clear hb2); (try clear hk); (try clear hi); have p104 : 0 ≤ (t101 : Int) := of_decide_eq_true Q12; have q104 : t101 < (l1.length : Int) := of_decide_eq_true Q12; obtain ⟨ad104, e104, hx104_0⟩ := Kd.at_int HR1.out t101 p104 q104; cases e104; replace hx104_0 := keep_cell HK.out hx104_0 (by first | (rw [add_block]; exact hf1 _ rfl (by omega)) | exact hf1 _ rfl (by omega) | exact hf1 ad104 rfl (by omega)); replace p104 := eq_true p104; replace q104 := eq_true q104))
   go_ret
   exact ⟨Q10, Q13 HI0, Q7 HB HI0, Q22 HK⟩
  ·rw [if_neg c5] at H
   exact absurd H (by simp)
 ·rw [if_neg c4] at H
  exact absurd H (by simp)
/-! ### spec_DrawPathGraph: function 22 -/
def spec_DrawPathGraph.st (s0_0 : List Int) (s0_1 : Int) (s0_2 : Int) : Option (Int × Int × Int) := (spec_l1Cur_among.f s0_0 s0_1 s0_2 (([0, 1, 2, 3, 5, 8, 9, (-1), 4, 6, 7] : List Int))).bind fun bt104 => (some (bt104.1, bt104.2.1, bt104.2.2))
set_option maxHeartbeats 8000000 in
set_option maxRecDepth 100000 in
theorem spec_DrawPathGraph.callsM (A0 : Option Addr) (c0 : Nat) (s0_0 : List Int) (r1 : Int) (r2 : Int) (r3 : Int) (w0 : World) (hr0 : Kd.C (Kd.int .u8) w0 A0 s0_0.length s0_0) (hc0 : s0_0.length ≤ c0) (h : spec_DrawPathGraph.st s0_0 0 0 = some (r1, r2, r3)) :
  Calls Try.prog 22 #[.slice A0 s0_0.length c0] w0 fun e w' => ∃ (g_ : Nat) (w_ : World), w0.heap.size ≤ w_.heap.size ∧ (e = .returned (.int .i64 r1) ∧ IsS96 w0 w' g_ s0_0 r2 r3 ∧ Below w0.heap.size w0 w' ∧ KeepBut w_ w' g_ none) := by
 have HR0 := Aside0.mk hr0
 have HC0 := Aside0.mk hc0
 clear hr0 hc0
 have HB := am (Below.refl w0.heap.size w0)
 have H : ((spec_l1Cur_among.f s0_0 0 0 (([0, 1, 2, 3, 5, 8, 9, (-1), 4, 6, 7] : List Int))).bind fun bt104 => (some (bt104.1, bt104.2.1, bt104.2.2))) = some (r1, r2, r3) := h
 clear h
 obtain ⟨y101, hy101⟩ : ∃ y_ : List Int, y_ = (([0, 1, 2, 3, 5, 8, 9, (-1), 4, 6, 7] : List Int)) := ⟨_, rfl⟩
 replace H : ((spec_l1Cur_among.f s0_0 0 0 y101).bind fun bt104 => (some (bt104.1, bt104.2.1, bt104.2.2))) = some (r1, r2, r3) := RH hy101 H
 have Ny101 := Aside0.mk hy101
 clear hy101
 replace H := (ob H)
 obtain ⟨⟨t104, t105, t106⟩, A20, H⟩ := H
 (try dsimp only at H)
 have A2 := Aside0.mk A20
 clear A20
 simp only [Option.some.injEq, Prod.mk.injEq] at H
 obtain ⟨rfl, rfl, rfl⟩ := H
 go_enter Try.func22, Try.ntmps22
 go_wp2_with (first | ((with_reducible refine gate_dst (N := 6) rfl ?_); refine box_event ?hg (N := 6) ?hd (cs := #[.slice A0 s0_0.length c0, .int .i64 0, .int .u64 0]) (t := 96) ?hr ?_; (case hd => rfl); (case hg => rfl); (case hr => first | (go_simp; done) | (go_simp; rfl)); intro g hg w hbox hb; have HI0 := am (show IsS96 w0 w g s0_0 0 0 from ⟨A0, c0, hbox, Q25, HR0.out⟩); replace HB := am (below_step (Q1 HB) hb); clear hb hbox hg; have HK := am (KeepBut.refl w g none); have HL := Aside0.mk HB.out.size; have HW0 := Aside0.mk HB.out.size) | ((with_reducible refine gate_dst (N := 8) rfl ?_); refine Kd.R_lit (Kd.int .i64) _ 3 ?hg (N := 8) ?hd (xs := ([0, 1, 2, 3, 5, 8, 9, (-1), 4, 6, 7] : List Int)) (inner := [.int .i64 0, .int .i64 1, .int .i64 2, .int .i64 3, .int .i64 5, .int .i64 8, .int .i64 9, .int .i64 (-1), .int .i64 4, .int .i64 6, .int .i64 7]) (ok := fun _ => True) (okp := fun _ => True) ?hr ?hp (fun _ hk => hk) trivial (Below.refl _ _) (Nat.le_refl _) (by simp) ?_; (case hd => rfl); (case hg => rfl); (case hr => first | (go_simp; done) | (go_simp; rfl)); (case hp => exact (Reps.one (show Kd.M (Kd.int .i64) _ _ _ 0 [.int .i64 0] from rfl) (Reps.one (show Kd.M (Kd.int .i64) _ _ _ 1 [.int .i64 1] from rfl) (Reps.one (show Kd.M (Kd.int .i64) _ _ _ 2 [.int .i64 2] from rfl) (Reps.one (show Kd.M (Kd.int .i64) _ _ _ 3 [.int .i64 3] from rfl) (Reps.one (show Kd.M (Kd.int .i64) _ _ _ 5 [.int .i64 5] from rfl) (Reps.one (show Kd.M (Kd.int .i64) _ _ _ 8 [.int .i64 8] from rfl) (Reps.one (show Kd.M (Kd.int .i64) _ _ _ 9 [.int .i64 9] from rfl) (Reps.one (show Kd.M (Kd.int .i64) _ _ _ (-1) [.int .i64 (-1)] from rfl) (Reps.one (show Kd.M (Kd.int .i64) _ _ _ 4 [.int .i64 4] from rfl) (Reps.one (show Kd.M (Kd.int .i64) _ _ _ 6 [.int .i64 6] from rfl) (Reps.one (show Kd.M (Kd.int .i64) _ _ _ 7 [.int .i64 7] from rfl) (Reps.none _ _))))))))))))); intro v102 w3 ho4 hb hg_ hnew_; clear hg_ hnew_; (first | rw [← Ny101.out] at ho4 | (simp only [Int.reduceToNat] at ho4; rw [← Ny101.out] at ho4)); have HO103 := am (Kd.R_lower ho4 (keep_size (w := w) (g := g) (row := none) (Q22 HK))); replace HK := am (KeepBut.trans (Q22 HK) (KeepBut.of_below hb g none) (.inl rfl)); replace HB := am (below_step (Q7 HB HI0) hb); replace HI0 := am (IsS96.below (Q13 HI0) hb); clear hb ho4; obtain ⟨Ao5, co5, eo5⟩ := Kd.R_slice HO103.out; subst eo5) | ((with_reducible refine gate_callee (f := 106) rfl ?_); refine goesL_ (some 9) rfl rfl Try.func106 (by kernel_rfl) rfl #[.pointer (some ⟨g, 0, none⟩), .slice Ao5 y101.length co5] rfl Q3 ?_; (with_reducible refine (spec_l1Cur_among.calls g s0_0 0 0 _ _ y101 t104 t105 t106 w0 _ ?side1 ?side2 ?side3 ?side4 ?side5 A2.out).mono ?_); (case side1 => exact (Q13 HI0)); (case side2 => exact (Q7 HB HI0)); (case side3 => exact (Q36 HO103)); (case side4 => exact (Kd.R_reads' HO103.out).2.1); (case side5 => exact far_slice (IsS96.own_ne HI0.out HO103.out (by decide))); rintro e w6 ⟨rfl, hi, hb, hk⟩; refine ⟨_, rfl, ?_⟩; replace HO103 := am (Kd.R_mono (Kd.R_keep (IsS96.apart (show IsS96 w0 _ g s0_0 0 0 from Q13 HI0) (Q6 HO103) (by decide)) hk (fun _ h => h.2)) (fun _ h => h.1)); replace HK := am (KeepBut.trans (Q22 HK) hk (.inl rfl)); replace HB := am (hb); replace HI0 := am (hi); (try clear hb); (try clear hb2); (try clear hk); (try clear hi)))
 go_ret
 exact ⟨g, w, HL.out, ⟨Q10, Q13 HI0, Q7 HB HI0, Q22 HK⟩⟩
/-- The same, with the state that it makes itself. -/
def spec_DrawPathGraph.f (a0 : List Int) : Option (Int) := (spec_DrawPathGraph.st a0 0 0).bind fun b_ => some b_.1
theorem spec_DrawPathGraph.calls (A0 : Option Addr) (c0 : Nat) (a0 : List Int) (r : Int) (w : World) (hr0 : Kd.C (Kd.int .u8) w A0 a0.length a0) (hc0 : a0.length ≤ c0) (h : spec_DrawPathGraph.f a0 = some r) :
  Calls Try.prog 22 #[.slice A0 a0.length c0] w fun e w' => e = .returned (.int .i64 r) ∧ Below w.heap.size w w' := by
 obtain ⟨⟨r0_, r1_, r2_⟩, h1_, h2_⟩ := Option.bind_eq_some_iff.mp h
 simp only [Option.some.injEq, Prod.mk.injEq] at h2_
 subst h2_
 refine (spec_DrawPathGraph.callsM A0 c0 a0 _ _ _ w hr0 hc0 h1_).mono ?_
 rintro e w' ⟨g_, w_, hL_, ⟨h0_, _, hB_, _⟩⟩
 exact ⟨h0_, hB_⟩
/-! ### spec_l1Cur_marred: function 188 -/
def spec_l1Cur_marred.f (s0_0 : List Int) (s0_1 : Int) (s0_2 : Int) (a1_0 : Int) (l1_1 : List (S71)) : Option (Int × (List (S71)) × Int × Int) := (spec_l1Cur_pick.f s0_0 s0_1 s0_2 50).bind fun bt103 => (if bt103.1 = 0 then ((spec_l1Cur_among.f s0_0 bt103.2.1 bt103.2.2 (([(-1), 8, 9, 0, 4611686018427387904] : List Int))).bind fun bt109 => (some (bt109.1, l1_1, bt109.2.1, bt109.2.2))) else (if bt103.1 = 1 then ((spec_l1Cur_pick.f s0_0 bt103.2.1 bt103.2.2 4).bind fun bt112 => ((spec_l1Cur_pick.f s0_0 bt112.2.1 bt112.2.2 9).bind fun bt115 => (if l1_1.length < 8796093022208 then (some (a1_0, (l1_1 ++ [(⟨bt112.1, wrap64 (bt115.1 - 1)⟩ : S71)]), bt115.2.1, bt115.2.2)) else (none)))) else (if bt103.1 = 2 then (if (l1_1.length : Int) > 0 then ((spec_l1Cur_pick.f s0_0 bt103.2.1 bt103.2.2 (l1_1.length : Int)).bind fun bt121 => (if 0 ≤ bt121.1 then (if bt121.1 < (l1_1.length : Int) then (if l1_1.length < 8796093022208 then (some (a1_0, (l1_1 ++ [(⟨(rd_T71 l1_1 bt121.1).f0, (rd_T71 l1_1 bt121.1).f1⟩ : S71)]), bt121.2.1, bt121.2.2)) else (none)) else (none)) else (none))) else (some (a1_0, l1_1, bt103.2.1, bt103.2.2))) else (some (a1_0, l1_1, bt103.2.1, bt103.2.2)))))
def spec_l1Cur_marred.T5 : Bool × List (List Nat × List Nat) := (true, [([], []), ([0], [0]), ([], []), ([2], [2]), ([], []), ([4, 3], [4]), ([5], [5]), ([3, 6], [3, 6]), ([7], [7]), ([1, 8, 5], [1, 8]), ([0, 1, 2, 3, 4, 5, 6, 7, 8, 9], []), ([10, 9, 9, 0, 1, 2, 3, 4, 5, 6, 7, 8, 9], [9, 10])])
def spec_l1Cur_marred.B5 : List Nat := [0, 1, 0, 4, 0, 28, 60, 124, 252, 511, 1023, 2047]
theorem spec_l1Cur_marred.tab5 : rtab .any (opsOf Try.f188 5) = spec_l1Cur_marred.T5 := by kernel_rfl
theorem spec_l1Cur_marred.bits5 : waitsOk spec_l1Cur_marred.T5.2 spec_l1Cur_marred.B5 = true := by kernel_rfl
def spec_l1Cur_marred.T8 : Bool × List (List Nat × List Nat) := (true, [([], []), ([0], [0]), ([], []), ([2], [2]), ([], []), ([], []), ([5], [5]), ([6], [6]), ([4, 7], [4, 7]), ([3, 8], [3, 8]), ([9], [9]), ([10], [10]), ([1, 11, 8], [1, 11]), ([0, 1, 2, 3, 4, 5, 6, 7, 8, 9, 10, 11, 12], []), ([13, 12, 12, 0, 1, 2, 3, 4, 5, 6, 7, 8, 9, 10, 11, 12], [12, 13])])
def spec_l1Cur_marred.B8 : List Nat := [0, 1, 0, 4, 0, 0, 32, 96, 240, 508, 1020, 2044, 4095, 8191, 16383]
theorem spec_l1Cur_marred.tab8 : rtab .any (opsOf Try.f188 8) = spec_l1Cur_marred.T8 := by kernel_rfl
theorem spec_l1Cur_marred.bits8 : waitsOk spec_l1Cur_marred.T8.2 spec_l1Cur_marred.B8 = true := by kernel_rfl
set_option maxHeartbeats 8000000 in
set_option maxRecDepth 100000 in
theorem spec_l1Cur_marred.calls (g : Nat) (s0_0 : List Int) (s0_1 : Int) (s0_2 : Int) (a1_0 : Int) (P1_1_ : Nat → Prop) (u9000_ : Value) (l1_1 : List (S71)) (r1 : Int) (r2 : List (S71)) (r3 : Int) (r4 : Int) (w0 w : World) (hI : IsS96 w0 w g s0_0 s0_1 s0_2) (hB : Below w0.heap.size w0 w) (ho1_1 : Kd.R k71 71 w w0.heap.size P1_1_ u9000_ l1_1) (h : spec_l1Cur_marred.f s0_0 s0_1 s0_2 a1_0 l1_1 = some (r1, r2, r3, r4)) :
  Calls Try.prog 188 #[.pointer (some ⟨g, 0, none⟩), .agg #[.int .i64 a1_0, u9000_]] w fun e w' => ∃ v1_ : Value, e = .returned (.agg #[.int .i64 r1, v1_]) ∧ Kd.R k71 71 w' w0.heap.size (fun k_ => (P1_1_ k_ ∨ w.heap.size ≤ k_)) v1_ r2 ∧ IsS96 w0 w' g s0_0 r3 r4 ∧ Below w0.heap.size w0 w' ∧ Kept w w' (fun k_ => (P1_1_ k_) ∨ k_ = g) := by
 have hu30 := Try.underlying30
 have hu71 := Try.underlying71
 have HO1_1 := am (show Kd.R k71 71 w w0.heap.size (fun k_ => (P1_1_ k_ ∨ w.heap.size ≤ k_)) u9000_ l1_1 from Kd.R_mono ho1_1 (fun k_ hk => (.inl hk)))
 have HI0 := Aside0.mk hI
 have HL := Aside0.mk hB.size
 clear hI
 have HK := am (Kept.refl w (fun k_ => (P1_1_ k_) ∨ k_ = g))
 have HW0 := Aside0.mk hB.size
 have HB := Aside0.mk hB
 clear hB
 have H : ((spec_l1Cur_pick.f s0_0 s0_1 s0_2 50).bind fun bt103 => (if bt103.1 = 0 then ((spec_l1Cur_among.f s0_0 bt103.2.1 bt103.2.2 (([(-1), 8, 9, 0, 4611686018427387904] : List Int))).bind fun bt109 => (some (bt109.1, l1_1, bt109.2.1, bt109.2.2))) else (if bt103.1 = 1 then ((spec_l1Cur_pick.f s0_0 bt103.2.1 bt103.2.2 4).bind fun bt112 => ((spec_l1Cur_pick.f s0_0 bt112.2.1 bt112.2.2 9).bind fun bt115 => (if l1_1.length < 8796093022208 then (some (a1_0, (l1_1 ++ [(⟨bt112.1, wrap64 (bt115.1 - 1)⟩ : S71)]), bt115.2.1, bt115.2.2)) else (none)))) else (if bt103.1 = 2 then (if (l1_1.length : Int) > 0 then ((spec_l1Cur_pick.f s0_0 bt103.2.1 bt103.2.2 (l1_1.length : Int)).bind fun bt121 => (if 0 ≤ bt121.1 then (if bt121.1 < (l1_1.length : Int) then (if l1_1.length < 8796093022208 then (some (a1_0, (l1_1 ++ [(⟨(rd_T71 l1_1 bt121.1).f0, (rd_T71 l1_1 bt121.1).f1⟩ : S71)]), bt121.2.1, bt121.2.2)) else (none)) else (none)) else (none))) else (some (a1_0, l1_1, bt103.2.1, bt103.2.2))) else (some (a1_0, l1_1, bt103.2.1, bt103.2.2)))))) = some (r1, r2, r3, r4) := h
 clear h
 replace H := (ob H)
 obtain ⟨⟨t103, t104, t105⟩, A30, H⟩ := H
 (try dsimp only at H)
 have A3 := Aside0.mk A30
 clear A30
 have HU4 := Aside0.mk H
 clear H
 obtain ⟨Ao5, co5, eo5⟩ := Kd.R_slice HO1_1.out
 subst eo5
 go_enter Try.func188, Try.ntmps188
 go_upto_if 7 with (first | ((with_reducible refine gate_dst (N := 3) rfl ?_); refine box_event ?hg (N := 3) ?hd (cs := #[.int .i64 a1_0, .slice Ao5 l1_1.length co5]) (t := 30) ?hr ?_; (case hd => rfl); (case hg => rfl); (case hr => first | (go_simp; done) | (go_simp; rfl)); intro gb101 hg w6 hbox hb; replace HO1_1 := am (Kd.R_below (Q6 HO1_1) hb); have BK101 := am (hbox); have GW101 := am ((by rw [hg]; exact (by first | exact HK.out.1 | exact (show Kept w _ (fun k_ => (P1_1_ k_) ∨ k_ = g) from by repeat (first | (with_reducible first | exact HK.out | apply Kept.alloc | apply Kept.drewN | apply Kept.drew | refine Kept.setCell ?_ (.inl (.inr rfl)) _) | exact HK.out)).1) : w.heap.size ≤ gb101)); replace HK := am (Kept.below (S := (fun k_ => (P1_1_ k_) ∨ k_ = g)) (by repeat (first | (with_reducible first | exact HK.out | apply Kept.alloc | apply Kept.drewN | apply Kept.drew | refine Kept.setCell ?_ (.inl (.inr rfl)) _) | exact HK.out)) hb); have GE101 := am ((by rw [hg]; exact (below_size (Q7 HB HI0)) : w0.heap.size ≤ gb101)); replace HB := am (below_step (Q7 HB HI0) hb); have NB0_101 := am ((by rw [hg]; exact Nat.ne_of_lt (IsS96.lt (show IsS96 w0 _ g s0_0 s0_1 s0_2 from Q13 HI0)) : g ≠ gb101)); have NB101_0 := am ((by rw [hg]; exact Nat.ne_of_gt (IsS96.lt (show IsS96 w0 _ g s0_0 s0_1 s0_2 from Q13 HI0)) : gb101 ≠ g)); replace HI0 := am (IsS96.below (Q13 HI0) hb); clear hb hbox hg) | ((with_reducible refine gate_dst (N := 4) rfl ?_); refine box_event ?hg (N := 4) ?hd (cs := #[.int .i64 0, .slice none 0 0]) (t := 30) ?hr ?_; (case hd => rfl); (case hg => rfl); (case hr => first | (go_simp; done) | (go_simp; rfl)); intro gb102 hg w7 hbox hb; replace HO1_1 := am (Kd.R_below (Q6 HO1_1) hb); have BK102 := am (hbox); have GW102 := am ((by rw [hg]; exact (by first | exact HK.out.1 | exact (show Kept w _ (fun k_ => (P1_1_ k_) ∨ k_ = g) from Q174 HK GW101).1) : w.heap.size ≤ gb102)); replace HK := am (Kept.below (S := (fun k_ => (P1_1_ k_) ∨ k_ = g)) (Q174 HK GW101) hb); have GE102 := am ((by rw [hg]; exact (below_size (Q7 HB HI0)) : w0.heap.size ≤ gb102)); replace HB := am (below_step (Q7 HB HI0) hb); have NB101_102 := am ((by rw [hg]; exact Nat.ne_of_lt (blk_lt (g := gb101) (o := .cells #[.int .i64 a1_0, .slice Ao5 l1_1.length co5] 30 (0, 0)) (Q0 BK101)) : gb101 ≠ gb102)); have NB102_101 := am ((by rw [hg]; exact Nat.ne_of_gt (blk_lt (g := gb101) (o := .cells #[.int .i64 a1_0, .slice Ao5 l1_1.length co5] 30 (0, 0)) (Q0 BK101)) : gb102 ≠ gb101)); replace BK101 := am (blk_below (g := gb101) (o := .cells #[.int .i64 a1_0, .slice Ao5 l1_1.length co5] 30 (0, 0)) (Q0 BK101) hb); have NB0_102 := am ((by rw [hg]; exact Nat.ne_of_lt (IsS96.lt (show IsS96 w0 _ g s0_0 s0_1 s0_2 from Q17 HI0 NB0_101)) : g ≠ gb102)); have NB102_0 := am ((by rw [hg]; exact Nat.ne_of_gt (IsS96.lt (show IsS96 w0 _ g s0_0 s0_1 s0_2 from Q17 HI0 NB0_101)) : gb102 ≠ g)); replace HI0 := am (IsS96.below (Q17 HI0 NB0_101) hb); clear hb hbox hg) | ((with_reducible refine gate_callee (f := 141) rfl ?_); refine goesL_ (some 6) rfl rfl Try.func141 (by kernel_rfl) rfl #[.pointer (some ⟨g, 0, none⟩), .int .i64 50] rfl Q3 ?_; (with_reducible refine (spec_l1Cur_pick.calls g s0_0 s0_1 s0_2 50 t103 t104 t105 w0 _ ?side1 ?side2 A3.out).mono ?_); (case side1 => exact (Q4 HI0 NB0_101 NB0_102)); (case side2 => exact (Q7 HB HI0)); rintro e w8 ⟨rfl, hi, hb, hk⟩; refine ⟨_, rfl, ?_⟩; replace HO1_1 := am (Kd.R_mono (Kd.R_keep (IsS96.apart (show IsS96 w0 _ g s0_0 s0_1 s0_2 from Q4 HI0 NB0_101 NB0_102) (Q6 HO1_1) (by decide)) hk (fun _ h => h.2)) (fun _ h => h.1)); replace BK101 := am (KeepBut.blk hk (g' := gb101) (o := .cells #[.int .i64 a1_0, .slice Ao5 l1_1.length co5] 30 (0, 0)) (Q0 BK101) NB101_0.out (by simp)); replace BK102 := am (KeepBut.blk hk (g' := gb102) (o := .cells #[.int .i64 0, .slice none 0 0] 30 (0, 0)) (Q0 BK102) NB102_0.out (by simp)); replace HK := am (Kept.of_keep (S := (fun k_ => (P1_1_ k_) ∨ k_ = g)) (Q14 HK GW101 GW102) hk (.inl (.inr rfl))); replace HB := am (hb); replace HI0 := am (hi); (try clear hb); (try clear hb2); (try clear hk); (try clear hi)))
 (try simp only [Act.put, List.setIfInBounds_toArray, List.set_cons_zero, List.set_cons_succ])
 have H := HU4.out
 clear HU4
 by_cases c9 : t103 = 0
 ·rw [if_pos c9] at H
  have c9b0 := beq_iff_eq.mpr c9; have c9b1 := bne_eq_false_iff_eq.mpr c9; clear c9
  (first | rw [c9b0] | (simp only [i64_w, i32_w]; rw [c9b0]) | rw [c9b1] | skip)
  obtain ⟨y106, hy106⟩ : ∃ y_ : List Int, y_ = (([(-1), 8, 9, 0, 4611686018427387904] : List Int)) := ⟨_, rfl⟩; replace H : ((spec_l1Cur_among.f s0_0 t104 t105 y106).bind fun bt109 => (some (bt109.1, l1_1, bt109.2.1, bt109.2.2))) = some (r1, r2, r3, r4) := RH hy106 H; have Ny106 := Aside0.mk hy106; clear hy106; replace H := (ob H); obtain ⟨⟨t109, t110, t111⟩, A100, H⟩ := H; (try dsimp only at H); have A10 := Aside0.mk A100; clear A100
  simp only [Option.some.injEq, Prod.mk.injEq] at H
  obtain ⟨rfl, rfl, rfl, rfl⟩ := H
  go_wp2_with (first | ((with_reducible refine gate_dst (N := 10) rfl ?_); refine Kd.R_lit (Kd.int .i64) _ 3 ?hg (N := 10) ?hd (xs := ([(-1), 8, 9, 0, 4611686018427387904] : List Int)) (inner := [.int .i64 (-1), .int .i64 8, .int .i64 9, .int .i64 0, .int .i64 4611686018427387904]) (ok := fun _ => True) (okp := fun _ => True) ?hr ?hp (fun _ hk => hk) trivial (Below.refl _ _) (Nat.le_refl _) (by simp) ?_; (case hd => rfl); (case hg => rfl); (case hr => first | (go_simp; done) | (go_simp; rfl)); (case hp => exact (Reps.one (show Kd.M (Kd.int .i64) _ _ _ (-1) [.int .i64 (-1)] from rfl) (Reps.one (show Kd.M (Kd.int .i64) _ _ _ 8 [.int .i64 8] from rfl) (Reps.one (show Kd.M (Kd.int .i64) _ _ _ 9 [.int .i64 9] from rfl) (Reps.one (show Kd.M (Kd.int .i64) _ _ _ 0 [.int .i64 0] from rfl) (Reps.one (show Kd.M (Kd.int .i64) _ _ _ 4611686018427387904 [.int .i64 4611686018427387904] from rfl) (Reps.none _ _))))))); intro v107 w11 ho12 hb hg_ hnew_; clear hg_ hnew_; (first | rw [← Ny106.out] at ho12 | (simp only [Int.reduceToNat] at ho12; rw [← Ny106.out] at ho12)); replace HO1_1 := am (Kd.R_below (Q6 HO1_1) hb); have HO108 := am (Kd.R_lower (Kd.R_newM (M := fun k_ => (P1_1_ k_ ∨ w.heap.size ≤ k_)) ho12 (Q167 HK) (fun k_ h_ => .inr h_)) (below_size (Q7 HB HI0))); replace BK101 := am (blk_below (g := gb101) (o := .cells #[.int .i64 a1_0, .slice Ao5 l1_1.length co5] 30 (0, 0)) (Q0 BK101) hb); replace BK102 := am (blk_below (g := gb102) (o := .cells #[.int .i64 0, .slice none 0 0] 30 (0, 0)) (Q0 BK102) hb); replace HK := am (Kept.below (S := (fun k_ => (P1_1_ k_) ∨ k_ = g)) (Q14 HK GW101 GW102) hb); replace HB := am (below_step (Q7 HB HI0) hb); replace HI0 := am (IsS96.below (Q4 HI0 NB0_101 NB0_102) hb); clear hb ho12; obtain ⟨Ao13, co13, eo13⟩ := Kd.R_slice HO108.out; subst eo13) | ((with_reducible refine gate_callee (f := 106) rfl ?_); refine goesL_ (some 11) rfl rfl Try.func106 (by kernel_rfl) rfl #[.pointer (some ⟨g, 0, none⟩), .slice Ao13 y106.length co13] rfl Q3 ?_; (with_reducible refine (spec_l1Cur_among.calls g s0_0 t104 t105 _ _ y106 t109 t110 t111 w0 _ ?side1 ?side2 ?side3 ?side4 ?side5 A10.out).mono ?_); (case side1 => exact (Q4 HI0 NB0_101 NB0_102)); (case side2 => exact (Q7 HB HI0)); (case side3 => exact (Q36 HO108)); (case side4 => exact (Kd.R_reads' HO108.out).2.1); (case side5 => exact far_slice (IsS96.own_ne HI0.out HO108.out (by decide))); rintro e w14 ⟨rfl, hi, hb, hk⟩; refine ⟨_, rfl, ?_⟩; replace HO1_1 := am (Kd.R_mono (Kd.R_keep (IsS96.apart (show IsS96 w0 _ g s0_0 t104 t105 from Q4 HI0 NB0_101 NB0_102) (Q6 HO1_1) (by decide)) hk (fun _ h => h.2)) (fun _ h => h.1)); replace BK101 := am (KeepBut.blk hk (g' := gb101) (o := .cells #[.int .i64 a1_0, .slice Ao5 l1_1.length co5] 30 (0, 0)) (Q0 BK101) NB101_0.out (by simp)); replace BK102 := am (KeepBut.blk hk (g' := gb102) (o := .cells #[.int .i64 0, .slice none 0 0] 30 (0, 0)) (Q0 BK102) NB102_0.out (by simp)); replace HO108 := am (Kd.R_mono (Kd.R_keep (IsS96.apart (show IsS96 w0 _ g s0_0 t104 t105 from Q4 HI0 NB0_101 NB0_102) (Q6 HO108) (by decide)) hk (fun _ h => h.2)) (fun _ h => h.1)); replace HK := am (Kept.of_keep (S := (fun k_ => (P1_1_ k_) ∨ k_ = g)) (Q14 HK GW101 GW102) hk (.inl (.inr rfl))); replace HB := am (hb); replace HI0 := am (hi); (try clear hb); (try clear hb2); (try clear hk); (try clear hi); have hnb15 := NB101_102.out; have hnc15 := NB102_101.out; have hnb16 := NB101_0.out; have hnc16 := NB0_101.out; have hcz17_0 : w14.cell? ⟨gb101, 0, none⟩ = some (.int .i64 a1_0) := (blk_cell BK101.out 0).trans rfl; have hcz17_1 : w14.cell? ⟨gb101, 1, none⟩ = some (.slice Ao5 l1_1.length co5) := (blk_cell BK101.out 1).trans rfl; have hfz17_0 := blk_frozen BK101.out 0; have hfz17_1 := blk_frozen BK101.out 1; have hnb18 := NB102_0.out; have hnc18 := NB0_102.out; have hcz19_0 : w14.cell? ⟨gb102, 0, none⟩ = some (.int .i64 0) := (blk_cell BK102.out 0).trans rfl; have hcz19_1 : w14.cell? ⟨gb102, 1, none⟩ = some (.slice none 0 0) := (blk_cell BK102.out 1).trans rfl; have hfz19_0 := blk_frozen BK102.out 0; have hfz19_1 := blk_frozen BK102.out 1))
  refine bodyPost_ret (results_cell_row rfl _ _ gb102 30 #[.int .i64 t109, .slice Ao5 l1_1.length co5] (0, 0) _ rfl (by (with_reducible repeat (first | refine blk_drewN ?_ _ | refine blk_drew ?_ | refine blk_alloc ?_ _)); refine blk_put (cs := #[.int .i64 t109, .slice none 0 0]) ?_ 1 _ rfl; (with_reducible repeat (first | refine blk_drewN ?_ _ | refine blk_drew ?_ | refine blk_alloc ?_ _)); refine blk_put (cs := #[.int .i64 0, .slice none 0 0]) ?_ 0 _ rfl; (with_reducible repeat (first | refine blk_drewN ?_ _ | refine blk_drew ?_ | refine blk_alloc ?_ _)); refine blk_far ?_ NB102_101.out _; (with_reducible repeat (first | refine blk_drewN ?_ _ | refine blk_drew ?_ | refine blk_alloc ?_ _)); exact BK102.out) Try.underlying30 rfl (by kernel_rfl)) rfl ?_; exact ⟨_, Q10, by (with_reducible repeat (first | apply Kd.R_alloc | apply Kd.R_drewN | apply Kd.R_drew)); exact Kd.R_mono (Kd.R_far (p := ⟨gb102, 1, none⟩) (Kd.R_far (p := ⟨gb102, 0, none⟩) (Kd.R_far (p := ⟨gb101, 0, none⟩) (Kd.R_types (Kd.R_types HO1_1.out BK101.out (by decide)) BK102.out (by decide)) (fun _ hk => hk.1.2) (.int .i64 t109)) (fun _ hk => hk.2) (.int .i64 t109)) (fun _ hk => hk.2) (.slice Ao5 l1_1.length co5)) (fun _ hk => hk.1.1), Q4 HI0 NB0_101 NB0_102, Q84 HB HI0 GE101 GE102, Q14 HK GW101 GW102⟩
 ·rw [if_neg c9] at H
  have c9b0 := beq_eq_false_iff_ne.mpr c9; have c9b1 := bne_iff_ne.mpr c9
  (first | rw [c9b0] | (simp only [i64_w, i32_w]; rw [c9b0]) | rw [c9b1] | skip)
  by_cases c20 : t103 = 1
  ·rw [if_pos c20] at H
   have c20b0 := beq_iff_eq.mpr c20; have c20b1 := bne_eq_false_iff_eq.mpr c20; clear c20; replace H := (ob H); obtain ⟨⟨t112, t113, t114⟩, A210, H⟩ := H; (try dsimp only at H); have A21 := Aside0.mk A210; clear A210; replace H := (ob H); obtain ⟨⟨t115, t116, t117⟩, A220, H⟩ := H; (try dsimp only at H); have A22 := Aside0.mk A220; clear A220
   by_cases c23 : l1_1.length < 8796093022208
   ·rw [if_pos c23] at H
    have LMc23 := Aside0.mk c23; clear c23; obtain ⟨y118, hy118⟩ : ∃ y_ : List (S71), y_ = (l1_1 ++ [(⟨t112, wrap64 (t115 - 1)⟩ : S71)]) := ⟨_, rfl⟩; replace H : (some (a1_0, y118, t116, t117)) = some (r1, r2, r3, r4) := RH hy118 H; have Ny118 := Aside0.mk hy118; clear hy118
    simp only [Option.some.injEq, Prod.mk.injEq] at H
    obtain ⟨rfl, rfl, rfl, rfl⟩ := H
    try go_wp2
    replace HO1_1 := am (Kd.R_drew HO1_1.out); replace BK101 := am (blk_drew BK101.out); replace BK102 := am (blk_drew BK102.out); replace HI0 := am (IsS96.drew HI0.out); replace HK := am (Kept.drew HK.out); replace HB := am (below_drew1 HB.out); refine start_ (n := 12) (S := fun w' => w'.cell? ⟨gb101, 0, none⟩ = some (.int .i64 a1_0) ∧ w'.cell? ⟨gb101, 1, none⟩ = some (.slice Ao5 l1_1.length co5)) (ds := [11]) #[false, false, false, false, false, false, false, false, false, false, false, false] (by kernel_rfl) rfl rfl ⟨(blk_cell BK101.out 0).trans rfl, (blk_cell BK101.out 1).trans rfl⟩ (fun hHeld => ?_); refine with_tabW spec_l1Cur_marred.tab5 spec_l1Cur_marred.bits5 (fun HT_ HW_ => ?_); generalize w8.drew = w24 at HO1_1 BK101 BK102 HI0 HK HB hHeld ⊢; refine pq 0 15 rfl rfl HT_ ?_; refine pq 2 17 rfl rfl HT_ ?_; refine pq 4 19 rfl rfl HT_ ?_; refine tq2 1 16 rfl rfl HT_ HW_ hHeld ?_; refine oq 3 18 rfl rfl HT_ (fun K hK => ?_); refine goes_ Try.func141 (by kernel_rfl) rfl #[.pointer (some ⟨g, 0, none⟩), .int .i64 4] (by rfl) rfl rfl Q3 ?_
    with_reducible refine (spec_l1Cur_pick.calls g s0_0 t104 t105 4 t112 t113 t114 w0 _ ?side1 ?side2 A21.out).mono ?_
    (case side1 => exact (Q4 HI0 NB0_101 NB0_102))
    (case side2 => exact (Q7 HB HI0))
    rintro e w25 ⟨rfl, hi, hb, hk⟩; refine ⟨_, rfl, ?_⟩; replace HO1_1 := am (Kd.R_mono (Kd.R_keep (IsS96.apart (show IsS96 w0 _ g s0_0 t104 t105 from Q4 HI0 NB0_101 NB0_102) (Q6 HO1_1) (by decide)) hk (fun _ h => h.2)) (fun _ h => h.1)); replace BK101 := am (KeepBut.blk hk (g' := gb101) (o := .cells #[.int .i64 a1_0, .slice Ao5 l1_1.length co5] 30 (0, 0)) (Q0 BK101) NB101_0.out (by simp)); replace BK102 := am (KeepBut.blk hk (g' := gb102) (o := .cells #[.int .i64 0, .slice none 0 0] 30 (0, 0)) (Q0 BK102) NB102_0.out (by simp)); replace HK := am (Kept.of_keep (S := (fun k_ => (P1_1_ k_) ∨ k_ = g)) (Q14 HK GW101 GW102) hk (.inl (.inr rfl))); replace HB := am (hb); replace HI0 := am (hi); (try clear hb); (try clear hb2); (try clear hk); (try clear hi); refine hK.out _ _ ⟨(blk_cell BK101.out 0).trans rfl, (blk_cell BK101.out 1).trans rfl⟩ (fun hHeld => ?_); clear hK K; refine norm_ (a' := ?_) ?_ ?_
    rotate_left
    ·show Act.put _ (some 18) _ = _
     simp only [Act.put, List.setIfInBounds_toArray, List.set_cons_zero, List.set_cons_succ, i64_w, i32_w]
     rfl
    refine oq 5 20 rfl rfl HT_ (fun K hK => ?_); refine goes_ Try.func141 (by kernel_rfl) rfl #[.pointer (some ⟨g, 0, none⟩), .int .i64 9] (by rfl) rfl rfl Q3 ?_
    with_reducible refine (spec_l1Cur_pick.calls g s0_0 t113 t114 9 t115 t116 t117 w0 _ ?side1 ?side2 A22.out).mono ?_
    (case side1 => exact (Q4 HI0 NB0_101 NB0_102))
    (case side2 => exact (Q7 HB HI0))
    rintro e w26 ⟨rfl, hi, hb, hk⟩; refine ⟨_, rfl, ?_⟩; replace HO1_1 := am (Kd.R_mono (Kd.R_keep (IsS96.apart (show IsS96 w0 _ g s0_0 t113 t114 from Q4 HI0 NB0_101 NB0_102) (Q6 HO1_1) (by decide)) hk (fun _ h => h.2)) (fun _ h => h.1)); replace BK101 := am (KeepBut.blk hk (g' := gb101) (o := .cells #[.int .i64 a1_0, .slice Ao5 l1_1.length co5] 30 (0, 0)) (Q0 BK101) NB101_0.out (by simp)); replace BK102 := am (KeepBut.blk hk (g' := gb102) (o := .cells #[.int .i64 0, .slice none 0 0] 30 (0, 0)) (Q0 BK102) NB102_0.out (by simp)); replace HK := am (Kept.of_keep (S := (fun k_ => (P1_1_ k_) ∨ k_ = g)) (Q14 HK GW101 GW102) hk (.inl (.inr rfl))); replace HB := am (hb); replace HI0 := am (hi); (try clear hb); (try clear hb2); (try clear hk); (try clear hi); refine hK.out _ _ ⟨(blk_cell BK101.out 0).trans rfl, (blk_cell BK101.out 1).trans rfl⟩ (fun hHeld => ?_); clear hK K; refine norm_ (a' := ?_) ?_ ?_
    rotate_left
    ·show Act.put _ (some 20) _ = _
     simp only [Act.put, List.setIfInBounds_toArray, List.set_cons_zero, List.set_cons_succ, i64_w, i32_w]
     rfl
    refine pq 6 21 rfl rfl HT_ ?_; refine pq 7 22 rfl rfl HT_ ?_; refine oq 8 23 rfl rfl HT_ (fun K hK => ?_); refine value_ (w1 := ?_) (v := ?_) (by rfl) rfl ?_ ?_
    rotate_left 2
    ·go_simp
     constructor
     ·rfl
     ·rfl
    refine hK.out _ _ ⟨(blk_cell (blk_alloc BK101.out _) 0).trans rfl, (blk_cell (blk_alloc BK101.out _) 1).trans rfl⟩ (fun hHeld => ?_); clear hK K; refine norm_ (a' := ?_) ?_ ?_
    rotate_left
    ·show Act.put _ (some 23) _ = _
     simp only [Act.put, List.setIfInBounds_toArray, List.set_cons_zero, List.set_cons_succ, i64_w, i32_w]
     rfl
    refine oq 9 24 rfl rfl HT_ (fun K hK => ?_); refine Kd.R_append_step k71 (w0 := w0) w0.heap.size (by rfl) (.tmp 16) (.tmp 23) 22 71 (.agg #[(.int .i64 0), (.int .i64 0)]) 16 rfl Try.underlying22 info71 rfl (by decide) (by omega) (.slice Ao5 l1_1.length co5) l1_1 (⟨t112, wrap64 (t115 - 1)⟩ : S71) [.int .i64 t112, .int .i64 (wrap64 (t115 - 1))] (fun k_ => (P1_1_ k_ ∨ w.heap.size ≤ k_)) (fun _ => False) rfl rfl ?aP (fun _ hk => hk.elim) ?aF ?aO ?aB ?aS ?aL ?_
    (case aP => exact k71_mkM _ _ _ (⟨t112, wrap64 (t115 - 1)⟩ : S71))
    (case aB => exact (Q7 HB HI0))
    (case aF => exact (fun k_ hk => (.inr (Nat.le_trans (Q167 HK) hk))))
    (case aO => exact (Q6 HO1_1))
    (case aS => exact (below_size (Q7 HB HI0)))
    (case aL => have := LMc23.out; omega)
    intro v119 w27 ho hb hg hat; rw [← Ny118.out] at ho; replace HI0 := am (IsS96.grown (Q4 HI0 NB0_101 NB0_102) hg (IsS96.own_ne HI0.out HO1_1.out (by decide))); replace BK101 := am (blk_grown (g := gb101) (o := .cells #[.int .i64 a1_0, .slice Ao5 l1_1.length co5] 30 (0, 0)) (Q0 BK101) hg (Kd.R_ne HO1_1.out BK101.out (by decide))); replace BK102 := am (blk_grown (g := gb102) (o := .cells #[.int .i64 0, .slice none 0 0] 30 (0, 0)) (Q0 BK102) hg (Kd.R_ne HO1_1.out BK102.out (by decide))); replace HB := am (hb); replace HK := am (Kept.of_grown (S := (fun k_ => (P1_1_ k_) ∨ k_ = g)) hg (Q14 HK GW101 GW102) (fun k_ e_ => Or.imp_left Or.inl ((HO1_1.out.1 k_ e_)))); have HO120 := am (ho); clear HO1_1; clear ho hb hg hat; obtain ⟨Ao28, co28, eo28⟩ := Kd.R_slice HO120.out
    (first | subst eo28 | (injection eo28 with f1_ f2_ f3_; have f4_ := f1_.symm; have f5_ := f3_.symm; clear f1_ f2_ f3_; subst f4_; subst f5_))
    refine hK.out _ _ ⟨(blk_cell BK101.out 0).trans rfl, (blk_cell BK101.out 1).trans rfl⟩ (fun hHeld => ?_); clear hK K; refine norm_ (a' := ?_) ?_ ?_
    rotate_left
    ·show Act.put _ (some 24) _ = _
     simp only [Act.put, List.setIfInBounds_toArray, List.set_cons_zero, List.set_cons_succ, i64_w, i32_w]
     rfl
    refine pq 10 25 rfl rfl HT_ ?_; refine last_ (i := 11) (N := none) #[true, true, true, true, true, true, true, true, true, true, true, true] rfl rfl (one_of HT_.out (by kernel_rfl)) (by decide) (fun K hK => ?_); have hs29 : w27.cell? ⟨gb101, 1, none⟩ = some (.slice Ao5 l1_1.length co5) := (blk_cell BK101.out 1).trans rfl; have hfs29 := blk_frozen BK101.out 1; have hns29_1 := NB102_101.out; have hms29_1 := NB101_102.out; refine skip_ (w1 := ?_) (by rfl) rfl ?_ ?_
    rotate_left
    ·go_simp
     rfl
    refine hK.out _ _ ?_; clear hK K; refine done_ (done_of HT_.out (by kernel_rfl)) ?_; have hnb30 := NB101_102.out; have hnc30 := NB102_101.out; have hnb31 := NB101_0.out; have hnc31 := NB0_101.out; have hcz32_0 : w27.cell? ⟨gb101, 0, none⟩ = some (.int .i64 a1_0) := (blk_cell BK101.out 0).trans rfl; have hcz32_1 : w27.cell? ⟨gb101, 1, none⟩ = some (.slice Ao5 l1_1.length co5) := (blk_cell BK101.out 1).trans rfl; have hfz32_0 := blk_frozen BK101.out 0; have hfz32_1 := blk_frozen BK101.out 1; have hnb33 := NB102_0.out; have hnc33 := NB0_102.out; have hcz34_0 : w27.cell? ⟨gb102, 0, none⟩ = some (.int .i64 0) := (blk_cell BK102.out 0).trans rfl; have hcz34_1 : w27.cell? ⟨gb102, 1, none⟩ = some (.slice none 0 0) := (blk_cell BK102.out 1).trans rfl; have hfz34_0 := blk_frozen BK102.out 0; have hfz34_1 := blk_frozen BK102.out 1
    try go_wp2
    refine bodyPost_ret (results_cell_row rfl _ _ gb102 30 #[.int .i64 a1_0, .slice Ao28 y118.length co28] (0, 0) _ rfl (Q86 NB102_101 BK102) Try.underlying30 rfl (by kernel_rfl)) rfl ?_; exact ⟨_, Q10, by (with_reducible repeat (first | apply Kd.R_alloc | apply Kd.R_drewN | apply Kd.R_drew)); exact Kd.R_mono (Kd.R_far (p := ⟨gb102, 1, none⟩) (Kd.R_far (p := ⟨gb102, 0, none⟩) (Kd.R_far (p := ⟨gb101, 1, none⟩) (Kd.R_types (Kd.R_types HO120.out BK101.out (by decide)) BK102.out (by decide)) (fun _ hk => hk.1.2) (.slice Ao28 y118.length co28)) (fun _ hk => hk.2) (.int .i64 a1_0)) (fun _ hk => hk.2) (.slice Ao28 y118.length co28)) (fun _ hk => hk.1.1), Q4 HI0 NB0_101 NB0_102, Q84 HB HI0 GE101 GE102, Q14 HK GW101 GW102⟩
   ·rw [if_neg c23] at H
    exact absurd H (by simp)
  ·rw [if_neg c20] at H
   have c20b0 := beq_eq_false_iff_ne.mpr c20; have c20b1 := bne_iff_ne.mpr c20
   by_cases c35 : t103 = 2
   ·rw [if_pos c35] at H
    have c35b0 := beq_iff_eq.mpr c35; have c35b1 := bne_eq_false_iff_eq.mpr c35; clear c35
    by_cases c36 : (l1_1.length : Int) > 0
    ·rw [if_pos c36] at H
     have c36b0 : decide (0 < (l1_1.length : Int)) = true := decide_eq_true c36; have c36b1 : decide (0 < l1_1.length) = true := decide_eq_true (by omega); clear c36; replace H := (ob H); obtain ⟨⟨t121, t122, t123⟩, A370, H⟩ := H; (try dsimp only at H); have A37 := Aside0.mk A370; clear A370
     by_cases c38 : 0 ≤ t121
     ·rw [if_pos c38] at H
      have c38b0 := decide_eq_true c38; clear c38
      by_cases c39 : t121 < (l1_1.length : Int)
      ·rw [if_pos c39] at H
       have c39b0 := decide_eq_true c39; clear c39
       by_cases c40 : l1_1.length < 8796093022208
       ·rw [if_pos c40] at H
        have LMc40 := Aside0.mk c40; clear c40; obtain ⟨y125, hy125⟩ : ∃ y_ : List (S71), y_ = (l1_1 ++ [(⟨(rd_T71 l1_1 t121).f0, (rd_T71 l1_1 t121).f1⟩ : S71)]) := ⟨_, rfl⟩; replace H : (some (a1_0, y125, t122, t123)) = some (r1, r2, r3, r4) := RH hy125 H; have Ny125 := Aside0.mk hy125; clear hy125
        simp only [Option.some.injEq, Prod.mk.injEq] at H
        obtain ⟨rfl, rfl, rfl, rfl⟩ := H; have hnb41 := NB101_102.out; have hnc41 := NB102_101.out; have hnb42 := NB101_0.out; have hnc42 := NB0_101.out; have hcz43_0 : w8.cell? ⟨gb101, 0, none⟩ = some (.int .i64 a1_0) := (blk_cell BK101.out 0).trans rfl; have hcz43_1 : w8.cell? ⟨gb101, 1, none⟩ = some (.slice Ao5 l1_1.length co5) := (blk_cell BK101.out 1).trans rfl; have hfz43_0 := blk_frozen BK101.out 0; have hfz43_1 := blk_frozen BK101.out 1
        try go_wp2
        replace HO1_1 := am (Kd.R_drew HO1_1.out); replace BK101 := am (blk_drew BK101.out); replace BK102 := am (blk_drew BK102.out); replace HI0 := am (IsS96.drew HI0.out); replace HK := am (Kept.drew HK.out); replace HB := am (below_drew1 HB.out); have p124 : 0 ≤ (t121 : Int) := of_decide_eq_true Q12; have q124 : t121 < (l1_1.length : Int) := of_decide_eq_true Q12; obtain ⟨ad124, e124, hx124_0, hx124_1⟩ := at_T71 (Kd.R_reads' HO1_1.out).2.2 t121 p124 q124
        cases e124
        replace p124 := eq_true p124; replace q124 := eq_true q124; refine start_ (n := 15) (S := fun w' => w'.cell? ⟨gb101, 0, none⟩ = some (.int .i64 a1_0) ∧ w'.cell? ⟨gb101, 1, none⟩ = some (.slice (some ad124) l1_1.length co5) ∧ w'.cell? (ad124.add ((t121).toNat * 2)) = some (.int .i64 ((rd_T71 l1_1 t121).f0)) ∧ w'.cell? ⟨(ad124.add ((t121).toNat * 2)).block, (ad124.add ((t121).toNat * 2)).off + 1, none⟩ = some (.int .i64 ((rd_T71 l1_1 t121).f1))) (ds := [12, 14]) #[false, false, false, false, false, false, false, false, false, false, false, false, false, false, false] (by kernel_rfl) rfl rfl ⟨(blk_cell BK101.out 0).trans rfl, (blk_cell BK101.out 1).trans rfl, hx124_0, hx124_1⟩ (fun hHeld => ?_); refine with_tabW spec_l1Cur_marred.tab8 spec_l1Cur_marred.bits8 (fun HT_ HW_ => ?_); generalize w8.drew = w44 at HO1_1 BK101 BK102 HI0 HK HB hx124_0 hx124_1 hHeld ⊢; refine pq 0 32 rfl rfl HT_ ?_; refine pq 2 34 rfl rfl HT_ ?_; refine pq 4 36 rfl rfl HT_ ?_; refine pq 5 37 rfl rfl HT_ ?_; refine tq4 1 33 rfl rfl HT_ HW_ hHeld ?_; refine tq4 3 35 rfl rfl HT_ HW_ hHeld ?_; refine tq4 6 38 rfl rfl HT_ HW_ hHeld ?_; refine pq 7 39 rfl rfl HT_ ?_; refine oq 8 40 rfl rfl HT_ (fun K hK => ?_); refine goes_ Try.func141 (by kernel_rfl) rfl #[.pointer (some ⟨g, 0, none⟩), .int .i64 (l1_1.length : Int)] (by rfl) rfl rfl Q3 ?_
        with_reducible refine (spec_l1Cur_pick.calls g s0_0 t104 t105 (l1_1.length : Int) t121 t122 t123 w0 _ ?side1 ?side2 A37.out).mono ?_
        (case side1 => exact (Q4 HI0 NB0_101 NB0_102))
        (case side2 => exact (Q7 HB HI0))
        rintro e w45 ⟨rfl, hi, hb, hk⟩; have HS2_ := keep_cell hk (hHeld.2.2.1) (Q166 HI0 HO1_1); have HS3_ := keep_cell hk (hHeld.2.2.2) (Q166 HI0 HO1_1); refine ⟨_, rfl, ?_⟩; replace HO1_1 := am (Kd.R_mono (Kd.R_keep (IsS96.apart (show IsS96 w0 _ g s0_0 t104 t105 from Q4 HI0 NB0_101 NB0_102) (Q6 HO1_1) (by decide)) hk (fun _ h => h.2)) (fun _ h => h.1)); replace BK101 := am (KeepBut.blk hk (g' := gb101) (o := .cells #[.int .i64 a1_0, .slice (some ad124) l1_1.length co5] 30 (0, 0)) (Q0 BK101) NB101_0.out (by simp)); replace BK102 := am (KeepBut.blk hk (g' := gb102) (o := .cells #[.int .i64 0, .slice none 0 0] 30 (0, 0)) (Q0 BK102) NB102_0.out (by simp)); replace HK := am (Kept.of_keep (S := (fun k_ => (P1_1_ k_) ∨ k_ = g)) (Q14 HK GW101 GW102) hk (.inl (.inr rfl))); replace HB := am (hb); replace HI0 := am (hi); (try clear hb); (try clear hb2); (try clear hk); (try clear hi); refine hK.out _ _ ⟨(blk_cell BK101.out 0).trans rfl, (blk_cell BK101.out 1).trans rfl, HS2_, HS3_⟩ (fun hHeld => ?_); clear hK K; refine norm_ (a' := ?_) ?_ ?_
        rotate_left
        ·show Act.put _ (some 40) _ = _
         simp only [Act.put, List.setIfInBounds_toArray, List.set_cons_zero, List.set_cons_succ, i64_w, i32_w]
         rfl
        refine pq 9 41 rfl rfl HT_ ?_; refine tq4 10 42 rfl rfl HT_ HW_ hHeld ?_; refine oq 11 43 rfl rfl HT_ (fun K hK => ?_); refine value_ (w1 := ?_) (v := ?_) (by rfl) rfl ?_ ?_
        rotate_left 2
        ·go_simp
         constructor
         ·rfl
         ·rfl
        refine hK.out _ _ ⟨(blk_cell (blk_alloc BK101.out _) 0).trans rfl, (blk_cell (blk_alloc BK101.out _) 1).trans rfl, (World.cell?_alloc_lt _ _ _ (World.block_lt_of_cell? _ _ (hHeld.2.2.1))).trans (hHeld.2.2.1), (World.cell?_alloc_lt _ _ _ (World.block_lt_of_cell? _ _ (hHeld.2.2.2))).trans (hHeld.2.2.2)⟩ (fun hHeld => ?_); clear hK K; refine norm_ (a' := ?_) ?_ ?_
        rotate_left
        ·show Act.put _ (some 43) _ = _
         simp only [Act.put, List.setIfInBounds_toArray, List.set_cons_zero, List.set_cons_succ, i64_w, i32_w]
         rfl
        refine last_ (i := 12) (N := some 44) #[true, true, true, true, true, true, true, true, true, true, true, true, true, false, false] rfl rfl (one_of HT_.out (by kernel_rfl)) (by decide) (fun K hK => ?_); refine Kd.R_append_step k71 (w0 := w0) w0.heap.size (by rfl) (.tmp 33) (.tmp 43) 22 71 (.agg #[(.int .i64 0), (.int .i64 0)]) 16 rfl Try.underlying22 info71 rfl (by decide) (by omega) (.slice (some ad124) l1_1.length co5) l1_1 (⟨(rd_T71 l1_1 t121).f0, (rd_T71 l1_1 t121).f1⟩ : S71) [.int .i64 ((rd_T71 l1_1 t121).f0), .int .i64 ((rd_T71 l1_1 t121).f1)] (fun k_ => (P1_1_ k_ ∨ w.heap.size ≤ k_)) (fun _ => False) rfl rfl ?aP (fun _ hk => hk.elim) ?aF ?aO ?aB ?aS ?aL ?_
        (case aP => exact k71_mkM _ _ _ (⟨(rd_T71 l1_1 t121).f0, (rd_T71 l1_1 t121).f1⟩ : S71))
        (case aB => exact (Q7 HB HI0))
        (case aF => exact (fun k_ hk => (.inr (Nat.le_trans (Q167 HK) hk))))
        (case aO => exact (Q6 HO1_1))
        (case aS => exact (below_size (Q7 HB HI0)))
        (case aL => have := LMc40.out; omega)
        intro v126 w46 ho hb hg hat; rw [← Ny125.out] at ho; replace HI0 := am (IsS96.grown (Q4 HI0 NB0_101 NB0_102) hg (IsS96.own_ne HI0.out HO1_1.out (by decide))); replace BK101 := am (blk_grown (g := gb101) (o := .cells #[.int .i64 a1_0, .slice (some ad124) l1_1.length co5] 30 (0, 0)) (Q0 BK101) hg (Kd.R_ne HO1_1.out BK101.out (by decide))); replace BK102 := am (blk_grown (g := gb102) (o := .cells #[.int .i64 0, .slice none 0 0] 30 (0, 0)) (Q0 BK102) hg (Kd.R_ne HO1_1.out BK102.out (by decide))); replace HB := am (hb); replace HK := am (Kept.of_grown (S := (fun k_ => (P1_1_ k_) ∨ k_ = g)) hg (Q14 HK GW101 GW102) (fun k_ e_ => Or.imp_left Or.inl ((HO1_1.out.1 k_ e_)))); have HO127 := am (ho); clear HO1_1; clear ho hb hg hat; obtain ⟨Ao47, co47, eo47⟩ := Kd.R_slice HO127.out
        (first | subst eo47 | (injection eo47 with f1_ f2_ f3_; have f4_ := f1_.symm; have f5_ := f3_.symm; clear f1_ f2_ f3_; subst f4_; subst f5_))
        refine hK.out _ _ ?_; clear hK K; refine norm_ (a' := ?_) ?_ ?_
        rotate_left
        ·show Act.put _ (some 44) _ = _
         simp only [Act.put, List.setIfInBounds_toArray, List.set_cons_zero, List.set_cons_succ, i64_w, i32_w]
         rfl
        refine pq 13 45 rfl rfl HT_ ?_; refine last_ (i := 14) (N := none) #[true, true, true, true, true, true, true, true, true, true, true, true, true, true, true] rfl rfl (one_of HT_.out (by kernel_rfl)) (by decide) (fun K hK => ?_); have hs48 : w46.cell? ⟨gb101, 1, none⟩ = some (.slice (some ad124) l1_1.length co5) := (blk_cell BK101.out 1).trans rfl; have hfs48 := blk_frozen BK101.out 1; have hns48_1 := NB102_101.out; have hms48_1 := NB101_102.out; refine skip_ (w1 := ?_) (by rfl) rfl ?_ ?_
        rotate_left
        ·go_simp
         rfl
        refine hK.out _ _ ?_; clear hK K; refine done_ (done_of HT_.out (by kernel_rfl)) ?_; have hcz49_0 : w46.cell? ⟨gb101, 0, none⟩ = some (.int .i64 a1_0) := (blk_cell BK101.out 0).trans rfl; have hcz49_1 : w46.cell? ⟨gb101, 1, none⟩ = some (.slice (some ad124) l1_1.length co5) := (blk_cell BK101.out 1).trans rfl; have hfz49_0 := blk_frozen BK101.out 0; have hfz49_1 := blk_frozen BK101.out 1; have hnb50 := NB102_0.out; have hnc50 := NB0_102.out; have hcz51_0 : w46.cell? ⟨gb102, 0, none⟩ = some (.int .i64 0) := (blk_cell BK102.out 0).trans rfl; have hcz51_1 : w46.cell? ⟨gb102, 1, none⟩ = some (.slice none 0 0) := (blk_cell BK102.out 1).trans rfl; have hfz51_0 := blk_frozen BK102.out 0; have hfz51_1 := blk_frozen BK102.out 1
        try go_wp2
        refine bodyPost_ret (results_cell_row rfl _ _ gb102 30 #[.int .i64 a1_0, .slice Ao47 y125.length co47] (0, 0) _ rfl (Q86 NB102_101 BK102) Try.underlying30 rfl (by kernel_rfl)) rfl ?_; exact ⟨_, Q10, by (with_reducible repeat (first | apply Kd.R_alloc | apply Kd.R_drewN | apply Kd.R_drew)); exact Kd.R_mono (Kd.R_far (p := ⟨gb102, 1, none⟩) (Kd.R_far (p := ⟨gb102, 0, none⟩) (Kd.R_far (p := ⟨gb101, 1, none⟩) (Kd.R_types (Kd.R_types HO127.out BK101.out (by decide)) BK102.out (by decide)) (fun _ hk => hk.1.2) (.slice Ao47 y125.length co47)) (fun _ hk => hk.2) (.int .i64 a1_0)) (fun _ hk => hk.2) (.slice Ao47 y125.length co47)) (fun _ hk => hk.1.1), Q4 HI0 NB0_101 NB0_102, Q84 HB HI0 GE101 GE102, Q14 HK GW101 GW102⟩
       ·rw [if_neg c40] at H
        exact absurd H (by simp)
      ·rw [if_neg c39] at H
       exact absurd H (by simp)
     ·rw [if_neg c38] at H
      exact absurd H (by simp)
    ·rw [if_neg c36] at H
     have c36b0 : decide (0 < (l1_1.length : Int)) = false := decide_eq_false c36; have c36b1 : decide (0 < l1_1.length) = false := decide_eq_false (by omega); clear c36
     simp only [Option.some.injEq, Prod.mk.injEq] at H
     obtain ⟨rfl, rfl, rfl, rfl⟩ := H; have hnb52 := NB101_102.out; have hnc52 := NB102_101.out; have hnb53 := NB101_0.out; have hnc53 := NB0_101.out; have hcz54_0 : w8.cell? ⟨gb101, 0, none⟩ = some (.int .i64 a1_0) := (blk_cell BK101.out 0).trans rfl; have hcz54_1 : w8.cell? ⟨gb101, 1, none⟩ = some (.slice Ao5 l1_1.length co5) := (blk_cell BK101.out 1).trans rfl; have hfz54_0 := blk_frozen BK101.out 0; have hfz54_1 := blk_frozen BK101.out 1; have hnb55 := NB102_0.out; have hnc55 := NB0_102.out; have hcz56_0 : w8.cell? ⟨gb102, 0, none⟩ = some (.int .i64 0) := (blk_cell BK102.out 0).trans rfl; have hcz56_1 : w8.cell? ⟨gb102, 1, none⟩ = some (.slice none 0 0) := (blk_cell BK102.out 1).trans rfl; have hfz56_0 := blk_frozen BK102.out 0; have hfz56_1 := blk_frozen BK102.out 1
     go_wp2
     refine bodyPost_ret (results_cell_row rfl _ _ gb102 30 #[.int .i64 a1_0, .slice Ao5 l1_1.length co5] (0, 0) _ rfl (Q101 BK102) Try.underlying30 rfl (by kernel_rfl)) rfl ?_; exact ⟨_, Q10, Q153 HO1_1 BK102, Q4 HI0 NB0_101 NB0_102, Q35 HB HI0 GE102, Q14 HK GW101 GW102⟩
   ·rw [if_neg c35] at H
    have c35b0 := beq_eq_false_iff_ne.mpr c35; have c35b1 := bne_iff_ne.mpr c35
    simp only [Option.some.injEq, Prod.mk.injEq] at H
    obtain ⟨rfl, rfl, rfl, rfl⟩ := H; have hnb57 := NB101_102.out; have hnc57 := NB102_101.out; have hnb58 := NB101_0.out; have hnc58 := NB0_101.out; have hcz59_0 : w8.cell? ⟨gb101, 0, none⟩ = some (.int .i64 a1_0) := (blk_cell BK101.out 0).trans rfl; have hcz59_1 : w8.cell? ⟨gb101, 1, none⟩ = some (.slice Ao5 l1_1.length co5) := (blk_cell BK101.out 1).trans rfl; have hfz59_0 := blk_frozen BK101.out 0; have hfz59_1 := blk_frozen BK101.out 1; have hnb60 := NB102_0.out; have hnc60 := NB0_102.out; have hcz61_0 : w8.cell? ⟨gb102, 0, none⟩ = some (.int .i64 0) := (blk_cell BK102.out 0).trans rfl; have hcz61_1 : w8.cell? ⟨gb102, 1, none⟩ = some (.slice none 0 0) := (blk_cell BK102.out 1).trans rfl; have hfz61_0 := blk_frozen BK102.out 0; have hfz61_1 := blk_frozen BK102.out 1
    go_wp2
    refine bodyPost_ret (results_cell_row rfl _ _ gb102 30 #[.int .i64 a1_0, .slice Ao5 l1_1.length co5] (0, 0) _ rfl (Q101 BK102) Try.underlying30 rfl (by kernel_rfl)) rfl ?_; exact ⟨_, Q10, Q153 HO1_1 BK102, Q4 HI0 NB0_101 NB0_102, Q35 HB HI0 GE102, Q14 HK GW101 GW102⟩
/-! ### spec_l1Cur_one: function 129 -/
def spec_l1Cur_one.f (s0_0 : List Int) (s0_1 : Int) (s0_2 : Int) (a1 : Int) : Option (Bool × Int × Int) := (spec_l1Cur_pick.f s0_0 s0_1 s0_2 a1).bind fun bt101 => (some ((bt101.1 == 0), bt101.2.1, bt101.2.2))
set_option maxHeartbeats 8000000 in
set_option maxRecDepth 100000 in
theorem spec_l1Cur_one.calls (g : Nat) (s0_0 : List Int) (s0_1 : Int) (s0_2 : Int) (a1 : Int) (r1 : Bool) (r2 : Int) (r3 : Int) (w0 w : World) (hI : IsS96 w0 w g s0_0 s0_1 s0_2) (hB : Below w0.heap.size w0 w) (h : spec_l1Cur_one.f s0_0 s0_1 s0_2 a1 = some (r1, r2, r3)) :
  Calls Try.prog 129 #[.pointer (some ⟨g, 0, none⟩), .int .i64 a1] w fun e w' => e = .returned (.bool r1) ∧ IsS96 w0 w' g s0_0 r2 r3 ∧ Below w0.heap.size w0 w' ∧ KeepBut w w' g none := by
 have HI0 := Aside0.mk hI
 have HK := am (KeepBut.refl w g none)
 have HL := Aside0.mk hB.size
 clear hI
 have HW0 := Aside0.mk hB.size
 have HB := Aside0.mk hB
 clear hB
 have H : ((spec_l1Cur_pick.f s0_0 s0_1 s0_2 a1).bind fun bt101 => (some ((bt101.1 == 0), bt101.2.1, bt101.2.2))) = some (r1, r2, r3) := h
 clear h
 replace H := (ob H)
 obtain ⟨⟨t101, t102, t103⟩, A30, H⟩ := H
 (try dsimp only at H)
 have A3 := Aside0.mk A30
 clear A30
 simp only [Option.some.injEq, Prod.mk.injEq] at H
 obtain ⟨rfl, rfl, rfl⟩ := H
 go_enter Try.func129, Try.ntmps129
 go_wp2_with (first | ((with_reducible refine gate_callee (f := 141) rfl ?_); refine goesL_ (some 7) rfl rfl Try.func141 (by kernel_rfl) rfl #[.pointer (some ⟨g, 0, none⟩), .int .i64 a1] rfl Q3 ?_; (with_reducible refine (spec_l1Cur_pick.calls g s0_0 s0_1 s0_2 a1 t101 t102 t103 w0 _ ?side1 ?side2 A3.out).mono ?_); (case side1 => exact (Q13 HI0)); (case side2 => exact (Q7 HB HI0)); rintro e w4 ⟨rfl, hi, hb, hk⟩; refine ⟨_, rfl, ?_⟩; replace HK := am (KeepBut.trans (Q22 HK) hk (.inl rfl)); replace HB := am (hb); replace HI0 := am (hi); (try clear hb); (try clear hb2); (try clear hk); (try clear hi)))
 go_ret
 exact ⟨Q10, Q13 HI0, Q7 HB HI0, Q22 HK⟩
/-! ### spec_l2Near: function 137 -/
def spec_l2Near.l0 : Nat → Int → Int → Int → Int → List (S71) → Option (Bool)
 | 0, _, _, _, _, _ => none
 | k + 1, x1, x2, x7, x102000, x102001 => if x7 < (x102001.length : Int) then (if 0 ≤ x7 then (if ((rd_T71 x102001 x7).f0) = x1 then (if ((rd_T71 x102001 x7).f1) = x2 then (some true) else (if ((rd_T71 x102001 x7).f0) = x2 then (if ((rd_T71 x102001 x7).f1) = x1 then (some true) else (spec_l2Near.l0 k x1 x2 (wrap64 (x7 + 1)) x102000 x102001)) else (spec_l2Near.l0 k x1 x2 (wrap64 (x7 + 1)) x102000 x102001))) else (if ((rd_T71 x102001 x7).f0) = x2 then (if ((rd_T71 x102001 x7).f1) = x1 then (some true) else (spec_l2Near.l0 k x1 x2 (wrap64 (x7 + 1)) x102000 x102001)) else (spec_l2Near.l0 k x1 x2 (wrap64 (x7 + 1)) x102000 x102001))) else (none)) else (some false)
def spec_l2Near.f (k : Nat) (a0_0 : Int) (l0_1 : List (S71)) (a1 : Int) (a2 : Int) : Option (Bool) := spec_l2Near.l0 k a1 a2 0 a0_0 l0_1
theorem spec_l2Near.mono_l : ∀ k, (∀ y0 y1 y2 y3 y4, LeO (spec_l2Near.l0 k y0 y1 y2 y3 y4) (spec_l2Near.l0 (k + 1) y0 y1 y2 y3 y4))
 | 0 => fun _ _ _ _ _ r h => by simp [spec_l2Near.l0] at h
 | k + 1 => by
  have ih0 := spec_l2Near.mono_l k
  all_goals
   intros
   first | unfold spec_l2Near.l0
   repeat' first | (with_reducible first | exact ih0 _ _ _ _ _ | exact LeO.refl _ | exact LeO.none _ | refine LeO.ite ?_ ?_ | refine LeO.bind ?_ (fun _ => ?_))
theorem spec_l2Near.mono : ∀ a0 a1 a2 a3 k, LeO (spec_l2Near.f k a0 a1 a2 a3) (spec_l2Near.f (k + 1) a0 a1 a2 a3) := by
 intro a0 a1 a2 a3 k
 have ih0 := spec_l2Near.mono_l k
 unfold spec_l2Near.f
 repeat' first | (with_reducible first | exact ih0 _ _ _ _ _ | exact LeO.refl _ | exact LeO.none _ | refine LeO.ite ?_ ?_ | refine LeO.bind ?_ (fun _ => ?_))
set_option maxHeartbeats 8000000 in
set_option maxRecDepth 100000 in
theorem spec_l2Near.calls (k : Nat) (a0_0 : Int) (A0_1 : Option Addr) (c0_1 : Nat) (l0_1 : List (S71)) (a1 : Int) (a2 : Int) (r : Bool) (w : World) (hr0_1 : Kd.C k71 w A0_1 l0_1.length l0_1) (hc0_1 : l0_1.length ≤ c0_1) (h : spec_l2Near.f k a0_0 l0_1 a1 a2 = some r) :
  Calls Try.prog 137 #[.agg #[.int .i64 a0_0, .slice A0_1 l0_1.length c0_1], .int .i64 a1, .int .i64 a2] w fun e w' => e = .returned (.bool r) ∧ Below w.heap.size w w' := by
 have hu30 := Try.underlying30
 have hu71 := Try.underlying71
 have HR0_1 := Aside0.mk hr0_1
 have HC0_1 := Aside0.mk hc0_1
 clear hr0_1 hc0_1
 have HB := am (Below.refl w.heap.size w)
 have H : (spec_l2Near.l0 k a1 a2 0 a0_0 l0_1) = some r := h
 clear h
 have H' := Aside0.mk H
 clear H
 go_enter Try.func137, Try.ntmps137
 go_wp2_with (first | ((with_reducible refine gate_dst (N := 3) rfl ?_); refine box_event ?hg (N := 3) ?hd (cs := #[.int .i64 a0_0, .slice A0_1 l0_1.length c0_1]) (t := 30) ?hr ?_; (case hd => rfl); (case hg => rfl); (case hr => first | (go_simp; done) | (go_simp; rfl)); intro gb101 hg w4 hbox hb; have BK101 := am (hbox); have GW101 := am ((Q25 : w.heap.size ≤ gb101)); have GE101 := am ((Q25 : w.heap.size ≤ gb101)); replace HB := am (below_step (Q1 HB) hb); clear hb hbox hg))
 go_loopg [7] k (fun kq v7 w' => ∃ (x7_1 : Int), v7 = .int .i64 x7_1 ∧ Aside0 (spec_l2Near.l0 kq a1 a2 x7_1 a0_0 l0_1 = some r) ∧ Aside0 (kq ≤ k) ∧ Aside0 (w'.heap[gb101]? = some (.cells #[.int .i64 a0_0, (.slice A0_1 l0_1.length c0_1)] 30 (0, 0))) ∧ Aside0 (Below w.heap.size w w'))
 case atStart => exact ⟨(0), Q11, H', ⟨Nat.le_refl _⟩, ⟨Q0 BK101⟩, ⟨Q1 HB⟩⟩
 case round =>
  clear H'
  try clear c1
  try clear p2
  obtain ⟨x7_1, rfl, HA, HK1, BK101, HB⟩ := hrel
  cases gk with
  | zero => exact absurd HA.out (by simp [spec_l2Near.l0])
  | succ k1 =>
   have H := HA.out; clear HA
   simp only [spec_l2Near.l0] at H
   by_cases c5 : x7_1 < (l0_1.length : Int)
   ·rw [if_pos c5] at H
    have c5b0 := decide_eq_true c5; clear c5
    by_cases c6 : 0 ≤ x7_1
    ·rw [if_pos c6] at H
     have c6b0 := decide_eq_true c6; clear c6; have HU7 := Aside0.mk H; clear H; have hcz8_0 : wr.cell? ⟨gb101, 0, none⟩ = some (.int .i64 a0_0) := (blk_cell BK101.out 0).trans rfl; have hcz8_1 : wr.cell? ⟨gb101, 1, none⟩ = some (.slice A0_1 l0_1.length c0_1) := (blk_cell BK101.out 1).trans rfl; have hfz8_0 := blk_frozen BK101.out 0; have hfz8_1 := blk_frozen BK101.out 1; have p102 : 0 ≤ (x7_1 : Int) := of_decide_eq_true Q12; have q102 : x7_1 < (l0_1.length : Int) := of_decide_eq_true Q12; obtain ⟨ad102, e102, hx102_0, hx102_1⟩ := at_T71 HR0_1.out x7_1 p102 q102
     cases e102
     replace hx102_0 := (HB.out.cell (World.block_lt_of_cell? w _ hx102_0)).trans hx102_0; replace hx102_1 := (HB.out.cell (World.block_lt_of_cell? w _ hx102_1)).trans hx102_1; replace p102 := eq_true p102; replace q102 := eq_true q102
     go_upto_region 5 with (first | ((with_reducible refine gate_dst (N := 8) rfl ?_); refine box_event ?hg (N := 8) ?hd (cs := #[.int .i64 0, .int .i64 0]) (t := 71) ?hr ?_; (case hd => rfl); (case hg => rfl); (case hr => first | (go_simp; done) | (go_simp; rfl)); intro gb103 hg w9 hbox hb; have BK103 := am (hbox); have GW103 := am ((Q25 : w.heap.size ≤ gb103)); have GE103 := am ((Q25 : w.heap.size ≤ gb103)); replace HB := am (below_step (Q1 HB) hb); have NB101_103 := am ((by rw [hg]; exact Nat.ne_of_lt (blk_lt (g := gb101) (o := .cells #[.int .i64 a0_0, .slice (some ad102) l0_1.length c0_1] 30 (0, 0)) (Q0 BK101)) : gb101 ≠ gb103)); have NB103_101 := am ((by rw [hg]; exact Nat.ne_of_gt (blk_lt (g := gb101) (o := .cells #[.int .i64 a0_0, .slice (some ad102) l0_1.length c0_1] 30 (0, 0)) (Q0 BK101)) : gb103 ≠ gb101)); replace BK101 := am (blk_below (g := gb101) (o := .cells #[.int .i64 a0_0, .slice (some ad102) l0_1.length c0_1] 30 (0, 0)) (Q0 BK101) hb); clear hb hbox hg; have hnb10 := NB103_101.out; have hnc10 := NB101_103.out; have hcz11_0 : w9.cell? ⟨gb103, 0, none⟩ = some (.int .i64 0) := (blk_cell BK103.out 0).trans rfl; have hcz11_1 : w9.cell? ⟨gb103, 1, none⟩ = some (.int .i64 0) := (blk_cell BK103.out 1).trans rfl; have hfz11_0 := blk_frozen BK103.out 0; have hfz11_1 := blk_frozen BK103.out 1))
     (try simp only [Act.put, List.setIfInBounds_toArray, List.set_cons_zero, List.set_cons_succ]); have H := HU7.out; clear HU7
     by_cases c12 : ((rd_T71 l0_1 x7_1).f0) = a1
     ·rw [if_pos c12] at H
      have c12b0 := beq_iff_eq.mpr c12; have c12b1 := bne_eq_false_iff_eq.mpr c12; clear c12
      by_cases c13 : ((rd_T71 l0_1 x7_1).f1) = a2
      ·rw [if_pos c13] at H
       have c13b0 := beq_iff_eq.mpr c13; have c13b1 := bne_eq_false_iff_eq.mpr c13; clear c13; obtain rfl := Option.some.inj H; have hnb14 := NB103_101.out; have hnc14 := NB101_103.out; have hcz15_0 : w9.cell? ⟨gb103, 0, none⟩ = some (.int .i64 0) := (blk_cell BK103.out 0).trans rfl; have hcz15_1 : w9.cell? ⟨gb103, 1, none⟩ = some (.int .i64 0) := (blk_cell BK103.out 1).trans rfl; have hfz15_0 := blk_frozen BK103.out 0; have hfz15_1 := blk_frozen BK103.out 1
       go_wp2
       go_ret
       exact ⟨Q10, Q5 HB GE103⟩
      ·rw [if_neg c13] at H
       have c13b0 := beq_eq_false_iff_ne.mpr c13; have c13b1 := bne_iff_ne.mpr c13
       by_cases c16 : ((rd_T71 l0_1 x7_1).f0) = a2
       ·rw [if_pos c16] at H
        have c16b0 := beq_iff_eq.mpr c16; have c16b1 := bne_eq_false_iff_eq.mpr c16; clear c16
        by_cases c17 : ((rd_T71 l0_1 x7_1).f1) = a1
        ·rw [if_pos c17] at H
         have c17b0 := beq_iff_eq.mpr c17; have c17b1 := bne_eq_false_iff_eq.mpr c17; clear c17; obtain rfl := Option.some.inj H; have hnb18 := NB103_101.out; have hnc18 := NB101_103.out; have hcz19_0 : w9.cell? ⟨gb103, 0, none⟩ = some (.int .i64 0) := (blk_cell BK103.out 0).trans rfl; have hcz19_1 : w9.cell? ⟨gb103, 1, none⟩ = some (.int .i64 0) := (blk_cell BK103.out 1).trans rfl; have hfz19_0 := blk_frozen BK103.out 0; have hfz19_1 := blk_frozen BK103.out 1
         go_wp2
         go_ret
         exact ⟨Q10, Q5 HB GE103⟩
        ·rw [if_neg c17] at H
         have c17b0 := beq_eq_false_iff_ne.mpr c17; have c17b1 := bne_iff_ne.mpr c17; have H' := Aside0.mk H; clear H; have hnb20 := NB103_101.out; have hnc20 := NB101_103.out; have hcz21_0 : w9.cell? ⟨gb103, 0, none⟩ = some (.int .i64 0) := (blk_cell BK103.out 0).trans rfl; have hcz21_1 : w9.cell? ⟨gb103, 1, none⟩ = some (.int .i64 0) := (blk_cell BK103.out 1).trans rfl; have hfz21_0 := blk_frozen BK103.out 0; have hfz21_1 := blk_frozen BK103.out 1
         go_wp2
         go_roundg k1
         case measure => have := HK1.out; omega
         case rel => exact ⟨(wrap64 (x7_1 + 1)), Q11, H', ⟨Q95⟩, ⟨Q2 NB101_103 BK101⟩, ⟨Q5 HB GE103⟩⟩
       ·rw [if_neg c16] at H
        have c16b0 := beq_eq_false_iff_ne.mpr c16; have c16b1 := bne_iff_ne.mpr c16; have H' := Aside0.mk H; clear H; have hnb22 := NB103_101.out; have hnc22 := NB101_103.out; have hcz23_0 : w9.cell? ⟨gb103, 0, none⟩ = some (.int .i64 0) := (blk_cell BK103.out 0).trans rfl; have hcz23_1 : w9.cell? ⟨gb103, 1, none⟩ = some (.int .i64 0) := (blk_cell BK103.out 1).trans rfl; have hfz23_0 := blk_frozen BK103.out 0; have hfz23_1 := blk_frozen BK103.out 1
        go_wp2
        go_roundg k1
        case measure => have := HK1.out; omega
        case rel => exact ⟨(wrap64 (x7_1 + 1)), Q11, H', ⟨Q95⟩, ⟨Q2 NB101_103 BK101⟩, ⟨Q5 HB GE103⟩⟩
     ·rw [if_neg c12] at H
      have c12b0 := beq_eq_false_iff_ne.mpr c12; have c12b1 := bne_iff_ne.mpr c12
      by_cases c24 : ((rd_T71 l0_1 x7_1).f0) = a2
      ·rw [if_pos c24] at H
       have c24b0 := beq_iff_eq.mpr c24; have c24b1 := bne_eq_false_iff_eq.mpr c24; clear c24
       by_cases c25 : ((rd_T71 l0_1 x7_1).f1) = a1
       ·rw [if_pos c25] at H
        have c25b0 := beq_iff_eq.mpr c25; have c25b1 := bne_eq_false_iff_eq.mpr c25; clear c25; obtain rfl := Option.some.inj H; have hnb26 := NB103_101.out; have hnc26 := NB101_103.out; have hcz27_0 : w9.cell? ⟨gb103, 0, none⟩ = some (.int .i64 0) := (blk_cell BK103.out 0).trans rfl; have hcz27_1 : w9.cell? ⟨gb103, 1, none⟩ = some (.int .i64 0) := (blk_cell BK103.out 1).trans rfl; have hfz27_0 := blk_frozen BK103.out 0; have hfz27_1 := blk_frozen BK103.out 1
        go_wp2
        go_ret
        exact ⟨Q10, Q5 HB GE103⟩
       ·rw [if_neg c25] at H
        have c25b0 := beq_eq_false_iff_ne.mpr c25; have c25b1 := bne_iff_ne.mpr c25; have H' := Aside0.mk H; clear H; have hnb28 := NB103_101.out; have hnc28 := NB101_103.out; have hcz29_0 : w9.cell? ⟨gb103, 0, none⟩ = some (.int .i64 0) := (blk_cell BK103.out 0).trans rfl; have hcz29_1 : w9.cell? ⟨gb103, 1, none⟩ = some (.int .i64 0) := (blk_cell BK103.out 1).trans rfl; have hfz29_0 := blk_frozen BK103.out 0; have hfz29_1 := blk_frozen BK103.out 1
        go_wp2
        go_roundg k1
        case measure => have := HK1.out; omega
        case rel => exact ⟨(wrap64 (x7_1 + 1)), Q11, H', ⟨Q95⟩, ⟨Q2 NB101_103 BK101⟩, ⟨Q5 HB GE103⟩⟩
      ·rw [if_neg c24] at H
       have c24b0 := beq_eq_false_iff_ne.mpr c24; have c24b1 := bne_iff_ne.mpr c24; have H' := Aside0.mk H; clear H; have hnb30 := NB103_101.out; have hnc30 := NB101_103.out; have hcz31_0 : w9.cell? ⟨gb103, 0, none⟩ = some (.int .i64 0) := (blk_cell BK103.out 0).trans rfl; have hcz31_1 : w9.cell? ⟨gb103, 1, none⟩ = some (.int .i64 0) := (blk_cell BK103.out 1).trans rfl; have hfz31_0 := blk_frozen BK103.out 0; have hfz31_1 := blk_frozen BK103.out 1
       go_wp2
       go_roundg k1
       case measure => have := HK1.out; omega
       case rel => exact ⟨(wrap64 (x7_1 + 1)), Q11, H', ⟨Q95⟩, ⟨Q2 NB101_103 BK101⟩, ⟨Q5 HB GE103⟩⟩
    ·rw [if_neg c6] at H
     exact absurd H (by simp)
   ·rw [if_neg c5] at H
    have c5b0 := decide_eq_false c5; clear c5; obtain rfl := Option.some.inj H; have hcz32_0 : wr.cell? ⟨gb101, 0, none⟩ = some (.int .i64 a0_0) := (blk_cell BK101.out 0).trans rfl; have hcz32_1 : wr.cell? ⟨gb101, 1, none⟩ = some (.slice A0_1 l0_1.length c0_1) := (blk_cell BK101.out 1).trans rfl; have hfz32_0 := blk_frozen BK101.out 0; have hfz32_1 := blk_frozen BK101.out 1
    go_wp2
    go_ret
    exact ⟨Q10, Q1 HB⟩
end Go.Proofs.Ytcjddikalgnhpaa.P
