/- Functions of the program as Lean functions, that each call comes to what they say, and what holds of them; part 6 of 15; no conditions beyond those that each theorem names. -/
import Derived.Test.YtcjddikalgnhpaaK1
import Derived.Test.YtcjddikalgnhpaaK2
import Derived.Test.YtcjddikalgnhpaaK4
import Derived.Test.YtcjddikalgnhpaaK5
namespace Go.Proofs.Ytcjddikalgnhpaa.P
open Go.RowKit Go.Proofs.YtcjddikalgnhpaaW.PrintWords Go.Proofs.YtcjddikalgnhpaaW.PrintLast Go.Proofs.YtcjddikalgnhpaaW.PrintMore
attribute [local go_sem] max2_int min2_int max_two min_two max_three min_three max_four min_four   -- for this text's walks alone
set_option linter.unusedVariables false
set_option linter.unusedSimpArgs false
/-! ### impl_net_distances: function 138 -/
mutual
def impl_net_distances.l0 : Nat → List (List Int) → Int → Int → List Int → Option ((List (List Int)))
 | 0, _, _, _, _ => none
 | k + 1, x3, x12, x13, x102000 => if x13 < x12 then ((impl_net_size.f x102000).bind fun t109 => ((slices_Repeat_int_int.f (([(-1)] : List Int)) t109).bind fun t110 => (if 0 ≤ x13 then (if x13 < (x3.length : Int) then ((impl_net_size.f x102000).bind fun t114 => (impl_net_distances.l1 k (x3.set (x13 : Int).toNat t110) x13 t114 x12 x13 x102000)) else (none)) else (none)))) else (some x3)
def impl_net_distances.l1 : Nat → List (List Int) → Int → Int → Int → Int → List Int → Option ((List (List Int)))
 | 0, _, _, _, _, _, _ => none
 | k + 1, x3, x4, x5, x12, x13, x102000 => if x5 ≥ 0 then ((impl_net_ball.f k x102000 x4 x5).bind fun t115 => ((impl_setOf.f k t115).bind fun t116 => (impl_net_distances.l2 k x3 x4 x5 x12 x13 t116 (t116.length : Int) 0 x102000))) else (impl_net_distances.l0 k x3 x12 (wrap64 (x13 + 1)) x102000)
def impl_net_distances.l2 : Nat → List (List Int) → Int → Int → Int → Int → List Int → Int → Int → List Int → Option ((List (List Int)))
 | 0, _, _, _, _, _, _, _, _, _ => none
 | k + 1, x3, x4, x5, x12, x13, x33, x34, x35, x102000 => if x35 < x34 then (if 0 ≤ x35 then (if x35 < (x33.length : Int) then (if 0 ≤ x4 then (if x4 < (x3.length : Int) then (if 0 ≤ (rd x33 x35) then (if (rd x33 x35) < ((rd_L7 x3 x4).length : Int) then (impl_net_distances.l2 k (x3.set (x4 : Int).toNat ((rd_L7 x3 x4).set ((rd x33 x35) : Int).toNat x5)) x4 x5 x12 x13 x33 x34 (wrap64 (x35 + 1)) x102000) else (none)) else (none)) else (none)) else (none)) else (none)) else (none)) else (impl_net_distances.l1 k x3 x4 (wrap64 (x5 - 1)) x12 x13 x102000)
end
def impl_net_distances.f (k : Nat) (l0_0 : List Int) : Option ((List (List Int))) := (impl_net_size.f l0_0).bind fun t102 => (if 0 ≤ t102 then (if (t102 : Int).toNat ≤ 11728124029610 then ((some (List.replicate (t102 : Int).toNat [] : List (List Int))).bind fun y103 => (impl_net_distances.l0 k y103 (y103.length : Int) 0 l0_0)) else (none)) else (none))
theorem impl_net_distances.mono_l : ∀ k, (∀ y0 y1 y2 y3, LeO (impl_net_distances.l0 k y0 y1 y2 y3) (impl_net_distances.l0 (k + 1) y0 y1 y2 y3)) ∧ (∀ y0 y1 y2 y3 y4 y5, LeO (impl_net_distances.l1 k y0 y1 y2 y3 y4 y5) (impl_net_distances.l1 (k + 1) y0 y1 y2 y3 y4 y5)) ∧ (∀ y0 y1 y2 y3 y4 y5 y6 y7 y8, LeO (impl_net_distances.l2 k y0 y1 y2 y3 y4 y5 y6 y7 y8) (impl_net_distances.l2 (k + 1) y0 y1 y2 y3 y4 y5 y6 y7 y8))
 | 0 => ⟨fun _ _ _ _ r h => by simp [impl_net_distances.l0] at h, fun _ _ _ _ _ _ r h => by simp [impl_net_distances.l1] at h, fun _ _ _ _ _ _ _ _ _ r h => by simp [impl_net_distances.l2] at h⟩
 | k + 1 => by
  obtain ⟨ih0, ih1, ih2⟩ := impl_net_distances.mono_l k; refine ⟨?_, ?_, ?_⟩
  all_goals
   intros
   first | unfold impl_net_distances.l0 | unfold impl_net_distances.l1 | unfold impl_net_distances.l2
   repeat' first | (with_reducible first | exact ih0 _ _ _ _ | exact ih1 _ _ _ _ _ _ | exact ih2 _ _ _ _ _ _ _ _ _ | exact impl_net_ball.mono _ _ _ _ | exact impl_setOf.mono _ _ | exact LeO.refl _ | exact LeO.none _ | refine LeO.ite ?_ ?_ | refine LeO.bind ?_ (fun _ => ?_))
theorem impl_net_distances.mono : ∀ a0 k, LeO (impl_net_distances.f k a0) (impl_net_distances.f (k + 1) a0) := by
 intro a0 k
 obtain ⟨ih0, ih1, ih2⟩ := impl_net_distances.mono_l k
 unfold impl_net_distances.f
 repeat' first | (with_reducible first | exact ih0 _ _ _ _ | exact ih1 _ _ _ _ _ _ | exact ih2 _ _ _ _ _ _ _ _ _ | exact impl_net_ball.mono _ _ _ _ | exact impl_setOf.mono _ _ | exact LeO.refl _ | exact LeO.none _ | refine LeO.ite ?_ ?_ | refine LeO.bind ?_ (fun _ => ?_))
set_option maxHeartbeats 8000000 in
set_option maxRecDepth 100000 in
theorem impl_net_distances.calls (k : Nat) (A0_0 : Option Addr) (c0_0 : Nat) (l0_0 : List Int) (r : List (List Int)) (w : World) (hr0_0 : Kd.C (Kd.int .i64) w A0_0 l0_0.length l0_0) (hc0_0 : l0_0.length ≤ c0_0) (h : impl_net_distances.f k l0_0 = some r) :
  Calls Try.prog 138 #[.agg #[.slice A0_0 l0_0.length c0_0]] w fun e w' => ∃ v0_ : Value, e = .returned (v0_) ∧ Kd.S (Kd.slice 3 (Kd.int .i64)) 25 w' w.heap.size (fun _ => True) v0_ r ∧ Below w.heap.size w w' := by
 have hu90 := Try.underlying90
 have HR0_0 := Aside0.mk hr0_0
 have HC0_0 := Aside0.mk hc0_0
 clear hr0_0 hc0_0
 have HB := am (Below.refl w.heap.size w)
 have H : ((impl_net_size.f l0_0).bind fun t102 => (if 0 ≤ t102 then (if (t102 : Int).toNat ≤ 11728124029610 then ((some (List.replicate (t102 : Int).toNat [] : List (List Int))).bind fun y103 => (impl_net_distances.l0 k y103 (y103.length : Int) 0 l0_0)) else (none)) else (none))) = some r := h
 clear h
 replace H := (ob H)
 obtain ⟨t102, A20, H⟩ := H
 (try dsimp only at H)
 have A2 := Aside0.mk A20
 clear A20
 by_cases c3 : 0 ≤ t102
 ·rw [if_pos c3] at H
  have c3b0 := eq_true c3; have c3b1 := decide_eq_true c3; clear c3
  obtain ⟨c4, H⟩ := ifn H
  have c4b0 := eq_true c4; have c4b1 := decide_eq_true c4; clear c4; obtain ⟨y103, hy103⟩ : ∃ y_ : List (List Int), y_ = (List.replicate (t102 : Int).toNat []) := ⟨_, rfl⟩; replace H : (impl_net_distances.l0 k y103 (y103.length : Int) 0 l0_0) = some r := RH hy103 H; have Ny103 := Aside0.mk hy103; clear hy103; have H' := Aside0.mk H; clear H
  go_enter Try.func138, Try.ntmps138
  go_wp2_with (first | ((with_reducible refine gate_dst (N := 1) rfl ?_); refine box_event (by rfl) (N := 1) (by rfl) (cs := #[.slice A0_0 l0_0.length c0_0]) (t := 90) Qr ?_; intro gb101 hg w5 hbox hb; have BK101 := am (hbox); replace HB := bs HB hb; clear hb hbox hg; obtain ⟨_, _⟩ := b1 BK101) | ((with_reducible refine gate_callee (f := 194) rfl ?_); refine goesL_ (some 9) rfl rfl Try.func194 (by kernel_rfl) rfl #[.agg #[.slice A0_0 l0_0.length c0_0]] rfl Q6 ?_; (with_reducible refine (impl_net_size.calls _ _ l0_0 t102 _ ?side1 ?side2 A2.out).mono ?_); (case side1 => exact (Q11 HR0_0 HB)); (case side2 => exact HC0_0.out); rintro e w7 ⟨rfl, hb⟩; refine ⟨_, rfl, ?_⟩; replace BK101 := bb BK101 hb; replace HB := bs HB hb; (try clear hb)) | ((with_reducible refine gate_dst (N := 10) rfl ?_); refine Kd.S_make (Kd.slice 3 (Kd.int .i64)) _ 25 rfl (N := 10) rfl 27 _ _ rfl t102 rfl rfl Try.underlying27 (.slice none 0 0) 24 info25 rfl (by decide) (by omega) [] (ok := fun _ => True) (okp := fun _ => True) ⟨_, rfl, Kd.R_nil _ _ _ _ _⟩ (fun _ hk => hk) trivial (D4) (Nat.le_trans (Nat.mul_le_mul_right _ (D4 : t102.toNat ≤ 11728124029610)) (by omega)) (Below.refl _ _) (Nat.le_refl _) ?_; intro v104 w8 ho9 hb hg_ hnew_; clear hg_ hnew_; (first | rw [← Ny103.out] at ho9 | (simp only [Int.reduceToNat] at ho9; rw [← Ny103.out] at ho9)); have HO105 := am (Kd.S_lower ho9 (below_size (Q1 HB))); replace BK101 := bb BK101 hb; replace HB := bs HB hb; clear hb ho9; obtain ⟨Ao10, co10, eo10⟩ := Kd.S_slice HO105.out; subst eo10))
  go_loopg [13] k (fun kq v13 w' => ∃ (x3_1 : List (List Int)) (x13_1 : Int), v13 = .int .i64 x13_1 ∧ Aside0 (impl_net_distances.l0 kq x3_1 (y103.length : Int) x13_1 l0_0 = some r) ∧ Aside0 (kq ≤ k) ∧ Aside0 (Kd.S (Kd.slice 3 (Kd.int .i64)) 25 w' w.heap.size (fun _ => True) (.slice Ao10 y103.length co10) x3_1) ∧ Aside0 (w'.heap[gb101]? = some (.cells #[(.slice A0_0 l0_0.length c0_0)] 90 (0, 0))) ∧ Aside0 (Below w.heap.size w w'))
  case atStart => exact ⟨(y103), (0), Q17, H', ⟨Nat.le_refl _⟩, ⟨Q10 HO105⟩, ⟨Q0 BK101⟩, ⟨Q1 HB⟩⟩
  case round =>
   clear H'
   obtain ⟨x3_1, x13_1, rfl, HA, HK1, HO_3, BK101, HB⟩ := hrel; have hl3_1 := (Kd.S_reads' HO_3.out).1; rw [hl3_1] at HO_3; (try simp only [hl3_1]); (try simp only [hl3_1] at BK101)
   cases gk with
   | zero => exact absurd HA.out (by simp [impl_net_distances.l0])
   | succ k1 =>
    have H := HA.out; clear HA
    simp only [impl_net_distances.l0] at H
    by_cases c11 : x13_1 < (y103.length : Int)
    ·rw [if_pos c11] at H
     have c11b0 := decide_eq_true c11; clear c11; obtain ⟨y106, hy106⟩ : ∃ y_ : List Int, y_ = (([(-1)] : List Int)) := ⟨_, rfl⟩; replace H : ((impl_net_size.f l0_0).bind fun t109 => ((slices_Repeat_int_int.f y106 t109).bind fun t110 => (if 0 ≤ x13_1 then (if x13_1 < (x3_1.length : Int) then ((impl_net_size.f l0_0).bind fun t114 => (impl_net_distances.l1 k1 (x3_1.set (x13_1 : Int).toNat t110) x13_1 t114 (y103.length : Int) x13_1 l0_0)) else (none)) else (none)))) = some r := RH hy106 H; have Ny106 := Aside0.mk hy106; clear hy106; replace H := (ob H); obtain ⟨t109, A120, H⟩ := H; (try dsimp only at H); have A12 := Aside0.mk A120; clear A120; replace H := (ob H); obtain ⟨t110, A130, H⟩ := H; (try dsimp only at H); have A13 := Aside0.mk A130; clear A130
     obtain ⟨c14, H⟩ := ifn H
     have c14b0 := decide_eq_true c14; clear c14
     obtain ⟨c15, H⟩ := ifn H
     have c15b0 := decide_eq_true c15; clear c15; obtain ⟨y113, hy113⟩ : ∃ y_ : List (List Int), y_ = (x3_1.set (x13_1 : Int).toNat t110) := ⟨_, rfl⟩; replace H : ((impl_net_size.f l0_0).bind fun t114 => (impl_net_distances.l1 k1 y113 x13_1 t114 (y103.length : Int) x13_1 l0_0)) = some r := RH hy113 H; have Ny113 := Aside0.mk hy113; clear hy113; replace H := (ob H); obtain ⟨t114, A170, H⟩ := H; (try dsimp only at H); have A17 := Aside0.mk A170; clear A170; have H' := Aside0.mk H; clear H
     go_wp2_with (first | ((with_reducible refine gate_dst (N := 18) rfl ?_); refine Kd.R_lit (Kd.int .i64) _ 3 (by rfl) (N := 18) (by rfl) (xs := ([(-1)] : List Int)) (inner := [.int .i64 (-1)]) (ok := fun _ => True) (okp := fun _ => True) Qr ?hp (fun _ hk => hk) trivial (Below.refl _ _) (Nat.le_refl _) (by simp) ?_; (case hp => exact (Reps.one (show Kd.M (Kd.int .i64) _ _ _ (-1) [.int .i64 (-1)] from rfl) (Reps.none _ _))); intro v107 w18 ho19 hb hg_ hnew_; clear hg_ hnew_; (first | rw [← Ny106.out] at ho19 | (simp only [Int.reduceToNat] at ho19; rw [← Ny106.out] at ho19)); replace HO_3 := am (Kd.S_elder' Q109 (Kd.R_base ho19) hb); have HO108 := am (Kd.R_lower ho19 (below_size (Q1 HB))); replace BK101 := bb BK101 hb; replace HB := bs HB hb; clear hb ho19; obtain ⟨_, _⟩ := b1 BK101) | ((with_reducible refine gate_callee (f := 194) rfl ?_); refine goesL_ (some 20) rfl rfl Try.func194 (by kernel_rfl) rfl #[.agg #[.slice A0_0 l0_0.length c0_0]] rfl Q6 ?_; (with_reducible refine (impl_net_size.calls _ _ l0_0 t109 _ ?side1 ?side2 A12.out).mono ?_); (case side1 => exact (Q11 HR0_0 HB)); (case side2 => exact HC0_0.out); rintro e w21 ⟨rfl, hb⟩; refine ⟨_, rfl, ?_⟩; replace HO_3 := am (Kd.S_below Q109 hb); replace HO108 := am (Kd.R_below (Q5 HO108) hb); replace BK101 := bb BK101 hb; replace HB := bs HB hb; (try clear hb); obtain ⟨Ao22, co22, eo22⟩ := Kd.R_slice HO108.out; subst eo22) | ((with_reducible refine gate_callee (f := 195) rfl ?_); refine goesL_ (some 21) rfl rfl Try.func195 (by kernel_rfl) rfl #[.slice Ao22 y106.length co22, .int .i64 t109] rfl Q6 ?_; (with_reducible refine (slices_Repeat_int_int.calls _ _ y106 t109 t110 _ ?side1 ?side2 A13.out).mono ?_); (case side1 => exact (Q105 HO108)); (case side2 => exact (Kd.R_reads' HO108.out).2.1); rintro e w23 ⟨v111, rfl, ho0, hb⟩; refine ⟨_, rfl, ?_⟩; replace HO_3 := am (Kd.S_elder' Q109 (Kd.R_base ho0) hb); have HO112 := am (Kd.R_lower (Kd.R_new' ho0 (Kd.R_lt (Q5 HO108))) (below_size (Q1 HB))); replace HO108 := am (Kd.R_elder' (Q5 HO108) (Kd.R_base ho0) hb); replace BK101 := bb BK101 hb; replace HB := bs HB hb; obtain ⟨Ao111, co111, eo111⟩ := Kd.R_slice HO112.out; subst eo111; (try clear hb); (try clear ho0); have p16 : 0 ≤ (x13_1 : Int) := D4; have q16 : (x13_1 : Int) < ((x3_1.length : Int) : Int) := D4; obtain ⟨go16, co16, eo16, gb16, gl16, cl16, HG16⟩ := Kd.S_form HO_3.out (by omega); (first | cases eo16 | (injection eo16 with ea_ en_ ec_; (first | subst ea_ | (injection ea_ with ea_; subst ea_)); subst ec_; clear en_)); have GB16 := Aside0.mk gb16; have GG16 := Aside0.mk HG16; clear gb16 gl16 HG16; obtain ⟨_, ce16, hcl16, hM16, hcc16, hfr16, _, _⟩ := Kd.S_elem HO_3.out [] (x13_1 : Int) p16 q16; obtain ⟨ve16_0, rfl, ge16_0⟩ := hM16; have hx16_0 := hcc16 0 _ rfl; have hf16_0 := hfr16 0; (try simp only [show ((Kd.slice 3 (Kd.int .i64))).sz = 1 from rfl, Nat.mul_one, Nat.add_zero] at hx16_0); (try simp only [show ((Kd.slice 3 (Kd.int .i64))).sz = 1 from rfl, Nat.mul_one, Nat.add_zero] at hf16_0); clear hcl16 hcc16 hfr16; (try clear hM16); replace p16 := eq_true p16; replace q16 := eq_true q16; have n_ := am (Kd.S_mono (ok' := (fun k_ => some k_ ≠ (.slice Ao22 y106.length co22 : Value).ownBlock ∧ some k_ ≠ ((.slice Ao111 t110.length co111) : Value).ownBlock)) HO_3.out (fun k_ hk => ⟨hk.1.2, hk.2⟩)); clear HO_3; have HO_3 := n_; clear n_; have HX24 := am (show Kd.S (Kd.slice 3 (Kd.int .i64)) 25 w23 w.heap.size (fun k_ => ((fun k_ => some k_ ≠ (.slice Ao22 y106.length co22 : Value).ownBlock)) k_ ∧ ¬ ((fun k_ => some k_ = ((.slice Ao111 t110.length co111) : Value).ownBlock)) k_) (.slice (some ⟨go16, 0, none⟩) x3_1.length co10) x3_1 from (by (with_reducible repeat (first | apply Kd.S_alloc | apply Kd.S_drewN | apply Kd.S_drew)); exact Kd.S_mono HO_3.out (fun k_ hk => ⟨hk.1, fun e_ => hk.2 e_⟩))); obtain ⟨oki24, ce24, hcl24, hM24, hcc24, hfr24, hoki24, hH24⟩ := Kd.S_elem HX24.out [] (x13_1 : Int) (D4) (by have h_ : (x13_1 : Int) < ((x3_1.length : Int) : Int) := D4; first | exact h_ | (have e_ := (Kd.S_reads' HO_3.out).1; omega) | simpa using h_); obtain ⟨ve24_0, rfl, ge24_0⟩ := hM24; have HP24 := Kd.S_seg hH24 (D4) (by have h_ : (x13_1 : Int) < ((x3_1.length : Int) : Int) := D4; first | exact h_ | (have e_ := (Kd.S_reads' HO_3.out).1; omega) | simpa using h_) (seg := [(.slice Ao111 t110.length co111)]) (j := 0) (show 1 ≤ 1 from by decide) (x' := t110) (Kd.M_row (Kd.R_mono (Kd.R_tight rfl (Kd.R_mono (ok' := fun k_ => ((fun k_ => some k_ ≠ (.slice Ao22 y106.length co22 : Value).ownBlock)) k_ ∧ k_ ≠ go16) (Kd.R_apart' (HO112.out) (Kd.S_typed HO_3.out) (by decide)) (fun k_ hk => ⟨hk.1.2, fun e_ => (hk.2) (by rw [e_]; rfl)⟩))) (fun _ h_ => Or.inr (h_)))) (fun _ hk => hk) (fun k_ hk_ => ((Kd.R_mono (ok' := fun k_ => ((fun k_ => some k_ ≠ (.slice Ao22 y106.length co22 : Value).ownBlock)) k_ ∧ k_ ≠ go16) (Kd.R_apart' (HO112.out) (Kd.S_typed HO_3.out) (by decide)) (fun k_ hk => ⟨hk.1.2, fun e_ => (hk.2) (by rw [e_]; rfl)⟩))).1 k_ hk_.symm); have hx24_0 := hcc24 0 _ rfl; (try simp only [show ((Kd.slice 3 (Kd.int .i64))).sz = 1 from rfl, Nat.mul_one, Nat.add_zero] at hx24_0); have hf24_0 := hfr24 0; (try simp only [show ((Kd.slice 3 (Kd.int .i64))).sz = 1 from rfl, Nat.mul_one, Nat.add_zero] at hf24_0); clear hcl24 hcc24 hfr24 hoki24 hH24; (try clear hM24); (try simp only [show ((Kd.slice 3 (Kd.int .i64))).sz = 1 from rfl, Nat.mul_one, Nat.add_zero] at HP24)) | ((with_reducible refine gate_store (t := 25) (p := 22) rfl ?_); refine store_event (t := 25) (p := 22) (v := ?vo_w25) (w1 := (w23.setCell ⟨go16, (x13_1 : Int).toNat, none⟩ ((.slice Ao111 t110.length co111)))) ?hg ?ho ?hn ?hr ?_; (case ho => rfl); (case hg => rfl); (case hn => rfl); (case hr => first | (go_simp; done) | (go_simp; rfl)); intro w25 hw; have hg : w23.grownBy w25 (some go16) := (by rw [hw]; exact HP24.2); have hp_ : Kd.S (Kd.slice 3 (Kd.int .i64)) 25 w25 w.heap.size (fun k_ => some k_ ≠ (.slice Ao22 y106.length co22 : Value).ownBlock) (.slice (some ⟨go16, 0, none⟩) x3_1.length co10) y113 := (by rw [hw, Ny113.out]; exact HP24.1); clear HP24; replace BK101 := am (blk_grown (g := gb101) (o := .cells #[.slice A0_0 l0_0.length c0_0] 90 (0, 0)) (Q0 BK101) hg (Kd.S_ne HO_3.out BK101.out (by decide))); replace HO108 := am (Kd.R_over' (v := (.slice (some ⟨go16, 0, none⟩) x3_1.length co10)) (Q5 HO108) (Kd.S_typed HO_3.out) (by decide) hg); replace HO_3 := am (hp_); replace HB := am ((by rw [hw]; exact below_set (HB.out) GB16.out : Below w.heap.size w w25)); clear HO112; clear hg hw hp_; obtain ⟨_, _⟩ := b1 BK101) | ((with_reducible refine gate_callee (f := 194) rfl ?_); refine goesL_ (some 24) rfl rfl Try.func194 (by kernel_rfl) rfl #[.agg #[.slice A0_0 l0_0.length c0_0]] rfl Q6 ?_; (with_reducible refine (impl_net_size.calls _ _ l0_0 t114 _ ?side1 ?side2 A17.out).mono ?_); (case side1 => exact (Q11 HR0_0 HB)); (case side2 => exact HC0_0.out); rintro e w27 ⟨rfl, hb⟩; refine ⟨_, rfl, ?_⟩; replace HO_3 := am (Kd.S_below Q109 hb); replace HO108 := am (Kd.R_below (Q5 HO108) hb); replace BK101 := bb BK101 hb; replace HB := bs HB hb; (try clear hb)))
     go_loopg [5] k1 (fun kq v5 w' => ∃ (x3_2 : List (List Int)) (x5_2 : Int), v5 = .int .i64 x5_2 ∧ Aside0 (impl_net_distances.l1 kq x3_2 x13_1 x5_2 (y103.length : Int) x13_1 l0_0 = some r) ∧ Aside0 (kq ≤ k1) ∧ Aside0 (Kd.S (Kd.slice 3 (Kd.int .i64)) 25 w' w.heap.size (fun _ => True) (.slice (some ⟨go16, 0, none⟩) x3_1.length co10) x3_2) ∧ Aside0 (w'.heap[gb101]? = some (.cells #[(.slice A0_0 l0_0.length c0_0)] 90 (0, 0))) ∧ Aside0 (Below w.heap.size w w'))
     case atStart => exact ⟨(y113), (t114), Q17, H', ⟨Nat.le_refl _⟩, ⟨by (try simp only [hl3_1]); (with_reducible repeat (first | apply Kd.S_alloc | apply Kd.S_drewN | apply Kd.S_drew)); exact Kd.S_mono HO_3.out (fun _ hk => trivial)⟩, ⟨by (try simp only [hl3_1]); (with_reducible repeat (first | refine blk_drewN ?_ _ | refine blk_drew ?_ | refine blk_alloc ?_ _)); exact BK101.out⟩, ⟨Q1 HB⟩⟩
     case round =>
      clear H'
      obtain ⟨x3_2, x5_2, rfl, HA, HK2, HO_3, BK101, HB⟩ := hrel; have hl3_2 := (Kd.S_reads' HO_3.out).1; rw [hl3_2] at HO_3; (try simp only [hl3_2]); (try simp only [hl3_2] at BK101)
      cases gk with
      | zero => exact absurd HA.out (by simp [impl_net_distances.l1])
      | succ k2 =>
       have H := HA.out; clear HA
       simp only [impl_net_distances.l1] at H
       by_cases c28 : x5_2 ≥ 0
       ·rw [if_pos c28] at H
        have c28b0 : decide (0 ≤ x5_2) = true := decide_eq_true c28; clear c28; replace H := (ob H); obtain ⟨t115, A290, H⟩ := H; (try dsimp only at H); have A29 := Aside0.mk A290; clear A290; replace H := (ob H); obtain ⟨t116, A300, H⟩ := H; (try dsimp only at H); have A30 := Aside0.mk A300; clear A300; have H' := Aside0.mk H; clear H; obtain ⟨_, _⟩ := b1 BK101
        go_wp2_with (first | ((with_reducible refine gate_callee (f := 116) rfl ?_); refine goesL_ (some 32) rfl rfl Try.func116 (by kernel_rfl) rfl #[.agg #[.slice A0_0 l0_0.length c0_0], .int .i64 x13_1, .int .i64 x5_2] rfl Q6 ?_; (with_reducible refine (impl_net_ball.calls k2 _ _ l0_0 x13_1 x5_2 t115 _ ?side1 ?side2 A29.out).mono ?_); (case side1 => exact (Q11 HR0_0 HB)); (case side2 => exact HC0_0.out); rintro e w32 ⟨rfl, hb⟩; refine ⟨_, rfl, ?_⟩; replace HO_3 := am (Kd.S_below Q109 hb); replace BK101 := bb BK101 hb; replace HB := bs HB hb; (try clear hb)) | ((with_reducible refine gate_callee (f := 122) rfl ?_); refine goesL_ (some 33) rfl rfl Try.func122 (by kernel_rfl) rfl #[.int .i64 t115] rfl Q6 ?_; (with_reducible refine (impl_setOf.calls k2 t115 t116 _ A30.out).mono ?_); rintro e w33 ⟨v117, rfl, ho0, hb⟩; refine ⟨_, rfl, ?_⟩; replace HO_3 := am (Kd.S_elder' Q109 (Kd.R_base ho0) hb); have HO118 := am (Kd.R_lower ho0 (below_size (Q1 HB))); replace BK101 := bb BK101 hb; replace HB := bs HB hb; (try clear hb); (try clear ho0); obtain ⟨Ao34, co34, eo34⟩ := Kd.R_slice HO118.out; subst eo34))
        go_loopg [35] k2 (fun kq v35 w' => ∃ (x3_3 : List (List Int)) (x33_3 : List Int) (x35_3 : Int), v35 = .int .i64 x35_3 ∧ Aside0 (impl_net_distances.l2 kq x3_3 x13_1 x5_2 (y103.length : Int) x13_1 x33_3 (t116.length : Int) x35_3 l0_0 = some r) ∧ Aside0 (kq ≤ k2) ∧ Aside0 (Kd.S (Kd.slice 3 (Kd.int .i64)) 25 w' w.heap.size (fun k_ => some k_ ≠ ((.slice Ao34 t116.length co34) : Value).ownBlock) (.slice (some ⟨go16, 0, none⟩) x3_2.length co10) x3_3) ∧ Aside0 (Kd.R (Kd.int .i64) 3 w' w.heap.size (fun _ => True) (.slice Ao34 t116.length co34) x33_3) ∧ Aside0 (w'.heap[gb101]? = some (.cells #[(.slice A0_0 l0_0.length c0_0)] 90 (0, 0))) ∧ Aside0 (Below w.heap.size w w'))
        case atStart => exact ⟨(x3_2), (t116), (0), Q17, H', ⟨Nat.le_refl _⟩, ⟨by (try simp only [hl3_1]); (try simp only [hl3_2]); (with_reducible repeat (first | apply Kd.S_alloc | apply Kd.S_drewN | apply Kd.S_drew)); exact Kd.S_mono HO_3.out (fun _ hk => hk.2)⟩, ⟨by (try simp only [hl3_1]); (try simp only [hl3_2]); (with_reducible repeat (first | apply Kd.R_alloc | apply Kd.R_drewN | apply Kd.R_drew)); exact HO118.out⟩, ⟨by (try simp only [hl3_1]); (try simp only [hl3_2]); (with_reducible repeat (first | refine blk_drewN ?_ _ | refine blk_drew ?_ | refine blk_alloc ?_ _)); exact BK101.out⟩, ⟨Q1 HB⟩⟩
        case round =>
         clear H'
         obtain ⟨x3_3, x33_3, x35_3, rfl, HA, HK3, HO_3, HO_33, BK101, HB⟩ := hrel; have hl3_3 := (Kd.S_reads' HO_3.out).1; rw [hl3_3] at HO_3; (try simp only [hl3_3]); (try simp only [hl3_3] at BK101); (try simp only [hl3_3] at HO_33); have hl33_3 := (Kd.R_reads' HO_33.out).1; rw [hl33_3] at HO_33; (try simp only [hl33_3]); (try simp only [hl33_3] at BK101); (try simp only [hl33_3] at HO_3)
         cases gk with
         | zero => exact absurd HA.out (by simp [impl_net_distances.l2])
         | succ k3 =>
          have H := HA.out; clear HA
          simp only [impl_net_distances.l2] at H
          by_cases c35 : x35_3 < (t116.length : Int)
          ·rw [if_pos c35] at H
           have c35b0 := decide_eq_true c35; clear c35
           obtain ⟨c36, H⟩ := ifn H
           have c36b0 := decide_eq_true c36; clear c36
           obtain ⟨c37, H⟩ := ifn H
           have c37b0 := decide_eq_true c37; clear c37
           obtain ⟨c38, H⟩ := ifn H
           have c38b0 := decide_eq_true c38; clear c38
           obtain ⟨c39, H⟩ := ifn H
           have c39b0 := decide_eq_true c39; clear c39
           obtain ⟨c40, H⟩ := ifn H
           have c40b0 := decide_eq_true c40; clear c40
           obtain ⟨c41, H⟩ := ifn H
           have c41b0 := decide_eq_true c41; clear c41; obtain ⟨y121, hy121⟩ : ∃ y_ : List Int, y_ = ((rd_L7 x3_3 x13_1).set ((rd x33_3 x35_3) : Int).toNat x5_2) := ⟨_, rfl⟩; replace H : (impl_net_distances.l2 k3 (x3_3.set (x13_1 : Int).toNat y121) x13_1 x5_2 (y103.length : Int) x13_1 x33_3 (t116.length : Int) (wrap64 (x35_3 + 1)) l0_0) = some r := RH hy121 H; have Ny121 := Aside0.mk hy121; clear hy121; obtain ⟨y123, hy123⟩ : ∃ y_ : List (List Int), y_ = (x3_3.set (x13_1 : Int).toNat y121) := ⟨_, rfl⟩; replace H : (impl_net_distances.l2 k3 y123 x13_1 x5_2 (y103.length : Int) x13_1 x33_3 (t116.length : Int) (wrap64 (x35_3 + 1)) l0_0) = some r := RH hy123 H; have Ny123 := Aside0.mk hy123; clear hy123; have H' := Aside0.mk H; clear H; have p119 : 0 ≤ (x35_3 : Int) := D4; have q119 : x35_3 < (x33_3.length : Int) := D4; obtain ⟨ad119, e119, hx119_0⟩ := Kd.at_int (Kd.R_reads' HO_33.out).2.2 x35_3 p119 q119
           cases e119
           replace p119 := eq_true p119; replace q119 := eq_true q119; have q119x : (x35_3 < (t116.length : Int)) = True := eq_true (by have h_ := of_eq_true q119; rw [← hl33_3] at h_; exact h_); have p120 : 0 ≤ (x13_1 : Int) := D4; have q120 : x13_1 < (x3_3.length : Int) := D4; obtain ⟨ad120, A120_0, c120_0, e120, hx120_0, hl120_0, hi120_0⟩ := at_L7 (Kd.S_reads' HO_3.out).2.2 x13_1 p120 q120; obtain rfl : (⟨go16, 0, none⟩ : Addr) = ad120 := (by injection e120); obtain ⟨ce120, hce120, hMe120, hcc120⟩ := Kd.S_get HO_3.out [] x13_1 p120 (by first | exact q120 | exact D4 | (have e_ := (Kd.S_reads' HO_3.out).1; omega)); obtain ⟨ve120_0, rfl, ge120_0⟩ := hMe120; have hv120_0 := hcc120 0 _ rfl; rw [Nat.add_zero, show ((Kd.slice 3 (Kd.int .i64))).sz = 1 from rfl, Nat.mul_one] at hv120_0; replace hv120_0 := Option.some.inj (hv120_0.symm.trans hx120_0); rw [hv120_0] at ge120_0; have HL120_0 := am (show Kd.R (Kd.int .i64) 3 _ _ _ _ (rd_L7 x3_3 x13_1) from ge120_0); clear hv120_0 ge120_0; have HX120_0 := Aside0.mk hx120_0; clear hcc120 hce120
           (first | simp only [add_plain] at hx120_0 | simp only [add_at] at hx120_0 | simp only [Addr.add, Nat.zero_add] at hx120_0 | skip)
           have HR120_0 := Aside0.mk hi120_0; have HC120_0 := Aside0.mk hl120_0; clear hi120_0 hl120_0; replace p120 := eq_true p120; replace q120 := eq_true q120; have p42 : 0 ≤ ((rd x33_3 x35_3) : Int) := D4; have q42 : ((rd x33_3 x35_3) : Int) < (((rd_L7 x3_3 x13_1).length : Int) : Int) := D4; obtain ⟨go42, co42, eo42, gb42, gl42, cl42, HG42⟩ := Kd.R_form HL120_0.out (by omega)
           (first | cases eo42 | (injection eo42 with ea_ en_ ec_; (first | subst ea_ | (injection ea_ with ea_; subst ea_)); subst ec_; clear en_))
           have GB42 := Aside0.mk gb42; have GG42 := Aside0.mk HG42; clear gb42 gl42 HG42; obtain ⟨hx42_0, hf42_0⟩ := Kd.R_celln 0 HL120_0.out ((rd x33_3 x35_3) : Int) p42 q42; replace p42 := eq_true p42; replace q42 := eq_true q42; have hq43 : (x13_1 : Int) < (x3_3.length : Int) := (by have h_ : (x13_1 : Int) < ((x3_3.length : Int) : Int) := D4; first | exact h_ | (have e_ := (Kd.S_reads' HO_3.out).1; omega) | simpa only [List.length_set, List.length_set] using h_); obtain ⟨oki43, ce43, hcl43, hM43, hcc43, hok43, hbk43⟩ := Kd.S_borrow HO_3.out [] (x13_1 : Int) (D4) hq43; obtain ⟨ve43_0, rfl, ge43_0⟩ := hM43; have hv43 := hcc43 0 _ rfl; rw [Nat.add_zero, show ((Kd.slice 3 (Kd.int .i64))).sz = 1 from rfl, Nat.mul_one] at hv43; replace hv43 := Option.some.inj (hv43.symm.trans HX120_0.out); subst hv43; clear hcc43 hcl43; replace ge43_0 := (show Kd.R (Kd.int .i64) 3 _ _ _ _ (rd_L7 x3_3 x13_1) from ge43_0); have HP43 := Kd.R_putg ge43_0 ((rd x33_3 x35_3) : Int) x5_2
           go_wp2_with (first | ((with_reducible refine gate_store (t := 3) (p := 45) rfl ?_); refine store_event (t := 3) (p := 45) (v := ?vo_w44) (w1 := (wr.setCell ⟨go42, ((rd x33_3 x35_3) : Int).toNat, none⟩ (.int .i64 x5_2))) ?hg ?ho ?hn ?hr ?_; (case ho => rfl); (case hg => rfl); (case hn => rfl); (case hr => first | (go_simp; done) | (go_simp; rfl)); intro w44 hw; have hg : wr.grownBy w44 (some go42) := (by rw [hw]; exact HP43.2); have hz_ : Kd.R (Kd.int .i64) 3 w44 w.heap.size oki43 (.slice (some ⟨go42, 0, none⟩) (rd_L7 x3_3 x13_1).length c120_0) y121 := (by rw [hw, Ny121.out]; exact HP43.1); have hp_ : Kd.S (Kd.slice 3 (Kd.int .i64)) 25 w44 w.heap.size (fun k_ => some k_ ≠ (.slice (some ad119) x33_3.length co34 : Value).ownBlock) (.slice (some ⟨go16, 0, none⟩) x3_3.length co10) y123 := (by rw [Ny123.out]; exact hbk43 hg (fun k_ e_ => by injection e_ with e_; subst e_; exact ge43_0.1 _ rfl) (Kd.M_row hz_)); have hm_ := Kd.R_mono hz_ hok43; clear HP43 hbk43; replace HO_3 := am (hp_); replace HO_33 := am (Kd.R_grown1 (by (with_reducible repeat (first | apply Kd.R_alloc | apply Kd.R_drewN | apply Kd.R_drew)); exact HO_33.out) rfl hg ((HL120_0.out.1 _ rfl).1)); replace BK101 := am (blk_grown (g := gb101) (o := .cells #[.slice A0_0 l0_0.length c0_0] 90 (0, 0)) (Q0 BK101) hg (Kd.R_ne HL120_0.out BK101.out (by decide))); replace HB := am ((by rw [hw]; exact below_set (HB.out) GB42.out : Below w.heap.size w w44)); have HL124 := am (hm_); have HC122 := am ((Kd.R_reads' hm_).2.1); clear HL120_0; clear hg hw hp_ hz_ hm_ hok43))
           (try simp only [← hl3_3, ← hl33_3])
           go_roundg k3
           case measure => have := HK1.out; have := HK2.out; have := HK3.out; omega
           case rel => exact ⟨(y123), (x33_3), (wrap64 (x35_3 + 1)), Q17, H', ⟨by have := HK1.out; have := HK2.out; have := HK3.out; omega⟩, ⟨by (try simp only [hl3_1]); (try simp only [hl3_2]); (try simp only [hl3_3]); (try simp only [hl33_3]); (with_reducible repeat (first | apply Kd.S_alloc | apply Kd.S_drewN | apply Kd.S_drew)); exact HO_3.out⟩, ⟨by (try simp only [hl3_1]); (try simp only [hl3_2]); (try simp only [hl3_3]); (try simp only [hl33_3]); (with_reducible repeat (first | apply Kd.R_alloc | apply Kd.R_drewN | apply Kd.R_drew)); exact HO_33.out⟩, ⟨Q198 BK101⟩, ⟨Q1 HB⟩⟩
          ·rw [if_neg c35] at H
           have c35b0 := decide_eq_false c35; have c35x : decide (x35_3 < (x33_3.length : Int)) = false := by rw [← hl33_3]; exact c35b0
           clear c35; have H' := Aside0.mk H; clear H
           go_wp2
           (try simp only [← hl3_2, ← hl3_3, ← hl33_3])
           go_roundg k3
           case measure => have := HK1.out; have := HK2.out; have := HK3.out; omega
           case rel => exact ⟨(x3_3), (wrap64 (x5_2 - 1)), Q17, H', ⟨by have := HK1.out; have := HK2.out; have := HK3.out; omega⟩, ⟨by (try simp only [hl3_1]); (try simp only [hl3_2]); (try simp only [hl3_3]); (try simp only [hl33_3]); (with_reducible repeat (first | apply Kd.S_alloc | apply Kd.S_drewN | apply Kd.S_drew)); exact Kd.S_mono HO_3.out (fun _ hk => trivial)⟩, ⟨Q198 BK101⟩, ⟨Q1 HB⟩⟩
       ·rw [if_neg c28] at H
        have c28b0 : decide (0 ≤ x5_2) = false := decide_eq_false c28; clear c28; have H' := Aside0.mk H; clear H
        go_wp2
        (try simp only [← hl3_1, ← hl3_2])
        go_roundg k2
        case measure => have := HK1.out; have := HK2.out; omega
        case rel => exact ⟨(x3_2), (wrap64 (x13_1 + 1)), Q17, H', ⟨Q168⟩, ⟨by (try simp only [hl3_1]); (try simp only [hl3_2]); (with_reducible repeat (first | apply Kd.S_alloc | apply Kd.S_drewN | apply Kd.S_drew)); exact HO_3.out⟩, ⟨by (try simp only [hl3_1]); (try simp only [hl3_2]); (with_reducible repeat (first | refine blk_drewN ?_ _ | refine blk_drew ?_ | refine blk_alloc ?_ _)); exact BK101.out⟩, ⟨Q1 HB⟩⟩
    ·rw [if_neg c11] at H
     have c11b0 := decide_eq_false c11; have c11x : decide (x13_1 < (x3_1.length : Int)) = false := by rw [← hl3_1]; exact c11b0
     clear c11; obtain rfl := Option.some.inj H
     go_wp2
     go_ret
     exact ⟨_, Q19, Q109, Q1 HB⟩
 ·rw [if_neg c3] at H
  exact absurd H (by simp)
/-! ### impl_DistancesOf: function 45 -/
def impl_DistancesOf.f (k : Nat) (a0_0 : Int) (l0_1 : List (S71)) : Option ((List (List Int)) × Bool) := (impl_IsGraph.f k a0_0 l0_1).bind fun t102 => (if t102 = true then ((impl_netOf.f k a0_0 l0_1).bind fun t103 => ((impl_net_distances.f k t103).bind fun t106 => (some (t106, true)))) else (some (([] : List (List Int)), false)))
theorem impl_DistancesOf.mono : ∀ a0 a1 k, LeO (impl_DistancesOf.f k a0 a1) (impl_DistancesOf.f (k + 1) a0 a1) := by
 intro a0 a1 k
 unfold impl_DistancesOf.f
 repeat' first | (with_reducible first | exact impl_IsGraph.mono _ _ _ | exact impl_netOf.mono _ _ _ | exact impl_net_distances.mono _ _ | exact LeO.refl _ | exact LeO.none _ | refine LeO.ite ?_ ?_ | refine LeO.bind ?_ (fun _ => ?_))
set_option maxHeartbeats 8000000 in
set_option maxRecDepth 100000 in
theorem impl_DistancesOf.calls (k : Nat) (a0_0 : Int) (A0_1 : Option Addr) (c0_1 : Nat) (l0_1 : List (S71)) (r1 : List (List Int)) (r2 : Bool) (w : World) (hr0_1 : Kd.C k71 w A0_1 l0_1.length l0_1) (hc0_1 : l0_1.length ≤ c0_1) (h : impl_DistancesOf.f k a0_0 l0_1 = some (r1, r2)) :
  Calls Try.prog 45 #[.agg #[.int .i64 a0_0, .slice A0_1 l0_1.length c0_1]] w fun e w' => ∃ v0_ : Value, e = .returned (.tuple #[v0_, .bool r2]) ∧ Kd.S (Kd.slice 3 (Kd.int .i64)) 25 w' w.heap.size (fun _ => True) v0_ r1 ∧ Below w.heap.size w w' := by
 have hu30 := Try.underlying30
 have HR0_1 := Aside0.mk hr0_1
 have HC0_1 := Aside0.mk hc0_1
 clear hr0_1 hc0_1
 have HB := am (Below.refl w.heap.size w)
 have H : ((impl_IsGraph.f k a0_0 l0_1).bind fun t102 => (if t102 = true then ((impl_netOf.f k a0_0 l0_1).bind fun t103 => ((impl_net_distances.f k t103).bind fun t106 => (some (t106, true)))) else (some (([] : List (List Int)), false)))) = some (r1, r2) := h
 clear h
 replace H := (ob H)
 obtain ⟨t102, A20, H⟩ := H
 (try dsimp only at H)
 have A2 := Aside0.mk A20
 clear A20
 have HU3 := Aside0.mk H
 clear H
 go_enter Try.func45, Try.ntmps45
 go_upto_if 6 with (first | ((with_reducible refine gate_dst (N := 1) rfl ?_); refine box_event (by rfl) (N := 1) (by rfl) (cs := #[.int .i64 a0_0, .slice A0_1 l0_1.length c0_1]) (t := 30) Qr ?_; intro gb101 hg w4 hbox hb; have BK101 := am (hbox); replace HB := bs HB hb; clear hb hbox hg; obtain ⟨_, _, _, _⟩ := b2 BK101) | ((with_reducible refine gate_callee (f := 71) rfl ?_); refine goesL_ (some 5) rfl rfl Try.func71 (by kernel_rfl) rfl #[.agg #[.int .i64 a0_0, .slice A0_1 l0_1.length c0_1]] rfl Q6 ?_; (with_reducible refine (impl_IsGraph.calls k a0_0 _ _ l0_1 t102 _ ?side1 ?side2 A2.out).mono ?_); (case side1 => exact (Q11 HR0_1 HB)); (case side2 => exact HC0_1.out); rintro e w6 ⟨rfl, hb⟩; refine ⟨_, rfl, ?_⟩; replace BK101 := bb BK101 hb; replace HB := bs HB hb; (try clear hb)))
 (try simp only [Act.put, List.setIfInBounds_toArray, List.set_cons_zero, List.set_cons_succ])
 have H := HU3.out
 clear HU3
 by_cases c7 : t102 = true
 ·subst c7
  have H1 : ((impl_netOf.f k a0_0 l0_1).bind fun t103 => ((impl_net_distances.f k t103).bind fun t106 => (some (t106, true)))) = some (r1, r2) := by rw [if_pos rfl] at H; exact H
  clear H; have H := H1; clear H1; replace H := (ob H); obtain ⟨t103, A80, H⟩ := H; (try dsimp only at H); have A8 := Aside0.mk A80; clear A80; replace H := (ob H); obtain ⟨t106, A90, H⟩ := H; (try dsimp only at H); have A9 := Aside0.mk A90; clear A90
  simp only [Option.some.injEq, Prod.mk.injEq] at H
  obtain ⟨rfl, rfl⟩ := H; obtain ⟨_, _, _, _⟩ := b2 BK101
  go_wp2_with (first | ((with_reducible refine gate_callee (f := 101) rfl ?_); refine goesL_ (some 8) rfl rfl Try.func101 (by kernel_rfl) rfl #[.agg #[.int .i64 a0_0, .slice A0_1 l0_1.length c0_1]] rfl Q6 ?_; (with_reducible refine (impl_netOf.calls k a0_0 _ _ l0_1 t103 _ ?side1 ?side2 A8.out).mono ?_); (case side1 => exact (Q11 HR0_1 HB)); (case side2 => exact HC0_1.out); rintro e w11 ⟨v104, rfl, ho0, hb⟩; refine ⟨_, rfl, ?_⟩; have HO105 := am (Kd.R_lower ho0 (below_size (Q1 HB))); replace BK101 := bb BK101 hb; replace HB := bs HB hb; (try clear hb); (try clear ho0); obtain ⟨Ao12, co12, eo12⟩ := Kd.R_slice HO105.out; subst eo12) | ((with_reducible refine gate_callee (f := 138) rfl ?_); refine goesL_ (some 9) rfl rfl Try.func138 (by kernel_rfl) rfl #[.agg #[.slice Ao12 t103.length co12]] rfl Q6 ?_; (with_reducible refine (impl_net_distances.calls k _ _ t103 t106 _ ?side1 ?side2 A9.out).mono ?_); (case side1 => exact (Q105 HO105)); (case side2 => exact (Kd.R_reads' HO105.out).2.1); rintro e w13 ⟨v107, rfl, ho0, hb⟩; refine ⟨_, rfl, ?_⟩; have HO108 := am (Kd.S_lower (Kd.S_new' ho0 (Kd.R_lt (Q5 HO105))) (below_size (Q1 HB))); replace HO105 := am (Kd.R_below (Q5 HO105) hb); replace BK101 := bb BK101 hb; replace HB := bs HB hb; (try clear hb); (try clear ho0)))
  go_ret2
  exact ⟨_, Q19, by (with_reducible repeat (first | apply Kd.S_alloc | apply Kd.S_drewN | apply Kd.S_drew)); exact Kd.S_mono HO108.out (fun _ hk => trivial), Q1 HB⟩
 ·replace c7 := Bool.eq_false_iff.mpr c7
  subst c7; have H1 : (some (([] : List (List Int)), false)) = some (r1, r2) := by rw [if_neg (show ¬ (false = true) by decide)] at H; exact H
  clear H; have H := H1; clear H1
  simp only [Option.some.injEq, Prod.mk.injEq] at H
  obtain ⟨rfl, rfl⟩ := H
  go_wp2
  go_ret2
  exact ⟨_, Q19, by first | exact Kd.S_nil _ _ _ _ _ | exact Kd.N_nil _ _ _ _ _ | exact Kd.V_nil _ _ _ _ _ | exact Kd.Q_nil _ _ _ _ _ | exact Kd.R_nil _ _ _ _ _, Q1 HB⟩
/-! ### impl_productS -/
def impl_productS.f (k : Nat) (a0_0 : Int) (l0_1 : List (S71)) (a1_0 : Int) (l1_1 : List (S71)) : Option (Int × (List (S71)) × Bool) := impl_productOfX.f impl_graphBy_productS.f k a0_0 l0_1 a1_0 l1_1 0
theorem impl_productS.mono : ∀ a0 a1 a2 a3 k, LeO (impl_productS.f k a0 a1 a2 a3) (impl_productS.f (k + 1) a0 a1 a2 a3) := fun _ _ _ _ _ => impl_productOfX.mono impl_graphBy_productS.f ⟨impl_graphBy_productS.mono⟩ _ _ _ _ _ _
theorem impl_productS.calls (k : Nat) (a0_0 : Int) (A0_1 : Option Addr) (c0_1 : Nat) (l0_1 : List (S71)) (a1_0 : Int) (A1_1 : Option Addr) (c1_1 : Nat) (l1_1 : List (S71)) (r1 : Int) (r2 : List (S71)) (r3 : Bool) (w : World) (hr0_1 : Kd.C k71 w A0_1 l0_1.length l0_1) (hc0_1 : l0_1.length ≤ c0_1) (hr1_1 : Kd.C k71 w A1_1 l1_1.length l1_1) (hc1_1 : l1_1.length ≤ c1_1) (h : impl_productS.f k a0_0 l0_1 a1_0 l1_1 = some (r1, r2, r3)) :
  Calls Try.prog 130 #[.agg #[.int .i64 a0_0, .slice A0_1 l0_1.length c0_1], .agg #[.int .i64 a1_0, .slice A1_1 l1_1.length c1_1], .func (.func 133) #[] #[]] w fun e w' => ∃ v1_ : Value, e = .returned (.tuple #[.agg #[.int .i64 r1, v1_], .bool r3]) ∧ Kd.R k71 71 w' w.heap.size (fun _ => True) v1_ r2 ∧ Below w.heap.size w w' := impl_productOfX.calls impl_graphBy_productS.f ⟨impl_graphBy_productS.mono⟩ 133 ⟨impl_graphBy_productS.calls⟩ k a0_0 A0_1 c0_1 l0_1 a1_0 A1_1 c1_1 l1_1 0 r1 r2 r3 w hr0_1 hc0_1 hr1_1 hc1_1 h
/-! ### impl_StrongProduct: function 40 -/
def impl_StrongProduct.f (k : Nat) (a0_0 : Int) (l0_1 : List (S71)) (a1_0 : Int) (l1_1 : List (S71)) : Option (Int × (List (S71)) × Bool) := (impl_productS.f k a0_0 l0_1 a1_0 l1_1).bind fun bt104 => (some (bt104.1, bt104.2.1, bt104.2.2))
theorem impl_StrongProduct.mono : ∀ a0 a1 a2 a3 k, LeO (impl_StrongProduct.f k a0 a1 a2 a3) (impl_StrongProduct.f (k + 1) a0 a1 a2 a3) := by
 intro a0 a1 a2 a3 k
 unfold impl_StrongProduct.f
 repeat' first | (with_reducible first | exact impl_productS.mono _ _ _ _ _ | exact LeO.refl _ | exact LeO.none _ | refine LeO.ite ?_ ?_ | refine LeO.bind ?_ (fun _ => ?_))
set_option maxHeartbeats 8000000 in
set_option maxRecDepth 100000 in
theorem impl_StrongProduct.calls (k : Nat) (a0_0 : Int) (A0_1 : Option Addr) (c0_1 : Nat) (l0_1 : List (S71)) (a1_0 : Int) (A1_1 : Option Addr) (c1_1 : Nat) (l1_1 : List (S71)) (r1 : Int) (r2 : List (S71)) (r3 : Bool) (w : World) (hr0_1 : Kd.C k71 w A0_1 l0_1.length l0_1) (hc0_1 : l0_1.length ≤ c0_1) (hr1_1 : Kd.C k71 w A1_1 l1_1.length l1_1) (hc1_1 : l1_1.length ≤ c1_1) (h : impl_StrongProduct.f k a0_0 l0_1 a1_0 l1_1 = some (r1, r2, r3)) :
  Calls Try.prog 40 #[.agg #[.int .i64 a0_0, .slice A0_1 l0_1.length c0_1], .agg #[.int .i64 a1_0, .slice A1_1 l1_1.length c1_1]] w fun e w' => ∃ v1_ : Value, e = .returned (.tuple #[.agg #[.int .i64 r1, v1_], .bool r3]) ∧ Kd.R k71 71 w' w.heap.size (fun _ => True) v1_ r2 ∧ Below w.heap.size w w' := by
 have hu30 := Try.underlying30
 have HR0_1 := Aside0.mk hr0_1
 have HC0_1 := Aside0.mk hc0_1
 clear hr0_1 hc0_1
 have HR1_1 := Aside0.mk hr1_1
 have HC1_1 := Aside0.mk hc1_1
 clear hr1_1 hc1_1
 have HB := am (Below.refl w.heap.size w)
 have H : ((impl_productS.f k a0_0 l0_1 a1_0 l1_1).bind fun bt104 => (some (bt104.1, bt104.2.1, bt104.2.2))) = some (r1, r2, r3) := h
 clear h
 replace H := (ob H)
 obtain ⟨⟨t104, t105, t108⟩, A30, H⟩ := H
 (try dsimp only at H)
 have A3 := Aside0.mk A30
 clear A30
 simp only [Option.some.injEq, Prod.mk.injEq] at H
 obtain ⟨rfl, rfl, rfl⟩ := H
 go_enter Try.func40, Try.ntmps40
 go_wp2_with (first | ((with_reducible refine gate_dst (N := 2) rfl ?_); refine box_event (by rfl) (N := 2) (by rfl) (cs := #[.int .i64 a0_0, .slice A0_1 l0_1.length c0_1]) (t := 30) Qr ?_; intro gb101 hg w4 hbox hb; have BK101 := am (hbox); have GE101 := ge HB hg; replace HB := bs HB hb; clear hb hbox hg) | ((with_reducible refine gate_dst (N := 3) rfl ?_); refine box_event (by rfl) (N := 3) (by rfl) (cs := #[.int .i64 a1_0, .slice A1_1 l1_1.length c1_1]) (t := 30) Qr ?_; intro gb102 hg w5 hbox hb; have BK102 := am (hbox); have GE102 := ge HB hg; replace HB := bs HB hb; obtain ⟨NB101_102, NB102_101⟩ := ne2 BK101 hg; replace BK101 := bb BK101 hb; clear hb hbox hg) | ((with_reducible refine gate_dst (N := 4) rfl ?_); refine box_event (by rfl) (N := 4) (by rfl) (cs := #[.int .i64 0, .slice none 0 0]) (t := 30) Qr ?_; intro gb103 hg w6 hbox hb; have BK103 := am (hbox); have GE103 := ge HB hg; replace HB := bs HB hb; obtain ⟨NB101_103, NB103_101⟩ := ne2 BK101 hg; replace BK101 := bb BK101 hb; obtain ⟨NB102_103, NB103_102⟩ := ne2 BK102 hg; replace BK102 := bb BK102 hb; clear hb hbox hg; obtain ⟨_, _, _, _⟩ := o4 NB101_102 NB102_101 NB101_103 NB103_101; obtain ⟨_, _, _, _⟩ := b2 BK101; obtain ⟨_, _⟩ := o2 NB102_103 NB103_102; obtain ⟨_, _, _, _⟩ := b2 BK102) | ((with_reducible refine gate_callee (f := 130) rfl ?_); refine goesL_ (some 8) rfl rfl Try.func130 (by kernel_rfl) rfl #[.agg #[.int .i64 a0_0, .slice A0_1 l0_1.length c0_1], .agg #[.int .i64 a1_0, .slice A1_1 l1_1.length c1_1], .func (.func 133) #[] #[]] rfl Q6 ?_; (with_reducible refine (impl_productS.calls k a0_0 _ _ l0_1 a1_0 _ _ l1_1  t104 t105 t108 _ ?side1 ?side2 ?side3 ?side4 A3.out).mono ?_); (case side1 => exact (Q11 HR0_1 HB)); (case side2 => exact HC0_1.out); (case side3 => exact (Q11 HR1_1 HB)); (case side4 => exact HC1_1.out); rintro e w12 ⟨v106, rfl, ho0, hb⟩; refine ⟨_, rfl, ?_⟩; have HO107 := am (Kd.R_lower ho0 (below_size (Q1 HB))); replace BK101 := bb BK101 hb; replace BK102 := bb BK102 hb; replace BK103 := bb BK103 hb; replace HB := bs HB hb; (try clear hb); (try clear ho0); obtain ⟨_, _, _, _⟩ := b2 BK103; obtain ⟨Ao14, co14, eo14⟩ := Kd.R_slice HO107.out; subst eo14))
 refine bodyPost_ret (results_ct rfl _ _ gb103 30 #[.int .i64 t104, .slice Ao14 t105.length co14] (0, 0) _ rfl (Q97 BK103) Try.underlying30 rfl (by kernel_rfl)) rfl ?_
 exact ⟨_, Q19, Q112 HO107 BK103, Q4 HB GE103⟩
/-! ### laws_rBig: function 21 -/
def laws_rBig.f (l0 : List Int) : Option (Bool) := some (decide ((l0.length : Int) > 65536))
set_option maxHeartbeats 8000000 in
set_option maxRecDepth 100000 in
theorem laws_rBig.calls (A0 : Option Addr) (c0 : Nat) (l0 : List Int) (r : Bool) (w : World) (hr0 : Kd.C (Kd.int .u8) w A0 l0.length l0) (hc0 : l0.length ≤ c0) (h : laws_rBig.f l0 = some r) :
  Calls Try.prog 21 #[.slice A0 l0.length c0] w fun e w' => e = .returned (.bool r) ∧ Drawn0 w w' := by
 have HR0 := Aside0.mk hr0
 have HC0 := Aside0.mk hc0
 clear hr0 hc0
 have H : (some (decide ((l0.length : Int) > 65536))) = some r := h
 clear h
 obtain rfl := Option.some.inj H
 go_enter Try.func21, Try.ntmps21
 go_wp2
 go_ret
 exact ⟨Q17, Q51⟩
/-! ### laws_rInts: function 69 -/
def laws_rInts.l0 : Nat → List Int → List Int → Int → Option (Bool)
 | 0, _, _, _ => none
 | k + 1, x0, x1, x5 => if x5 < (x0.length : Int) then (if 0 ≤ x5 then (if x5 < (x1.length : Int) then (if (rd x0 x5) = (rd x1 x5) then (laws_rInts.l0 k x0 x1 (wrap64 (x5 + 1))) else (some false)) else (none)) else (none)) else (some true)
def laws_rInts.f (k : Nat) (l0 : List Int) (l1 : List Int) : Option (Bool) := if (l0.length : Int) = (l1.length : Int) then (laws_rInts.l0 k l0 l1 0) else (some false)
theorem laws_rInts.mono_l : ∀ k, (∀ y0 y1 y2, LeO (laws_rInts.l0 k y0 y1 y2) (laws_rInts.l0 (k + 1) y0 y1 y2))
 | 0 => fun _ _ _ r h => by simp [laws_rInts.l0] at h
 | k + 1 => by
  have ih0 := laws_rInts.mono_l k
  all_goals
   intros
   first | unfold laws_rInts.l0
   repeat' first | (with_reducible first | exact ih0 _ _ _ | exact LeO.refl _ | exact LeO.none _ | refine LeO.ite ?_ ?_ | refine LeO.bind ?_ (fun _ => ?_))
theorem laws_rInts.mono : ∀ a0 a1 k, LeO (laws_rInts.f k a0 a1) (laws_rInts.f (k + 1) a0 a1) := by
 intro a0 a1 k
 have ih0 := laws_rInts.mono_l k
 unfold laws_rInts.f
 repeat' first | (with_reducible first | exact ih0 _ _ _ | exact LeO.refl _ | exact LeO.none _ | refine LeO.ite ?_ ?_ | refine LeO.bind ?_ (fun _ => ?_))
set_option maxHeartbeats 8000000 in
set_option maxRecDepth 100000 in
theorem laws_rInts.calls (k : Nat) (A0 : Option Addr) (c0 : Nat) (l0 : List Int) (A1 : Option Addr) (c1 : Nat) (l1 : List Int) (r : Bool) (w : World) (hr0 : Kd.C (Kd.int .i64) w A0 l0.length l0) (hc0 : l0.length ≤ c0) (hr1 : Kd.C (Kd.int .i64) w A1 l1.length l1) (hc1 : l1.length ≤ c1) (h : laws_rInts.f k l0 l1 = some r) :
  Calls Try.prog 69 #[.slice A0 l0.length c0, .slice A1 l1.length c1] w fun e w' => e = .returned (.bool r) ∧ Drawn0 w w' := by
 have HR0 := Aside0.mk hr0
 have HC0 := Aside0.mk hc0
 clear hr0 hc0
 have HR1 := Aside0.mk hr1
 have HC1 := Aside0.mk hc1
 clear hr1 hc1
 have H : (if (l0.length : Int) = (l1.length : Int) then (laws_rInts.l0 k l0 l1 0) else (some false)) = some r := h
 clear h
 by_cases c3 : (l0.length : Int) = (l1.length : Int)
 ·rw [if_pos c3] at H
  have c3b0 := beq_iff_eq.mpr c3; have c3b1 := bne_eq_false_iff_eq.mpr c3; have c3b2 : (l0.length == l1.length) = true := by first | simpa using c3 | (simp at c3 ⊢; omega)
  clear c3; have H' := Aside0.mk H; clear H
  go_enter Try.func69, Try.ntmps69
  go_wp2
  repeat (go_quiet (fail); try go_wp2)
  go_loopg [5] k (fun kq v5 w' => ∃ (x5_1 : Int), v5 = .int .i64 x5_1 ∧ Aside0 (laws_rInts.l0 kq l0 l1 x5_1 = some r) ∧ Aside0 (kq ≤ k) ∧ Drawn0 w w')
  case atStart => exact ⟨(0), Q17, H', ⟨Nat.le_refl _⟩, Q51⟩
  case round =>
   clear H'
   obtain ⟨x5_1, rfl, HA, HK1, ⟨m1, rfl⟩⟩ := hrel
   cases gk with
   | zero => exact absurd HA.out (by simp [laws_rInts.l0])
   | succ k1 =>
    have H := HA.out; clear HA
    simp only [laws_rInts.l0] at H
    by_cases c4 : x5_1 < (l0.length : Int)
    ·rw [if_pos c4] at H
     have c4b0 := decide_eq_true c4; clear c4
     obtain ⟨c5, H⟩ := ifn H
     have c5b0 := decide_eq_true c5; clear c5
     obtain ⟨c6, H⟩ := ifn H
     have c6b0 := decide_eq_true c6; clear c6; have HU7 := Aside0.mk H; clear H; have p101 : 0 ≤ (x5_1 : Int) := D4; have q101 : x5_1 < (l0.length : Int) := D4; obtain ⟨ad101, e101, hx101_0⟩ := Kd.at_int HR0.out x5_1 p101 q101
     cases e101
     replace p101 := eq_true p101; replace q101 := eq_true q101; have p102 : 0 ≤ (x5_1 : Int) := D4; have q102 : x5_1 < (l1.length : Int) := D4; obtain ⟨ad102, e102, hx102_0⟩ := Kd.at_int HR1.out x5_1 p102 q102
     cases e102
     replace p102 := eq_true p102; replace q102 := eq_true q102
     go_upto_if 25 with (fail)
     repeat (go_quiet (fail); go_upto_if 25 with (fail))
     have H := HU7.out; clear HU7
     by_cases c8 : (rd l0 x5_1) = (rd l1 x5_1)
     ·rw [if_pos c8] at H
      have c8b0 := beq_iff_eq.mpr c8; have c8b1 := bne_eq_false_iff_eq.mpr c8; clear c8
      (first | rw [c8b0] | (simp only [i64_w, i32_w]; rw [c8b0]) | rw [c8b1] | skip)
      have H' := Aside0.mk H; clear H
      go_wp2
      repeat (go_quiet (fail); try go_wp2)
      go_roundg k1
      case measure => have := HK1.out; omega
      case rel => exact ⟨(wrap64 (x5_1 + 1)), Q17, H', ⟨Q163⟩, Q51⟩
     ·rw [if_neg c8] at H
      have c8b0 := beq_eq_false_iff_ne.mpr c8; have c8b1 := bne_iff_ne.mpr c8
      (first | rw [c8b0] | (simp only [i64_w, i32_w]; rw [c8b0]) | rw [c8b1] | skip)
      obtain rfl := Option.some.inj H
      go_wp2
      repeat (go_quiet (fail); try go_wp2)
      go_ret
      exact ⟨Q17, Q51⟩
    ·rw [if_neg c4] at H
     have c4b0 := decide_eq_false c4; clear c4; obtain rfl := Option.some.inj H
     go_wp2
     repeat (go_quiet (fail); try go_wp2)
     go_ret
     exact ⟨Q17, Q51⟩
 ·rw [if_neg c3] at H
  have c3b0 := beq_eq_false_iff_ne.mpr c3; have c3b1 := bne_iff_ne.mpr c3; have c3b2 : (l0.length == l1.length) = false := by first | simpa using c3 | (simp at c3 ⊢; omega)
  obtain rfl := Option.some.inj H
  go_enter Try.func69, Try.ntmps69
  go_wp2
  repeat (go_quiet (fail); try go_wp2)
  go_ret
  exact ⟨Q17, Q51⟩
/-! ### laws_rTable: function 72 -/
def laws_rTable.l0 : Nat → List (List Int) → List (List Int) → Int → Option (Bool)
 | 0, _, _, _ => none
 | k + 1, x0, x1, x5 => if x5 < (x0.length : Int) then (if 0 ≤ x5 then (if x5 < (x1.length : Int) then ((laws_rInts.f k (rd_L7 x0 x5) (rd_L7 x1 x5)).bind fun t103 => (if t103 = true then (laws_rTable.l0 k x0 x1 (wrap64 (x5 + 1))) else (some false))) else (none)) else (none)) else (some true)
def laws_rTable.f (k : Nat) (l0 : List (List Int)) (l1 : List (List Int)) : Option (Bool) := if (l0.length : Int) = (l1.length : Int) then (laws_rTable.l0 k l0 l1 0) else (some false)
theorem laws_rTable.mono_l : ∀ k, (∀ y0 y1 y2, LeO (laws_rTable.l0 k y0 y1 y2) (laws_rTable.l0 (k + 1) y0 y1 y2))
 | 0 => fun _ _ _ r h => by simp [laws_rTable.l0] at h
 | k + 1 => by
  have ih0 := laws_rTable.mono_l k
  all_goals
   intros
   first | unfold laws_rTable.l0
   repeat' first | (with_reducible first | exact ih0 _ _ _ | exact laws_rInts.mono _ _ _ | exact LeO.refl _ | exact LeO.none _ | refine LeO.ite ?_ ?_ | refine LeO.bind ?_ (fun _ => ?_))
theorem laws_rTable.mono : ∀ a0 a1 k, LeO (laws_rTable.f k a0 a1) (laws_rTable.f (k + 1) a0 a1) := by
 intro a0 a1 k
 have ih0 := laws_rTable.mono_l k
 unfold laws_rTable.f
 repeat' first | (with_reducible first | exact ih0 _ _ _ | exact laws_rInts.mono _ _ _ | exact LeO.refl _ | exact LeO.none _ | refine LeO.ite ?_ ?_ | refine LeO.bind ?_ (fun _ => ?_))
set_option maxHeartbeats 8000000 in
set_option maxRecDepth 100000 in
theorem laws_rTable.calls (k : Nat) (A0 : Option Addr) (c0 : Nat) (l0 : List (List Int)) (A1 : Option Addr) (c1 : Nat) (l1 : List (List Int)) (r : Bool) (w : World) (hr0 : Kd.C (Kd.slice 3 (Kd.int .i64)) w A0 l0.length l0) (hc0 : l0.length ≤ c0) (hr1 : Kd.C (Kd.slice 3 (Kd.int .i64)) w A1 l1.length l1) (hc1 : l1.length ≤ c1) (h : laws_rTable.f k l0 l1 = some r) :
  Calls Try.prog 72 #[.slice A0 l0.length c0, .slice A1 l1.length c1] w fun e w' => e = .returned (.bool r) ∧ Drawn0 w w' := by
 have HR0 := Aside0.mk hr0
 have HC0 := Aside0.mk hc0
 clear hr0 hc0
 have HR1 := Aside0.mk hr1
 have HC1 := Aside0.mk hc1
 clear hr1 hc1
 have H : (if (l0.length : Int) = (l1.length : Int) then (laws_rTable.l0 k l0 l1 0) else (some false)) = some r := h
 clear h
 by_cases c3 : (l0.length : Int) = (l1.length : Int)
 ·rw [if_pos c3] at H
  have c3b0 := beq_iff_eq.mpr c3; have c3b1 := bne_eq_false_iff_eq.mpr c3; have c3b2 : (l0.length == l1.length) = true := by first | simpa using c3 | (simp at c3 ⊢; omega)
  clear c3; have H' := Aside0.mk H; clear H
  go_enter Try.func72, Try.ntmps72
  go_wp2
  repeat (go_quiet (fail); try go_wp2)
  go_loopg [5] k (fun kq v5 w' => ∃ (x5_1 : Int), v5 = .int .i64 x5_1 ∧ Aside0 (laws_rTable.l0 kq l0 l1 x5_1 = some r) ∧ Aside0 (kq ≤ k) ∧ Drawn0 w w')
  case atStart => exact ⟨(0), Q17, H', ⟨Nat.le_refl _⟩, Q51⟩
  case round =>
   clear H'
   obtain ⟨x5_1, rfl, HA, HK1, ⟨m1, rfl⟩⟩ := hrel
   cases gk with
   | zero => exact absurd HA.out (by simp [laws_rTable.l0])
   | succ k1 =>
    have H := HA.out; clear HA
    simp only [laws_rTable.l0] at H
    by_cases c4 : x5_1 < (l0.length : Int)
    ·rw [if_pos c4] at H
     have c4b0 := decide_eq_true c4; clear c4
     obtain ⟨c5, H⟩ := ifn H
     have c5b0 := decide_eq_true c5; clear c5
     obtain ⟨c6, H⟩ := ifn H
     have c6b0 := decide_eq_true c6; clear c6; replace H := (ob H); obtain ⟨t103, A70, H⟩ := H; (try dsimp only at H); have A7 := Aside0.mk A70; clear A70; have HU8 := Aside0.mk H; clear H; have p101 : 0 ≤ (x5_1 : Int) := D4; have q101 : x5_1 < (l0.length : Int) := D4; obtain ⟨ad101, A101_0, c101_0, e101, hx101_0, hl101_0, hi101_0⟩ := at_L7 HR0.out x5_1 p101 q101
     cases e101
     have HR101_0 := Aside0.mk hi101_0; have HC101_0 := Aside0.mk hl101_0; clear hi101_0 hl101_0; replace p101 := eq_true p101; replace q101 := eq_true q101; have p102 : 0 ≤ (x5_1 : Int) := D4; have q102 : x5_1 < (l1.length : Int) := D4; obtain ⟨ad102, A102_0, c102_0, e102, hx102_0, hl102_0, hi102_0⟩ := at_L7 HR1.out x5_1 p102 q102
     cases e102
     have HR102_0 := Aside0.mk hi102_0; have HC102_0 := Aside0.mk hl102_0; clear hi102_0 hl102_0; replace p102 := eq_true p102; replace q102 := eq_true q102
     go_upto_if 26 with (first | (go_at_call 69; (with_reducible refine (laws_rInts.calls k1 _ _ (rd_L7 l0 x5_1) _ _ (rd_L7 l1 x5_1) t103 _ ?side1 ?side2 ?side3 ?side4 A7.out).mono ?_); (case side1 => exact (Q100 HR101_0)); (case side2 => exact HC101_0.out); (case side3 => exact (Q100 HR102_0)); (case side4 => exact HC102_0.out); rintro e w' ⟨rfl, ⟨nd, rfl⟩⟩; (try first | exact ⟨rfl, _, World.drewN_drewN _ _ _⟩ | exact ⟨rfl, _, Eq.trans (World.drewN_drewN _ _ _) (congrArg (World.drewN _) (Nat.add_assoc _ _ _))⟩)))
     repeat (go_quiet (first | (go_at_call 69; (with_reducible refine (laws_rInts.calls k1 _ _ (rd_L7 l0 x5_1) _ _ (rd_L7 l1 x5_1) t103 _ ?side1 ?side2 ?side3 ?side4 A7.out).mono ?_); (case side1 => exact (Q100 HR101_0)); (case side2 => exact HC101_0.out); (case side3 => exact (Q100 HR102_0)); (case side4 => exact HC102_0.out); rintro e w' ⟨rfl, ⟨nd, rfl⟩⟩; (try first | exact ⟨rfl, _, World.drewN_drewN _ _ _⟩ | exact ⟨rfl, _, Eq.trans (World.drewN_drewN _ _ _) (congrArg (World.drewN _) (Nat.add_assoc _ _ _))⟩))); go_upto_if 26 with (first | (go_at_call 69; (with_reducible refine (laws_rInts.calls k1 _ _ (rd_L7 l0 x5_1) _ _ (rd_L7 l1 x5_1) t103 _ ?side1 ?side2 ?side3 ?side4 A7.out).mono ?_); (case side1 => exact (Q100 HR101_0)); (case side2 => exact HC101_0.out); (case side3 => exact (Q100 HR102_0)); (case side4 => exact HC102_0.out); rintro e w' ⟨rfl, ⟨nd, rfl⟩⟩; (try first | exact ⟨rfl, _, World.drewN_drewN _ _ _⟩ | exact ⟨rfl, _, Eq.trans (World.drewN_drewN _ _ _) (congrArg (World.drewN _) (Nat.add_assoc _ _ _))⟩))))
     (try simp only [Act.put, List.setIfInBounds_toArray, List.set_cons_zero, List.set_cons_succ]); have H := HU8.out; clear HU8
     by_cases c9 : t103 = true
     ·subst c9
      have H1 : (laws_rTable.l0 k1 l0 l1 (wrap64 (x5_1 + 1))) = some r := by rw [if_pos rfl] at H; exact H
      clear H; have H := H1; clear H1; have H' := Aside0.mk H; clear H
      go_wp2
      repeat (go_quiet (fail); try go_wp2)
      go_roundg k1
      case measure => have := HK1.out; omega
      case rel => exact ⟨(wrap64 (x5_1 + 1)), Q17, H', ⟨Q163⟩, Q51⟩
     ·replace c9 := Bool.eq_false_iff.mpr c9
      subst c9; have H1 : (some false) = some r := by rw [if_neg (show ¬ (false = true) by decide)] at H; exact H
      clear H; have H := H1; clear H1; obtain rfl := Option.some.inj H
      go_wp2
      repeat (go_quiet (fail); try go_wp2)
      go_ret
      exact ⟨Q17, Q51⟩
    ·rw [if_neg c4] at H
     have c4b0 := decide_eq_false c4; clear c4; obtain rfl := Option.some.inj H
     go_wp2
     repeat (go_quiet (fail); try go_wp2)
     go_ret
     exact ⟨Q17, Q51⟩
 ·rw [if_neg c3] at H
  have c3b0 := beq_eq_false_iff_ne.mpr c3; have c3b1 := bne_iff_ne.mpr c3; have c3b2 : (l0.length == l1.length) = false := by first | simpa using c3 | (simp at c3 ⊢; omega)
  obtain rfl := Option.some.inj H
  go_enter Try.func72, Try.ntmps72
  go_wp2
  repeat (go_quiet (fail); try go_wp2)
  go_ret
  exact ⟨Q17, Q51⟩
/-! ### spec_l2Near: function 137 -/
def spec_l2Near.l0 : Nat → Int → Int → Int → Int → List (S71) → Option (Bool)
 | 0, _, _, _, _, _ => none
 | k + 1, x1, x2, x7, x102000, x102001 => if x7 < (x102001.length : Int) then (if 0 ≤ x7 then (if ((rd_T71 x102001 x7).f0) = x1 then (if ((rd_T71 x102001 x7).f1) = x2 then (some true) else (if ((rd_T71 x102001 x7).f0) = x2 then (if ((rd_T71 x102001 x7).f1) = x1 then (some true) else (spec_l2Near.l0 k x1 x2 (wrap64 (x7 + 1)) x102000 x102001)) else (spec_l2Near.l0 k x1 x2 (wrap64 (x7 + 1)) x102000 x102001))) else (if ((rd_T71 x102001 x7).f0) = x2 then (if ((rd_T71 x102001 x7).f1) = x1 then (some true) else (spec_l2Near.l0 k x1 x2 (wrap64 (x7 + 1)) x102000 x102001)) else (spec_l2Near.l0 k x1 x2 (wrap64 (x7 + 1)) x102000 x102001))) else (none)) else (some false)
def spec_l2Near.f (k : Nat) (a0_0 : Int) (l0_1 : List (S71)) (a1 : Int) (a2 : Int) : Option (Bool) := spec_l2Near.l0 k a1 a2 0 a0_0 l0_1
theorem spec_l2Near.mono_l : ∀ k, (∀ y0 y1 y2 y3 y4, LeO (spec_l2Near.l0 k y0 y1 y2 y3 y4) (spec_l2Near.l0 (k + 1) y0 y1 y2 y3 y4))
 | 0 => fun _ _ _ _ _ r h => by simp [spec_l2Near.l0] at h
 | k + 1 => by
  have ih0 := spec_l2Near.mono_l k
  all_goals
   intros
   first | unfold spec_l2Near.l0
   repeat' first | (with_reducible first | exact ih0 _ _ _ _ _ | exact LeO.refl _ | exact LeO.none _ | refine LeO.ite ?_ ?_ | refine LeO.bind ?_ (fun _ => ?_))
theorem spec_l2Near.mono : ∀ a0 a1 a2 a3 k, LeO (spec_l2Near.f k a0 a1 a2 a3) (spec_l2Near.f (k + 1) a0 a1 a2 a3) := by
 intro a0 a1 a2 a3 k
 have ih0 := spec_l2Near.mono_l k
 unfold spec_l2Near.f
 repeat' first | (with_reducible first | exact ih0 _ _ _ _ _ | exact LeO.refl _ | exact LeO.none _ | refine LeO.ite ?_ ?_ | refine LeO.bind ?_ (fun _ => ?_))
set_option maxHeartbeats 8000000 in
set_option maxRecDepth 100000 in
theorem spec_l2Near.calls (k : Nat) (a0_0 : Int) (A0_1 : Option Addr) (c0_1 : Nat) (l0_1 : List (S71)) (a1 : Int) (a2 : Int) (r : Bool) (w : World) (hr0_1 : Kd.C k71 w A0_1 l0_1.length l0_1) (hc0_1 : l0_1.length ≤ c0_1) (h : spec_l2Near.f k a0_0 l0_1 a1 a2 = some r) :
  Calls Try.prog 137 #[.agg #[.int .i64 a0_0, .slice A0_1 l0_1.length c0_1], .int .i64 a1, .int .i64 a2] w fun e w' => e = .returned (.bool r) ∧ Below w.heap.size w w' := by
 have hu30 := Try.underlying30
 have hu71 := Try.underlying71
 have HR0_1 := Aside0.mk hr0_1
 have HC0_1 := Aside0.mk hc0_1
 clear hr0_1 hc0_1
 have HB := am (Below.refl w.heap.size w)
 have H : (spec_l2Near.l0 k a1 a2 0 a0_0 l0_1) = some r := h
 clear h
 have H' := Aside0.mk H
 clear H
 go_enter Try.func137, Try.ntmps137
 go_wp2_with (first | ((with_reducible refine gate_dst (N := 3) rfl ?_); refine box_event (by rfl) (N := 3) (by rfl) (cs := #[.int .i64 a0_0, .slice A0_1 l0_1.length c0_1]) (t := 30) Qr ?_; intro gb101 hg w4 hbox hb; have BK101 := am (hbox); have GE101 := ge HB hg; replace HB := bs HB hb; clear hb hbox hg))
 go_loopg [7] k (fun kq v7 w' => ∃ (x7_1 : Int), v7 = .int .i64 x7_1 ∧ Aside0 (spec_l2Near.l0 kq a1 a2 x7_1 a0_0 l0_1 = some r) ∧ Aside0 (kq ≤ k) ∧ Aside0 (w'.heap[gb101]? = some (.cells #[.int .i64 a0_0, (.slice A0_1 l0_1.length c0_1)] 30 (0, 0))) ∧ Aside0 (Below w.heap.size w w'))
 case atStart => exact ⟨(0), Q17, H', ⟨Nat.le_refl _⟩, ⟨Q0 BK101⟩, ⟨Q1 HB⟩⟩
 case round =>
  clear H'
  obtain ⟨x7_1, rfl, HA, HK1, BK101, HB⟩ := hrel
  cases gk with
  | zero => exact absurd HA.out (by simp [spec_l2Near.l0])
  | succ k1 =>
   have H := HA.out; clear HA
   simp only [spec_l2Near.l0] at H
   by_cases c5 : x7_1 < (l0_1.length : Int)
   ·rw [if_pos c5] at H
    have c5b0 := decide_eq_true c5; clear c5
    obtain ⟨c6, H⟩ := ifn H
    have c6b0 := decide_eq_true c6; clear c6; have HU7 := Aside0.mk H; clear H; obtain ⟨_, _, _, _⟩ := b2 BK101; have p102 : 0 ≤ (x7_1 : Int) := D4; have q102 : x7_1 < (l0_1.length : Int) := D4; obtain ⟨ad102, e102, hx102_0, hx102_1⟩ := at_T71 HR0_1.out x7_1 p102 q102
    cases e102
    replace hx102_0 := (HB.out.cell (World.block_lt_of_cell? w _ hx102_0)).trans hx102_0; replace hx102_1 := (HB.out.cell (World.block_lt_of_cell? w _ hx102_1)).trans hx102_1; replace p102 := eq_true p102; replace q102 := eq_true q102
    go_upto_region 5 with (first | ((with_reducible refine gate_dst (N := 8) rfl ?_); refine box_event (by rfl) (N := 8) (by rfl) (cs := #[.int .i64 0, .int .i64 0]) (t := 71) Qr ?_; intro gb103 hg w9 hbox hb; have BK103 := am (hbox); have GE103 := ge HB hg; replace HB := bs HB hb; have NB101_103 := am ((by rw [hg]; exact Nat.ne_of_lt (blk_lt (g := gb101) (o := .cells #[.int .i64 a0_0, .slice (some ad102) l0_1.length c0_1] 30 (0, 0)) (Q0 BK101)) : gb101 ≠ gb103)); have NB103_101 := am ((by rw [hg]; exact Nat.ne_of_gt (blk_lt (g := gb101) (o := .cells #[.int .i64 a0_0, .slice (some ad102) l0_1.length c0_1] 30 (0, 0)) (Q0 BK101)) : gb103 ≠ gb101)); replace BK101 := bb BK101 hb; clear hb hbox hg; obtain ⟨_, _⟩ := o2 NB103_101 NB101_103; obtain ⟨_, _, _, _⟩ := b2 BK103))
    (try simp only [Act.put, List.setIfInBounds_toArray, List.set_cons_zero, List.set_cons_succ]); have H := HU7.out; clear HU7
    by_cases c12 : ((rd_T71 l0_1 x7_1).f0) = a1
    ·rw [if_pos c12] at H
     have c12b0 := beq_iff_eq.mpr c12; have c12b1 := bne_eq_false_iff_eq.mpr c12; clear c12
     by_cases c13 : ((rd_T71 l0_1 x7_1).f1) = a2
     ·rw [if_pos c13] at H
      have c13b0 := beq_iff_eq.mpr c13; have c13b1 := bne_eq_false_iff_eq.mpr c13; clear c13; obtain rfl := Option.some.inj H; obtain ⟨_, _⟩ := o2 NB103_101 NB101_103; obtain ⟨_, _, _, _⟩ := b2 BK103
      go_wp2
      go_ret
      exact ⟨Q19, Q4 HB GE103⟩
     ·rw [if_neg c13] at H
      have c13b0 := beq_eq_false_iff_ne.mpr c13; have c13b1 := bne_iff_ne.mpr c13
      by_cases c16 : ((rd_T71 l0_1 x7_1).f0) = a2
      ·rw [if_pos c16] at H
       have c16b0 := beq_iff_eq.mpr c16; have c16b1 := bne_eq_false_iff_eq.mpr c16; clear c16
       by_cases c17 : ((rd_T71 l0_1 x7_1).f1) = a1
       ·rw [if_pos c17] at H
        have c17b0 := beq_iff_eq.mpr c17; have c17b1 := bne_eq_false_iff_eq.mpr c17; clear c17; obtain rfl := Option.some.inj H; obtain ⟨_, _⟩ := o2 NB103_101 NB101_103; obtain ⟨_, _, _, _⟩ := b2 BK103
        go_wp2
        go_ret
        exact ⟨Q19, Q4 HB GE103⟩
       ·rw [if_neg c17] at H
        have c17b0 := beq_eq_false_iff_ne.mpr c17; have c17b1 := bne_iff_ne.mpr c17; have H' := Aside0.mk H; clear H; obtain ⟨_, _⟩ := o2 NB103_101 NB101_103; obtain ⟨_, _, _, _⟩ := b2 BK103
        go_wp2
        go_roundg k1
        case measure => have := HK1.out; omega
        case rel => exact ⟨(wrap64 (x7_1 + 1)), Q17, H', ⟨Q163⟩, ⟨Q2 NB101_103 BK101⟩, ⟨Q4 HB GE103⟩⟩
      ·rw [if_neg c16] at H
       have c16b0 := beq_eq_false_iff_ne.mpr c16; have c16b1 := bne_iff_ne.mpr c16; have H' := Aside0.mk H; clear H; obtain ⟨_, _⟩ := o2 NB103_101 NB101_103; obtain ⟨_, _, _, _⟩ := b2 BK103
       go_wp2
       go_roundg k1
       case measure => have := HK1.out; omega
       case rel => exact ⟨(wrap64 (x7_1 + 1)), Q17, H', ⟨Q163⟩, ⟨Q2 NB101_103 BK101⟩, ⟨Q4 HB GE103⟩⟩
    ·rw [if_neg c12] at H
     have c12b0 := beq_eq_false_iff_ne.mpr c12; have c12b1 := bne_iff_ne.mpr c12
     by_cases c24 : ((rd_T71 l0_1 x7_1).f0) = a2
     ·rw [if_pos c24] at H
      have c24b0 := beq_iff_eq.mpr c24; have c24b1 := bne_eq_false_iff_eq.mpr c24; clear c24
      by_cases c25 : ((rd_T71 l0_1 x7_1).f1) = a1
      ·rw [if_pos c25] at H
       have c25b0 := beq_iff_eq.mpr c25; have c25b1 := bne_eq_false_iff_eq.mpr c25; clear c25; obtain rfl := Option.some.inj H; obtain ⟨_, _⟩ := o2 NB103_101 NB101_103; obtain ⟨_, _, _, _⟩ := b2 BK103
       go_wp2
       go_ret
       exact ⟨Q19, Q4 HB GE103⟩
      ·rw [if_neg c25] at H
       have c25b0 := beq_eq_false_iff_ne.mpr c25; have c25b1 := bne_iff_ne.mpr c25; have H' := Aside0.mk H; clear H; obtain ⟨_, _⟩ := o2 NB103_101 NB101_103; obtain ⟨_, _, _, _⟩ := b2 BK103
       go_wp2
       go_roundg k1
       case measure => have := HK1.out; omega
       case rel => exact ⟨(wrap64 (x7_1 + 1)), Q17, H', ⟨Q163⟩, ⟨Q2 NB101_103 BK101⟩, ⟨Q4 HB GE103⟩⟩
     ·rw [if_neg c24] at H
      have c24b0 := beq_eq_false_iff_ne.mpr c24; have c24b1 := bne_iff_ne.mpr c24; have H' := Aside0.mk H; clear H; obtain ⟨_, _⟩ := o2 NB103_101 NB101_103; obtain ⟨_, _, _, _⟩ := b2 BK103
      go_wp2
      go_roundg k1
      case measure => have := HK1.out; omega
      case rel => exact ⟨(wrap64 (x7_1 + 1)), Q17, H', ⟨Q163⟩, ⟨Q2 NB101_103 BK101⟩, ⟨Q4 HB GE103⟩⟩
   ·rw [if_neg c5] at H
    have c5b0 := decide_eq_false c5; clear c5; obtain rfl := Option.some.inj H; obtain ⟨_, _, _, _⟩ := b2 BK101
    go_wp2
    go_ret
    exact ⟨Q19, Q1 HB⟩
end Go.Proofs.Ytcjddikalgnhpaa.P
