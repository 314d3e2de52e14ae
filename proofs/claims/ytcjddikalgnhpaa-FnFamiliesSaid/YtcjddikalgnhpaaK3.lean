/- Functions of the program as Lean functions, that each call comes to what they say, and what holds of them; part 3 of 14; no conditions beyond those that each theorem names. -/
import Derived.Test.YtcjddikalgnhpaaK1
import Derived.Test.YtcjddikalgnhpaaK2
namespace Go.Proofs.Ytcjddikalgnhpaa.P
open Go.RowKit Go.Proofs.YtcjddikalgnhpaaW.PrintWords Go.Proofs.YtcjddikalgnhpaaW.PrintLast Go.Proofs.YtcjddikalgnhpaaW.PrintMore
attribute [local go_sem] max2_int min2_int max_two min_two max_three min_three max_four min_four   -- for this text's walks alone
set_option linter.unusedVariables false
set_option linter.unusedSimpArgs false
/-! ### impl_netOf: function 101 -/
def impl_netOf.l0 : Nat → List (S71) → Int → Int → List Int → Option (List Int)
 | 0, _, _, _, _ => none
 | k + 1, x11, x12, x13, x107000 => if x13 < x12 then (if 0 ≤ x13 then (if x13 < (x11.length : Int) then (if 0 ≤ ((rd_T71 x11 x13).f0) then (if ((rd_T71 x11 x13).f0) < (x107000.length : Int) then (if 0 ≤ ((rd_T71 x11 x13).f1) then ((some (x107000.set (((rd_T71 x11 x13).f0) : Int).toNat (Go.bits .or .i64 (rd x107000 ((rd_T71 x11 x13).f0)) (shl .i64 1 ((rd_T71 x11 x13).f1))) : List Int)).bind fun y110 => (if ((rd_T71 x11 x13).f1) < (x107000.length : Int) then (impl_netOf.l0 k x11 x12 (wrap64 (x13 + 1)) (y110.set (((rd_T71 x11 x13).f1) : Int).toNat (Go.bits .or .i64 (rd y110 ((rd_T71 x11 x13).f1)) (shl .i64 1 ((rd_T71 x11 x13).f0))))) else (none))) else (none)) else (none)) else (none)) else (none)) else (none)) else (some x107000)
def impl_netOf.f (k : Nat) (a0_0 : Int) (l0_1 : List (S71)) : Option (List Int) := if 0 ≤ a0_0 then (if (a0_0 : Int).toNat ≤ 35184372088832 then (impl_netOf.l0 k l0_1 (l0_1.length : Int) 0 (List.replicate (a0_0 : Int).toNat 0)) else (none)) else (none)
theorem impl_netOf.mono_l : ∀ k, (∀ y0 y1 y2 y3, LeO (impl_netOf.l0 k y0 y1 y2 y3) (impl_netOf.l0 (k + 1) y0 y1 y2 y3))
 | 0 => fun _ _ _ _ r h => by simp [impl_netOf.l0] at h
 | k + 1 => by
  have ih0 := impl_netOf.mono_l k
  all_goals
   intros
   first | unfold impl_netOf.l0
   repeat' first | (with_reducible first | exact ih0 _ _ _ _ | exact LeO.refl _ | exact LeO.none _ | refine LeO.ite ?_ ?_ | refine LeO.bind ?_ (fun _ => ?_))
theorem impl_netOf.mono : ∀ a0 a1 k, LeO (impl_netOf.f k a0 a1) (impl_netOf.f (k + 1) a0 a1) := by
 intro a0 a1 k
 have ih0 := impl_netOf.mono_l k
 unfold impl_netOf.f
 repeat' first | (with_reducible first | exact ih0 _ _ _ _ | exact LeO.refl _ | exact LeO.none _ | refine LeO.ite ?_ ?_ | refine LeO.bind ?_ (fun _ => ?_))
def impl_netOf.T5 : Bool × List (List Nat × List Nat) := (true, [([], []), ([0], [0]), ([], []), ([2], [2]), ([1, 3], [1, 3]), ([4], [4]), ([], []), ([6], [6]), ([7], [7]), ([5, 8], [5, 8]), ([1, 3, 0, 1, 2, 3, 4, 5, 6, 7, 8, 9], [1, 3]), ([10, 9, 0, 1, 2, 3, 4, 5, 6, 7, 8, 9], [9, 10])])
def impl_netOf.B5 : List Nat := [0, 1, 0, 4, 15, 31, 0, 64, 192, 511, 1023, 2047]
theorem impl_netOf.tab5 : rtab .any (opsOf Try.f101 5) = impl_netOf.T5 := by kernel_rfl
theorem impl_netOf.bits5 : waitsOk impl_netOf.T5.2 impl_netOf.B5 = true := by kernel_rfl
def impl_netOf.T6 : Bool × List (List Nat × List Nat) := (true, [([], []), ([0], [0]), ([], []), ([2], [2]), ([1, 3], [1, 3]), ([4], [4]), ([], []), ([6], [6]), ([7], [7]), ([5, 8], [5, 8]), ([1, 3, 0, 1, 2, 3, 4, 5, 6, 7, 8, 9], [1, 3]), ([10, 9, 0, 1, 2, 3, 4, 5, 6, 7, 8, 9], [9, 10])])
def impl_netOf.B6 : List Nat := [0, 1, 0, 4, 15, 31, 0, 64, 192, 511, 1023, 2047]
theorem impl_netOf.tab6 : rtab .any (opsOf Try.f101 6) = impl_netOf.T6 := by kernel_rfl
theorem impl_netOf.bits6 : waitsOk impl_netOf.T6.2 impl_netOf.B6 = true := by kernel_rfl
set_option maxHeartbeats 8000000 in
set_option maxRecDepth 100000 in
theorem impl_netOf.calls (k : Nat) (a0_0 : Int) (A0_1 : Option Addr) (c0_1 : Nat) (l0_1 : List (S71)) (r : List Int) (w : World) (hr0_1 : Kd.C k71 w A0_1 l0_1.length l0_1) (hc0_1 : l0_1.length ≤ c0_1) (h : impl_netOf.f k a0_0 l0_1 = some r) :
  Calls Try.prog 101 #[.agg #[.int .i64 a0_0, .slice A0_1 l0_1.length c0_1]] w fun e w' => ∃ v0_ : Value, e = .returned (.agg #[v0_]) ∧ Kd.R (Kd.int .i64) 3 w' w.heap.size (fun _ => True) v0_ r ∧ Below w.heap.size w w' := by
 have hu30 := Try.underlying30
 have hu90 := Try.underlying90
 have hu71 := Try.underlying71
 have HR0_1 := Aside0.mk hr0_1
 have HC0_1 := Aside0.mk hc0_1
 clear hr0_1 hc0_1
 have HB := am (Below.refl w.heap.size w)
 have H : (if 0 ≤ a0_0 then (if (a0_0 : Int).toNat ≤ 35184372088832 then (impl_netOf.l0 k l0_1 (l0_1.length : Int) 0 (List.replicate (a0_0 : Int).toNat 0)) else (none)) else (none)) = some r := h
 clear h
 by_cases c2 : 0 ≤ a0_0
 ·rw [if_pos c2] at H
  have c2b0 := eq_true c2; have c2b1 := decide_eq_true c2; clear c2
  by_cases c3 : (a0_0 : Int).toNat ≤ 35184372088832
  ·rw [if_pos c3] at H
   have c3b0 := eq_true c3; have c3b1 := decide_eq_true c3; clear c3; obtain ⟨y103, hy103⟩ : ∃ y_ : List Int, y_ = (List.replicate (a0_0 : Int).toNat 0) := ⟨_, rfl⟩; replace H : (impl_netOf.l0 k l0_1 (l0_1.length : Int) 0 y103) = some r := RH hy103 H; have Ny103 := Aside0.mk hy103; clear hy103; have H' := Aside0.mk H; clear H
   go_enter Try.func101, Try.ntmps101
   go_wp2_with (first | ((with_reducible refine gate_dst (N := 1) rfl ?_); refine box_event ?hg (N := 1) ?hd (cs := #[.int .i64 a0_0, .slice A0_1 l0_1.length c0_1]) (t := 30) ?hr ?_; (case hd => rfl); (case hg => rfl); (case hr => first | (go_simp; done) | (go_simp; rfl)); intro gb101 hg w4 hbox hb; have BK101 := am (hbox); have GW101 := am ((Q25 : w.heap.size ≤ gb101)); have GE101 := am ((Q25 : w.heap.size ≤ gb101)); replace HB := am (below_step (Q1 HB) hb); clear hb hbox hg) | ((with_reducible refine gate_dst (N := 2) rfl ?_); refine box_event ?hg (N := 2) ?hd (cs := #[.slice none 0 0]) (t := 90) ?hr ?_; (case hd => rfl); (case hg => rfl); (case hr => first | (go_simp; done) | (go_simp; rfl)); intro gb102 hg w5 hbox hb; have BK102 := am (hbox); have GW102 := am ((Q25 : w.heap.size ≤ gb102)); have GE102 := am ((Q25 : w.heap.size ≤ gb102)); replace HB := am (below_step (Q1 HB) hb); have NB101_102 := am ((Q28 : gb101 ≠ gb102)); have NB102_101 := am ((Q29 : gb102 ≠ gb101)); replace BK101 := am (blk_below (g := gb101) (o := .cells #[.int .i64 a0_0, .slice A0_1 l0_1.length c0_1] 30 (0, 0)) (Q0 BK101) hb); clear hb hbox hg; have hnb6 := NB101_102.out; have hnc6 := NB102_101.out; have hcz7_0 : w5.cell? ⟨gb101, 0, none⟩ = some (.int .i64 a0_0) := (blk_cell BK101.out 0).trans rfl; have hcz7_1 : w5.cell? ⟨gb101, 1, none⟩ = some (.slice A0_1 l0_1.length c0_1) := (blk_cell BK101.out 1).trans rfl; have hfz7_0 := blk_frozen BK101.out 0; have hfz7_1 := blk_frozen BK101.out 1) | ((with_reducible refine gate_dst (N := 8) rfl ?_); refine Kd.R_make (Kd.int .i64) _ 3 rfl (N := 8) rfl 25 _ _ rfl a0_0 rfl rfl Try.underlying25 (.int .i64 0) 8 info3 rfl (by decide) (by omega) 0 (ok := fun _ => True) (okp := fun _ => True) rfl (fun _ hk => hk) trivial (of_decide_eq_true Q12) (Nat.le_trans (Nat.mul_le_mul_right _ (of_decide_eq_true Q12 : a0_0.toNat ≤ 35184372088832)) (by omega)) (Below.refl _ _) (Nat.le_refl _) ?_; intro v104 w8 ho9 hb hg_ hnew_; clear hg_ hnew_; (first | rw [← Ny103.out] at ho9 | (simp only [Int.reduceToNat] at ho9; rw [← Ny103.out] at ho9)); have HO105 := am (Kd.R_lower ho9 (below_size (Q1 HB))); replace BK101 := am (blk_below (g := gb101) (o := .cells #[.int .i64 a0_0, .slice A0_1 l0_1.length c0_1] 30 (0, 0)) (Q0 BK101) hb); replace BK102 := am (blk_below (g := gb102) (o := .cells #[.slice none 0 0] 90 (0, 0)) (Q0 BK102) hb); replace HB := am (below_step (Q1 HB) hb); clear hb ho9; obtain ⟨Ao10, co10, eo10⟩ := Kd.R_slice HO105.out; subst eo10) | ((with_reducible refine gate_dst (N := 3) rfl ?_); refine box_event ?hg (N := 3) ?hd (cs := #[.slice none 0 0]) (t := 90) ?hr ?_; (case hd => rfl); (case hg => rfl); (case hr => first | (go_simp; done) | (go_simp; rfl)); intro gb106 hg w11 hbox hb; replace HO105 := am (Kd.R_below (Q6 HO105) hb); have BK106 := am (hbox); have GW106 := am ((Q25 : w.heap.size ≤ gb106)); have GE106 := am ((Q25 : w.heap.size ≤ gb106)); replace HB := am (below_step (Q1 HB) hb); have NB101_106 := am ((Q28 : gb101 ≠ gb106)); have NB106_101 := am ((Q29 : gb106 ≠ gb101)); replace BK101 := am (blk_below (g := gb101) (o := .cells #[.int .i64 a0_0, .slice A0_1 l0_1.length c0_1] 30 (0, 0)) (Q0 BK101) hb); have NB102_106 := am ((by rw [hg]; exact Nat.ne_of_lt (blk_lt (g := gb102) (o := .cells #[.slice none 0 0] 90 (0, 0)) (Q0 BK102)) : gb102 ≠ gb106)); have NB106_102 := am ((by rw [hg]; exact Nat.ne_of_gt (blk_lt (g := gb102) (o := .cells #[.slice none 0 0] 90 (0, 0)) (Q0 BK102)) : gb106 ≠ gb102)); replace BK102 := am (blk_below (g := gb102) (o := .cells #[.slice none 0 0] 90 (0, 0)) (Q0 BK102) hb); clear hb hbox hg; have hnb12 := NB106_101.out; have hnc12 := NB101_106.out; have hnb13 := NB106_102.out; have hnc13 := NB102_106.out; have hcz14_0 : w11.cell? ⟨gb106, 0, none⟩ = some (.slice none 0 0) := (blk_cell BK106.out 0).trans rfl; have hfz14_0 := blk_frozen BK106.out 0; have hcz15_0 : w11.cell? ⟨gb101, 0, none⟩ = some (.int .i64 a0_0) := (blk_cell BK101.out 0).trans rfl; have hcz15_1 : w11.cell? ⟨gb101, 1, none⟩ = some (.slice A0_1 l0_1.length c0_1) := (blk_cell BK101.out 1).trans rfl; have hfz15_0 := blk_frozen BK101.out 0; have hfz15_1 := blk_frozen BK101.out 1))
   go_loopg [13] k (fun kq v13 w' => ∃ (x13_1 : Int) (x107000_1 : List Int) (u107000 : Value), v13 = .int .i64 x13_1 ∧ Aside0 (impl_netOf.l0 kq l0_1 (l0_1.length : Int) x13_1 x107000_1 = some r) ∧ Aside0 (kq ≤ k) ∧ Aside0 (Kd.R (Kd.int .i64) 3 w' w.heap.size (fun _ => True) u107000 x107000_1) ∧ Aside0 (w'.heap[gb101]? = some (.cells #[.int .i64 a0_0, (.slice A0_1 l0_1.length c0_1)] 30 (0, 0))) ∧ Aside0 (w'.heap[gb102]? = some (.cells #[(.slice none 0 0)] 90 (0, 0))) ∧ Aside0 (w'.heap[gb106]? = some (.cells #[u107000] 90 (0, 0))) ∧ Aside0 (Below w.heap.size w w'))
   case atStart => exact ⟨(0), (y103), (.slice Ao10 y103.length co10), Q11, H', ⟨Nat.le_refl _⟩, ⟨by (with_reducible repeat (first | apply Kd.R_alloc | apply Kd.R_drewN | apply Kd.R_drew)); exact Kd.R_mono (Kd.R_far (p := ⟨gb106, 0, none⟩) (Kd.R_types HO105.out BK106.out (by decide)) (fun _ hk => hk.2) (.slice Ao10 y103.length co10)) (fun _ hk => trivial)⟩, ⟨Q27 NB101_106 BK101⟩, ⟨Q27 NB102_106 BK102⟩, ⟨Q67 BK106⟩, ⟨Q5 HB GE106⟩⟩
   case round =>
    clear H'
    try clear c1
    try clear c2
    try clear c2b0
    try clear c2b1
    try clear p2
    try clear c3
    try clear c3b0
    try clear c3b1
    try clear c6
    try clear c10
    try clear c12
    try clear c13
    try clear hcz14_0
    try clear hcz15_0
    try clear hcz15_1
    try clear hcz7_0
    try clear hcz7_1
    try clear hfz14_0
    try clear hfz15_0
    try clear hfz15_1
    try clear hfz7_0
    try clear hfz7_1
    obtain ⟨x13_1, x107000_1, u107000, rfl, HA, HK1, HO_107000, BK101, BK102, BK106, HB⟩ := hrel
    cases gk with
    | zero => exact absurd HA.out (by simp [impl_netOf.l0])
    | succ k1 =>
     have H := HA.out; clear HA
     simp only [impl_netOf.l0] at H
     by_cases c16 : x13_1 < (l0_1.length : Int)
     ·rw [if_pos c16] at H
      have c16b0 := decide_eq_true c16; clear c16
      by_cases c17 : 0 ≤ x13_1
      ·rw [if_pos c17] at H
       have c17b0 := decide_eq_true c17; clear c17
       by_cases c18 : x13_1 < (l0_1.length : Int)
       ·rw [if_pos c18] at H
        have c18b0 := decide_eq_true c18; clear c18
        by_cases c19 : 0 ≤ ((rd_T71 l0_1 x13_1).f0)
        ·rw [if_pos c19] at H
         have c19b0 := decide_eq_true c19; clear c19
         by_cases c20 : ((rd_T71 l0_1 x13_1).f0) < (x107000_1.length : Int)
         ·rw [if_pos c20] at H
          have c20b0 := decide_eq_true c20; clear c20
          by_cases c21 : 0 ≤ ((rd_T71 l0_1 x13_1).f1)
          ·rw [if_pos c21] at H
           have c21b0 := eq_true c21; have c21b1 := decide_eq_true c21; clear c21; obtain ⟨ji22, hji22⟩ : ∃ j_ : Int, (shl .i64 1 ((rd_T71 l0_1 x13_1).f1)) = j_ := ⟨_, rfl⟩; replace H : ((some (x107000_1.set (((rd_T71 l0_1 x13_1).f0) : Int).toNat (Go.bits .or .i64 (rd x107000_1 ((rd_T71 l0_1 x13_1).f0)) (ji22)) : List Int)).bind fun y110 => (if ((rd_T71 l0_1 x13_1).f1) < (x107000_1.length : Int) then (impl_netOf.l0 k1 l0_1 (l0_1.length : Int) (wrap64 (x13_1 + 1)) (y110.set (((rd_T71 l0_1 x13_1).f1) : Int).toNat (Go.bits .or .i64 (rd y110 ((rd_T71 l0_1 x13_1).f1)) (shl .i64 1 ((rd_T71 l0_1 x13_1).f0))))) else (none))) = some r := by first | (rw [hji22] at H; exact H) | (simp only [hji22] at H ⊢; exact H)
           have hji22_ : (IntKind.i64.wrap (1 * 2 ^ min ((rd_T71 l0_1 x13_1).f1).toNat 64)) = ji22 := hji22; have hji22z : ((rd_T71 l0_1 x13_1).f1) ≤ 64 → (IntKind.i64.wrap (1 * 2 ^ ((rd_T71 l0_1 x13_1).f1).toNat)) = ji22 := shl_small hji22; have hji22u : (IntKind.i64.wrap (2 ^ min ((rd_T71 l0_1 x13_1).f1).toNat 64)) = ji22 := by have h_ := hji22_; rw [Int.one_mul] at h_; exact h_
           have hji22v : ((rd_T71 l0_1 x13_1).f1) ≤ 64 → (IntKind.i64.wrap (2 ^ ((rd_T71 l0_1 x13_1).f1).toNat)) = ji22 := fun hle_ => by have h_ := hji22z hle_; rw [Int.one_mul] at h_; exact h_
           have hji22y : (wrap64 (1 * 2 ^ min ((rd_T71 l0_1 x13_1).f1).toNat 64)) = ji22 := (i64_w _).symm.trans hji22_; have hji22x : ((rd_T71 l0_1 x13_1).f1) ≤ 64 → (wrap64 (1 * 2 ^ ((rd_T71 l0_1 x13_1).f1).toNat)) = ji22 := fun h_ => (i64_w _).symm.trans (hji22z h_)
           obtain ⟨y110, hy110⟩ : ∃ y_ : List Int, y_ = (x107000_1.set (((rd_T71 l0_1 x13_1).f0) : Int).toNat (Go.bits .or .i64 (rd x107000_1 ((rd_T71 l0_1 x13_1).f0)) (ji22))) := ⟨_, rfl⟩; replace H : (if ((rd_T71 l0_1 x13_1).f1) < (x107000_1.length : Int) then (impl_netOf.l0 k1 l0_1 (l0_1.length : Int) (wrap64 (x13_1 + 1)) (y110.set (((rd_T71 l0_1 x13_1).f1) : Int).toNat (Go.bits .or .i64 (rd y110 ((rd_T71 l0_1 x13_1).f1)) (shl .i64 1 ((rd_T71 l0_1 x13_1).f0))))) else (none)) = some r := RH hy110 H; have Ny110 := Aside0.mk hy110; clear hy110
           by_cases c24 : ((rd_T71 l0_1 x13_1).f1) < (x107000_1.length : Int)
           ·rw [if_pos c24] at H
            have c24b0 := decide_eq_true c24; clear c24; have c25b0 := eq_true (of_decide_eq_true Q12 : 0 ≤ ((rd_T71 l0_1 x13_1).f0)); obtain ⟨ji26, hji26⟩ : ∃ j_ : Int, (shl .i64 1 ((rd_T71 l0_1 x13_1).f0)) = j_ := ⟨_, rfl⟩; replace H : (impl_netOf.l0 k1 l0_1 (l0_1.length : Int) (wrap64 (x13_1 + 1)) (y110.set (((rd_T71 l0_1 x13_1).f1) : Int).toNat (Go.bits .or .i64 (rd y110 ((rd_T71 l0_1 x13_1).f1)) (ji26)))) = some r := by first | (rw [hji26] at H; exact H) | (simp only [hji26] at H ⊢; exact H)
            have hji26_ : (IntKind.i64.wrap (1 * 2 ^ min ((rd_T71 l0_1 x13_1).f0).toNat 64)) = ji26 := hji26; have hji26z : ((rd_T71 l0_1 x13_1).f0) ≤ 64 → (IntKind.i64.wrap (1 * 2 ^ ((rd_T71 l0_1 x13_1).f0).toNat)) = ji26 := shl_small hji26; have hji26u : (IntKind.i64.wrap (2 ^ min ((rd_T71 l0_1 x13_1).f0).toNat 64)) = ji26 := by have h_ := hji26_; rw [Int.one_mul] at h_; exact h_
            have hji26v : ((rd_T71 l0_1 x13_1).f0) ≤ 64 → (IntKind.i64.wrap (2 ^ ((rd_T71 l0_1 x13_1).f0).toNat)) = ji26 := fun hle_ => by have h_ := hji26z hle_; rw [Int.one_mul] at h_; exact h_
            have hji26y : (wrap64 (1 * 2 ^ min ((rd_T71 l0_1 x13_1).f0).toNat 64)) = ji26 := (i64_w _).symm.trans hji26_; have hji26x : ((rd_T71 l0_1 x13_1).f0) ≤ 64 → (wrap64 (1 * 2 ^ ((rd_T71 l0_1 x13_1).f0).toNat)) = ji26 := fun h_ => (i64_w _).symm.trans (hji26z h_)
            obtain ⟨y112, hy112⟩ : ∃ y_ : List Int, y_ = (y110.set (((rd_T71 l0_1 x13_1).f1) : Int).toNat (Go.bits .or .i64 (rd y110 ((rd_T71 l0_1 x13_1).f1)) (ji26))) := ⟨_, rfl⟩; replace H : (impl_netOf.l0 k1 l0_1 (l0_1.length : Int) (wrap64 (x13_1 + 1)) y112) = some r := RH hy112 H; have Ny112 := Aside0.mk hy112; clear hy112; have H' := Aside0.mk H; clear H; have p107 : 0 ≤ (x13_1 : Int) := of_decide_eq_true Q12; have q107 : x13_1 < (l0_1.length : Int) := of_decide_eq_true Q12; obtain ⟨ad107, e107, hx107_0, hx107_1⟩ := at_T71 HR0_1.out x13_1 p107 q107
            cases e107
            replace hx107_0 := (HB.out.cell (World.block_lt_of_cell? w _ hx107_0)).trans hx107_0; replace hx107_1 := (HB.out.cell (World.block_lt_of_cell? w _ hx107_1)).trans hx107_1; replace p107 := eq_true p107; replace q107 := eq_true q107
            try go_wp2_with (first | ((with_reducible refine gate_dst (N := 5) rfl ?_); refine box_event ?hg (N := 5) ?hd (cs := #[.int .i64 0, .int .i64 0]) (t := 71) ?hr ?_; (case hd => rfl); (case hg => rfl); (case hr => first | (go_simp; done) | (go_simp; rfl)); intro gb108 hg w28 hbox hb; replace HO_107000 := am (Kd.R_below Q85 hb); have BK108 := am (hbox); have GW108 := am ((Q25 : w.heap.size ≤ gb108)); have GE108 := am ((Q25 : w.heap.size ≤ gb108)); replace HB := am (below_step (Q1 HB) hb); have NB101_108 := am ((by rw [hg]; exact Nat.ne_of_lt (blk_lt (g := gb101) (o := .cells #[.int .i64 a0_0, .slice (some ad107) l0_1.length c0_1] 30 (0, 0)) (Q0 BK101)) : gb101 ≠ gb108)); have NB108_101 := am ((by rw [hg]; exact Nat.ne_of_gt (blk_lt (g := gb101) (o := .cells #[.int .i64 a0_0, .slice (some ad107) l0_1.length c0_1] 30 (0, 0)) (Q0 BK101)) : gb108 ≠ gb101)); replace BK101 := am (blk_below (g := gb101) (o := .cells #[.int .i64 a0_0, .slice (some ad107) l0_1.length c0_1] 30 (0, 0)) (Q0 BK101) hb); have NB102_108 := am ((by rw [hg]; exact Nat.ne_of_lt (blk_lt (g := gb102) (o := .cells #[.slice none 0 0] 90 (0, 0)) (Q0 BK102)) : gb102 ≠ gb108)); have NB108_102 := am ((by rw [hg]; exact Nat.ne_of_gt (blk_lt (g := gb102) (o := .cells #[.slice none 0 0] 90 (0, 0)) (Q0 BK102)) : gb108 ≠ gb102)); replace BK102 := am (blk_below (g := gb102) (o := .cells #[.slice none 0 0] 90 (0, 0)) (Q0 BK102) hb); have NB106_108 := am ((by rw [hg]; exact Nat.ne_of_lt (blk_lt (g := gb106) (o := .cells #[u107000] 90 (0, 0)) (Q0 BK106)) : gb106 ≠ gb108)); have NB108_106 := am ((by rw [hg]; exact Nat.ne_of_gt (blk_lt (g := gb106) (o := .cells #[u107000] 90 (0, 0)) (Q0 BK106)) : gb108 ≠ gb106)); replace BK106 := am (blk_below (g := gb106) (o := .cells #[u107000] 90 (0, 0)) (Q0 BK106) hb); clear hb hbox hg; have hnb29 := NB108_101.out; have hnc29 := NB101_108.out; have hnb30 := NB108_102.out; have hnc30 := NB102_108.out; have hnb31 := NB108_106.out; have hnc31 := NB106_108.out; have hcz32_0 : w28.cell? ⟨gb108, 0, none⟩ = some (.int .i64 0) := (blk_cell BK108.out 0).trans rfl; have hcz32_1 : w28.cell? ⟨gb108, 1, none⟩ = some (.int .i64 0) := (blk_cell BK108.out 1).trans rfl; have hfz32_0 := blk_frozen BK108.out 0; have hfz32_1 := blk_frozen BK108.out 1))
            have n0_ : Aside0 (Kd.R (Kd.int .i64) 3 ((w28.setCell ⟨gb108, 0, none⟩ (.int .i64 ((rd_T71 l0_1 x13_1).f0))).setCell ⟨gb108, 1, none⟩ (.int .i64 ((rd_T71 l0_1 x13_1).f1))) w.heap.size (fun _ => True) u107000 x107000_1) := ⟨by (with_reducible repeat (first | apply Kd.R_alloc | apply Kd.R_drewN | apply Kd.R_drew)); exact Kd.R_mono (Kd.R_far (p := ⟨gb108, 1, none⟩) (Kd.R_far (p := ⟨gb108, 0, none⟩) (Kd.R_types HO_107000.out BK108.out (by decide)) (fun _ hk => hk.2) (.int .i64 ((rd_T71 l0_1 x13_1).f0))) (fun _ hk => hk.2) (.int .i64 ((rd_T71 l0_1 x13_1).f1))) (fun _ hk => trivial)⟩; have n1_ : Aside0 (((w28.setCell ⟨gb108, 0, none⟩ (.int .i64 ((rd_T71 l0_1 x13_1).f0))).setCell ⟨gb108, 1, none⟩ (.int .i64 ((rd_T71 l0_1 x13_1).f1))).heap[gb101]? = some (.cells #[.int .i64 a0_0, .slice (some ad107) l0_1.length c0_1] 30 (0, 0))) := ⟨Q2 NB101_108 BK101⟩; have n2_ : Aside0 (((w28.setCell ⟨gb108, 0, none⟩ (.int .i64 ((rd_T71 l0_1 x13_1).f0))).setCell ⟨gb108, 1, none⟩ (.int .i64 ((rd_T71 l0_1 x13_1).f1))).heap[gb102]? = some (.cells #[.slice none 0 0] 90 (0, 0))) := ⟨Q2 NB102_108 BK102⟩; have n3_ : Aside0 (((w28.setCell ⟨gb108, 0, none⟩ (.int .i64 ((rd_T71 l0_1 x13_1).f0))).setCell ⟨gb108, 1, none⟩ (.int .i64 ((rd_T71 l0_1 x13_1).f1))).heap[gb106]? = some (.cells #[u107000] 90 (0, 0))) := ⟨Q2 NB106_108 BK106⟩; have n4_ : Aside0 (((w28.setCell ⟨gb108, 0, none⟩ (.int .i64 ((rd_T71 l0_1 x13_1).f0))).setCell ⟨gb108, 1, none⟩ (.int .i64 ((rd_T71 l0_1 x13_1).f1))).heap[gb108]? = some (.cells #[.int .i64 ((rd_T71 l0_1 x13_1).f0), .int .i64 ((rd_T71 l0_1 x13_1).f1)] 71 (0, 0))) := ⟨by (with_reducible repeat (first | refine blk_drewN ?_ _ | refine blk_drew ?_ | refine blk_alloc ?_ _)); refine blk_put (cs := #[.int .i64 ((rd_T71 l0_1 x13_1).f0), .int .i64 0]) ?_ 1 _ rfl; (with_reducible repeat (first | refine blk_drewN ?_ _ | refine blk_drew ?_ | refine blk_alloc ?_ _)); refine blk_put (cs := #[.int .i64 0, .int .i64 0]) ?_ 0 _ rfl; (with_reducible repeat (first | refine blk_drewN ?_ _ | refine blk_drew ?_ | refine blk_alloc ?_ _)); exact BK108.out⟩; have n5_ : Aside0 (Below w.heap.size w ((w28.setCell ⟨gb108, 0, none⟩ (.int .i64 ((rd_T71 l0_1 x13_1).f0))).setCell ⟨gb108, 1, none⟩ (.int .i64 ((rd_T71 l0_1 x13_1).f1)))) := ⟨Q5 HB GE108⟩; (try clear HO_107000); (try clear BK101); (try clear BK102); (try clear BK106); (try clear BK108); (try clear HB); generalize ((w28.setCell ⟨gb108, 0, none⟩ (.int .i64 ((rd_T71 l0_1 x13_1).f0))).setCell ⟨gb108, 1, none⟩ (.int .i64 ((rd_T71 l0_1 x13_1).f1))) = w33 at n0_ n1_ n2_ n3_ n4_ n5_ ⊢; have HO_107000 := n0_; have BK101 := n1_; have BK102 := n2_; have BK106 := n3_; have BK108 := n4_; have HB := n5_; clear n0_ n1_ n2_ n3_ n4_ n5_; replace HO_107000 := am (Kd.R_drew HO_107000.out); replace BK101 := am (blk_drew BK101.out); replace BK102 := am (blk_drew BK102.out); replace BK106 := am (blk_drew BK106.out); replace BK108 := am (blk_drew BK108.out); replace HB := am (below_drew1 HB.out); obtain ⟨Ao35, co35, eo35⟩ := Kd.R_slice HO_107000.out
            (first | subst eo35 | (injection eo35 with f1_ f2_ f3_; have f4_ := f1_.symm; have f5_ := f3_.symm; clear f1_ f2_ f3_; subst f4_; subst f5_))
            have p109 : 0 ≤ (((rd_T71 l0_1 x13_1).f0) : Int) := of_decide_eq_true Q12; have q109 : ((rd_T71 l0_1 x13_1).f0) < (x107000_1.length : Int) := of_decide_eq_true Q12; obtain ⟨ad109, e109, hx109_0⟩ := Kd.at_int (Kd.R_reads' HO_107000.out).2.2 ((rd_T71 l0_1 x13_1).f0) p109 q109
            cases e109
            replace p109 := eq_true p109; replace q109 := eq_true q109; have p23 : 0 ≤ (((rd_T71 l0_1 x13_1).f0) : Int) := of_decide_eq_true Q12; have q23 : (((rd_T71 l0_1 x13_1).f0) : Int) < ((x107000_1.length : Int) : Int) := of_decide_eq_true Q12; obtain ⟨go23, co23, eo23, gb23, gl23, cl23, HG23⟩ := Kd.R_form HO_107000.out (by omega)
            (first | cases eo23 | (injection eo23 with ea_ en_ ec_; (first | subst ea_ | (injection ea_ with ea_; subst ea_)); subst ec_; clear en_))
            have GB23 := Aside0.mk gb23; have GG23 := Aside0.mk HG23; clear gb23 gl23 HG23
            (first | simp only [add_plain] at hx109_0 | skip)
            obtain ⟨hx23_0, hf23_0⟩ := Kd.R_celln 0 HO_107000.out (((rd_T71 l0_1 x13_1).f0) : Int) p23 q23; replace p23 := eq_true p23; replace q23 := eq_true q23; have HP36 := Kd.R_putn HO_107000.out (((rd_T71 l0_1 x13_1).f0) : Int) (Go.bits .or .i64 (rd x107000_1 ((rd_T71 l0_1 x13_1).f0)) (ji22)); rw [← Ny110.out] at HP36; have HQ36 := Aside0.mk HP36; clear HP36; refine start_ (n := 12) (S := fun w' => w'.cell? ⟨gb106, 0, none⟩ = some (.slice (some ⟨go23, 0, none⟩) x107000_1.length co35) ∧ w'.cell? ⟨gb108, 0, none⟩ = some (.int .i64 ((rd_T71 l0_1 x13_1).f0)) ∧ w'.cell? ⟨gb108, 1, none⟩ = some (.int .i64 ((rd_T71 l0_1 x13_1).f1)) ∧ w'.cell? ⟨go23, (((rd_T71 l0_1 x13_1).f0)).toNat, none⟩ = some (.int .i64 (rd x107000_1 ((rd_T71 l0_1 x13_1).f0)))) (ds := [11]) #[false, false, false, false, false, false, false, false, false, false, false, false] (by kernel_rfl) rfl rfl ⟨(blk_cell BK106.out 0).trans rfl, (blk_cell BK108.out 0).trans rfl, (blk_cell BK108.out 1).trans rfl, hx109_0⟩ (fun hHeld => ?_); refine with_tabW impl_netOf.tab5 impl_netOf.bits5 (fun HT_ HW_ => ?_); generalize w33.drew = w34 at HO_107000 BK101 BK102 BK106 BK108 HB GG23 HQ36 hf23_0 hx109_0 hx23_0 hHeld ⊢; refine pq 0 17 rfl rfl HT_ ?_; refine pq 2 19 rfl rfl HT_ ?_; refine pq 6 23 rfl rfl HT_ ?_; refine tq4 1 18 rfl rfl HT_ HW_ hHeld ?_; refine tq4 3 20 rfl rfl HT_ HW_ hHeld ?_; refine pq 4 21 rfl rfl HT_ ?_; refine tq4 5 22 rfl rfl HT_ HW_ hHeld ?_; refine tq4 7 24 rfl rfl HT_ HW_ hHeld ?_; refine pq 8 25 rfl rfl HT_ ?_; refine pq 9 26 rfl rfl HT_ ?_; refine pq 10 27 rfl rfl HT_ ?_; refine last_ (i := 11) (N := none) #[true, true, true, true, true, true, true, true, true, true, true, true] rfl rfl (one_of HT_.out (by kernel_rfl)) (by decide) (fun K hK => ?_); refine skip_ (w1 := ?_) (by rfl) rfl ?_ ?_
            rotate_left
            ·go_simp
             rfl
            refine hK.out _ _ ?_; clear hK K; refine done_ (done_of HT_.out (by kernel_rfl)) ?_
            try go_wp2
            have n0_ : Aside0 (Kd.R (Kd.int .i64) 3 (w34.setCell ⟨go23, (((rd_T71 l0_1 x13_1).f0) : Int).toNat, none⟩ (.int .i64 (Go.bits .or .i64 (rd x107000_1 ((rd_T71 l0_1 x13_1).f0)) (ji22)))) w.heap.size (fun _ => True) (.slice (some ⟨go23, 0, none⟩) x107000_1.length co35) y110) := ⟨by (with_reducible repeat (first | apply Kd.R_alloc | apply Kd.R_drewN | apply Kd.R_drew)); exact HQ36.out⟩; have n1_ : Aside0 ((w34.setCell ⟨go23, (((rd_T71 l0_1 x13_1).f0) : Int).toNat, none⟩ (.int .i64 (Go.bits .or .i64 (rd x107000_1 ((rd_T71 l0_1 x13_1).f0)) (ji22)))).heap[gb101]? = some (.cells #[.int .i64 a0_0, .slice (some ad107) l0_1.length c0_1] 30 (0, 0))) := ⟨Q37 BK101⟩; have n2_ : Aside0 ((w34.setCell ⟨go23, (((rd_T71 l0_1 x13_1).f0) : Int).toNat, none⟩ (.int .i64 (Go.bits .or .i64 (rd x107000_1 ((rd_T71 l0_1 x13_1).f0)) (ji22)))).heap[gb102]? = some (.cells #[.slice none 0 0] 90 (0, 0))) := ⟨Q37 BK102⟩; have n3_ : Aside0 ((w34.setCell ⟨go23, (((rd_T71 l0_1 x13_1).f0) : Int).toNat, none⟩ (.int .i64 (Go.bits .or .i64 (rd x107000_1 ((rd_T71 l0_1 x13_1).f0)) (ji22)))).heap[gb106]? = some (.cells #[.slice (some ⟨go23, 0, none⟩) x107000_1.length co35] 90 (0, 0))) := ⟨Q37 BK106⟩; have n4_ : Aside0 ((w34.setCell ⟨go23, (((rd_T71 l0_1 x13_1).f0) : Int).toNat, none⟩ (.int .i64 (Go.bits .or .i64 (rd x107000_1 ((rd_T71 l0_1 x13_1).f0)) (ji22)))).heap[gb108]? = some (.cells #[.int .i64 ((rd_T71 l0_1 x13_1).f0), .int .i64 ((rd_T71 l0_1 x13_1).f1)] 71 (0, 0))) := ⟨Q37 BK108⟩; have n5_ : Aside0 (Below w.heap.size w (w34.setCell ⟨go23, (((rd_T71 l0_1 x13_1).f0) : Int).toNat, none⟩ (.int .i64 (Go.bits .or .i64 (rd x107000_1 ((rd_T71 l0_1 x13_1).f0)) (ji22))))) := ⟨by repeat (first | (with_reducible first | exact HB.out | apply below_alloc | apply pw_below_drewN | apply below_drew1 | refine below_set ?_ GB23.out) | exact HB.out)⟩; (try clear HO_107000); (try clear BK101); (try clear BK102); (try clear BK106); (try clear BK108); (try clear HB); generalize (w34.setCell ⟨go23, (((rd_T71 l0_1 x13_1).f0) : Int).toNat, none⟩ (.int .i64 (Go.bits .or .i64 (rd x107000_1 ((rd_T71 l0_1 x13_1).f0)) (ji22)))) = w37 at n0_ n1_ n2_ n3_ n4_ n5_ ⊢; have HO_107000 := n0_; have BK101 := n1_; have BK102 := n2_; have BK106 := n3_; have BK108 := n4_; have HB := n5_; clear n0_ n1_ n2_ n3_ n4_ n5_; replace HO_107000 := am (Kd.R_drew HO_107000.out); replace BK101 := am (blk_drew BK101.out); replace BK102 := am (blk_drew BK102.out); replace BK106 := am (blk_drew BK106.out); replace BK108 := am (blk_drew BK108.out); replace HB := am (below_drew1 HB.out); have p111 : 0 ≤ (((rd_T71 l0_1 x13_1).f1) : Int) := of_decide_eq_true Q12; have q111 : ((rd_T71 l0_1 x13_1).f1) < (y110.length : Int) := (by have h_ : (((rd_T71 l0_1 x13_1).f1) : Int) < ((x107000_1.length : Int) : Int) := of_decide_eq_true Q12; first | (have e_ := (Kd.R_reads' HO_107000.out).1; omega) | simpa only [Ny110.out, List.length_set] using h_); have ql111 : ((((rd_T71 l0_1 x13_1).f1) : Int) < ((x107000_1.length : Int) : Int)) = True := eq_true (of_decide_eq_true Q12); obtain ⟨ad111, e111, hx111_0⟩ := Kd.at_int (Kd.R_reads' HO_107000.out).2.2 ((rd_T71 l0_1 x13_1).f1) p111 q111; obtain rfl : (⟨go23, 0, none⟩ : Addr) = ad111 := (by injection e111)
            (first | simp only [add_plain] at hx111_0 | simp only [add_at] at hx111_0 | simp only [Addr.add, Nat.zero_add] at hx111_0 | skip)
            replace p111 := eq_true p111; replace q111 := eq_true q111; have p27 : 0 ≤ (((rd_T71 l0_1 x13_1).f1) : Int) := of_decide_eq_true Q12; have q27 : (((rd_T71 l0_1 x13_1).f1) : Int) < ((x107000_1.length : Int) : Int) := of_decide_eq_true Q12; obtain ⟨hx27_0, hf27_0⟩ := Kd.R_celln 0 HO_107000.out (((rd_T71 l0_1 x13_1).f1) : Int) p27 q27; replace p27 := eq_true p27; replace q27 := eq_true q27; have HP39 := Kd.R_putn HO_107000.out (((rd_T71 l0_1 x13_1).f1) : Int) (Go.bits .or .i64 (rd y110 ((rd_T71 l0_1 x13_1).f1)) (ji26)); rw [← Ny112.out] at HP39; have HQ39 := Aside0.mk HP39; clear HP39; refine start_ (n := 12) (S := fun w' => w'.cell? ⟨gb106, 0, none⟩ = some (.slice (some ⟨go23, 0, none⟩) x107000_1.length co35) ∧ w'.cell? ⟨gb108, 0, none⟩ = some (.int .i64 ((rd_T71 l0_1 x13_1).f0)) ∧ w'.cell? ⟨gb108, 1, none⟩ = some (.int .i64 ((rd_T71 l0_1 x13_1).f1)) ∧ w'.cell? ⟨go23, (((rd_T71 l0_1 x13_1).f1)).toNat, none⟩ = some (.int .i64 (rd y110 ((rd_T71 l0_1 x13_1).f1)))) (ds := [11]) #[false, false, false, false, false, false, false, false, false, false, false, false] (by kernel_rfl) rfl rfl ⟨(blk_cell BK106.out 0).trans rfl, (blk_cell BK108.out 0).trans rfl, (blk_cell BK108.out 1).trans rfl, hx111_0⟩ (fun hHeld => ?_); refine with_tabW impl_netOf.tab6 impl_netOf.bits6 (fun HT_ HW_ => ?_); generalize w37.drew = w38 at HO_107000 BK101 BK102 BK106 BK108 HB HQ36 HQ39 hf27_0 hx111_0 hx27_0 hHeld ⊢; refine pq 0 28 rfl rfl HT_ ?_; refine pq 2 30 rfl rfl HT_ ?_; refine pq 6 34 rfl rfl HT_ ?_; refine tq4 1 29 rfl rfl HT_ HW_ hHeld ?_; refine tq4 3 31 rfl rfl HT_ HW_ hHeld ?_; refine pq 4 32 rfl rfl HT_ ?_; refine tq4 5 33 rfl rfl HT_ HW_ hHeld ?_; refine tq4 7 35 rfl rfl HT_ HW_ hHeld ?_; refine pq 8 36 rfl rfl HT_ ?_; refine pq 9 37 rfl rfl HT_ ?_; refine pq 10 38 rfl rfl HT_ ?_; refine last_ (i := 11) (N := none) #[true, true, true, true, true, true, true, true, true, true, true, true] rfl rfl (one_of HT_.out (by kernel_rfl)) (by decide) (fun K hK => ?_); refine skip_ (w1 := ?_) (by rfl) rfl ?_ ?_
            rotate_left
            ·go_simp
             rfl
            refine hK.out _ _ ?_; clear hK K; refine done_ (done_of HT_.out (by kernel_rfl)) ?_
            try go_wp2
            go_roundg k1
            case measure => have := HK1.out; omega
            case rel => exact ⟨(wrap64 (x13_1 + 1)), (y112), (.slice (some ⟨go23, 0, none⟩) x107000_1.length co35), Q11, H', ⟨Q95⟩, ⟨by (with_reducible repeat (first | apply Kd.R_alloc | apply Kd.R_drewN | apply Kd.R_drew)); exact HQ39.out⟩, ⟨Q37 BK101⟩, ⟨Q37 BK102⟩, ⟨Q37 BK106⟩, ⟨by repeat (first | (with_reducible first | exact HB.out | apply below_alloc | apply pw_below_drewN | apply below_drew1 | refine below_set ?_ GB23.out) | exact HB.out)⟩⟩
           ·rw [if_neg c24] at H
            exact absurd H (by simp)
          ·rw [if_neg c21] at H
           exact absurd H (by simp)
         ·rw [if_neg c20] at H
          exact absurd H (by simp)
        ·rw [if_neg c19] at H
         exact absurd H (by simp)
       ·rw [if_neg c18] at H
        exact absurd H (by simp)
      ·rw [if_neg c17] at H
       exact absurd H (by simp)
     ·rw [if_neg c16] at H
      have c16b0 := decide_eq_false c16; clear c16; obtain rfl := Option.some.inj H; have hnb40 := NB106_101.out; have hnc40 := NB101_106.out; have hnb41 := NB106_102.out; have hnc41 := NB102_106.out; have hcz42_0 : wr.cell? ⟨gb106, 0, none⟩ = some (u107000) := (blk_cell BK106.out 0).trans rfl; have hfz42_0 := blk_frozen BK106.out 0; obtain ⟨Ao43, co43, eo43⟩ := Kd.R_slice HO_107000.out; subst eo43; have hnb44 := NB102_101.out; have hnc44 := NB101_102.out; have hcz45_0 : wr.cell? ⟨gb102, 0, none⟩ = some (.slice none 0 0) := (blk_cell BK102.out 0).trans rfl; have hfz45_0 := blk_frozen BK102.out 0
      go_wp2
      refine bodyPost_ret (results_cell_row rfl _ _ gb102 90 #[.slice Ao43 x107000_1.length co43] (0, 0) _ rfl (Q67 BK102) Try.underlying90 rfl (by kernel_rfl)) rfl ?_; exact ⟨_, Q10, by (with_reducible repeat (first | apply Kd.R_alloc | apply Kd.R_drewN | apply Kd.R_drew)); exact Kd.R_mono (Kd.R_far (p := ⟨gb102, 0, none⟩) (Kd.R_types HO_107000.out BK102.out (by decide)) (fun _ hk => hk.2) (.slice Ao43 x107000_1.length co43)) (fun _ hk => trivial), Q5 HB GE102⟩
  ·rw [if_neg c3] at H
   exact absurd H (by simp)
 ·rw [if_neg c2] at H
  exact absurd H (by simp)
/-! ### impl_net_around: function 185 -/
def impl_net_around.l0 : Nat → Int → Int → List Int → Int → Int → Option (Int)
 | 0, _, _, _, _, _ => none
 | k + 1, x1, x5, x10, x11, x12 => if x12 < x11 then (if 0 ≤ x12 then (if x12 < (x10.length : Int) then (if (Go.bits .and .i64 (shr .i64 x1 x12) 1) = 1 then (impl_net_around.l0 k x1 (Go.bits .or .i64 x5 (rd x10 x12)) x10 x11 (wrap64 (x12 + 1))) else (impl_net_around.l0 k x1 x5 x10 x11 (wrap64 (x12 + 1)))) else (none)) else (none)) else (some x5)
def impl_net_around.f (k : Nat) (l0_0 : List Int) (a1 : Int) : Option (Int) := impl_net_around.l0 k a1 a1 l0_0 (l0_0.length : Int) 0
theorem impl_net_around.mono_l : ∀ k, (∀ y0 y1 y2 y3 y4, LeO (impl_net_around.l0 k y0 y1 y2 y3 y4) (impl_net_around.l0 (k + 1) y0 y1 y2 y3 y4))
 | 0 => fun _ _ _ _ _ r h => by simp [impl_net_around.l0] at h
 | k + 1 => by
  have ih0 := impl_net_around.mono_l k
  all_goals
   intros
   first | unfold impl_net_around.l0
   repeat' first | (with_reducible first | exact ih0 _ _ _ _ _ | exact LeO.refl _ | exact LeO.none _ | refine LeO.ite ?_ ?_ | refine LeO.bind ?_ (fun _ => ?_))
theorem impl_net_around.mono : ∀ a0 a1 k, LeO (impl_net_around.f k a0 a1) (impl_net_around.f (k + 1) a0 a1) := by
 intro a0 a1 k
 have ih0 := impl_net_around.mono_l k
 unfold impl_net_around.f
 repeat' first | (with_reducible first | exact ih0 _ _ _ _ _ | exact LeO.refl _ | exact LeO.none _ | refine LeO.ite ?_ ?_ | refine LeO.bind ?_ (fun _ => ?_))
set_option maxHeartbeats 8000000 in
set_option maxRecDepth 100000 in
theorem impl_net_around.calls (k : Nat) (A0_0 : Option Addr) (c0_0 : Nat) (l0_0 : List Int) (a1 : Int) (r : Int) (w : World) (hr0_0 : Kd.C (Kd.int .i64) w A0_0 l0_0.length l0_0) (hc0_0 : l0_0.length ≤ c0_0) (h : impl_net_around.f k l0_0 a1 = some r) :
  Calls Try.prog 185 #[.agg #[.slice A0_0 l0_0.length c0_0], .int .i64 a1] w fun e w' => e = .returned (.int .i64 r) ∧ Below w.heap.size w w' := by
 have hu90 := Try.underlying90
 have HR0_0 := Aside0.mk hr0_0
 have HC0_0 := Aside0.mk hc0_0
 clear hr0_0 hc0_0
 have HB := am (Below.refl w.heap.size w)
 have H : (impl_net_around.l0 k a1 a1 l0_0 (l0_0.length : Int) 0) = some r := h
 clear h
 have H' := Aside0.mk H
 clear H
 go_enter Try.func185, Try.ntmps185
 go_wp2_with (first | ((with_reducible refine gate_dst (N := 2) rfl ?_); refine box_event ?hg (N := 2) ?hd (cs := #[.slice A0_0 l0_0.length c0_0]) (t := 90) ?hr ?_; (case hd => rfl); (case hg => rfl); (case hr => first | (go_simp; done) | (go_simp; rfl)); intro gb101 hg w3 hbox hb; have BK101 := am (hbox); have GW101 := am ((Q25 : w.heap.size ≤ gb101)); have GE101 := am ((Q25 : w.heap.size ≤ gb101)); replace HB := am (below_step (Q1 HB) hb); clear hb hbox hg; have hcz4_0 : w3.cell? ⟨gb101, 0, none⟩ = some (.slice A0_0 l0_0.length c0_0) := (blk_cell BK101.out 0).trans rfl; have hfz4_0 := blk_frozen BK101.out 0))
 go_loopg [5, 12] k (fun kq v5 v12 w' => ∃ (x5_1 : Int) (x12_1 : Int), v5 = .int .i64 x5_1 ∧ v12 = .int .i64 x12_1 ∧ Aside0 (impl_net_around.l0 kq a1 x5_1 l0_0 (l0_0.length : Int) x12_1 = some r) ∧ Aside0 (kq ≤ k) ∧ Aside0 (w'.heap[gb101]? = some (.cells #[(.slice A0_0 l0_0.length c0_0)] 90 (0, 0))) ∧ Aside0 (Below w.heap.size w w'))
 case atStart => exact ⟨(a1), (0), Q11, Q11, H', ⟨Nat.le_refl _⟩, ⟨Q0 BK101⟩, ⟨Q1 HB⟩⟩
 case round =>
  clear H'
  try clear c1
  try clear p2
  try clear hcz4_0
  try clear hfz4_0
  obtain ⟨x5_1, x12_1, rfl, rfl, HA, HK1, BK101, HB⟩ := hrel
  cases gk with
  | zero => exact absurd HA.out (by simp [impl_net_around.l0])
  | succ k1 =>
   have H := HA.out; clear HA
   simp only [impl_net_around.l0] at H
   by_cases c5 : x12_1 < (l0_0.length : Int)
   ·rw [if_pos c5] at H
    have c5b0 := decide_eq_true c5; clear c5
    by_cases c6 : 0 ≤ x12_1
    ·rw [if_pos c6] at H
     have c6b0 := decide_eq_true c6; clear c6
     by_cases c7 : x12_1 < (l0_0.length : Int)
     ·rw [if_pos c7] at H
      have c7b0 := decide_eq_true c7; clear c7; have c8b0 := eq_true (of_decide_eq_true Q12 : 0 ≤ x12_1); obtain ⟨ji9, hji9⟩ : ∃ j_ : Int, (shr .i64 a1 x12_1) = j_ := ⟨_, rfl⟩; replace H : (if (Go.bits .and .i64 (ji9) 1) = 1 then (impl_net_around.l0 k1 a1 (Go.bits .or .i64 x5_1 (rd l0_0 x12_1)) l0_0 (l0_0.length : Int) (wrap64 (x12_1 + 1))) else (impl_net_around.l0 k1 a1 x5_1 l0_0 (l0_0.length : Int) (wrap64 (x12_1 + 1)))) = some r := by first | (rw [hji9] at H; exact H) | (simp only [hji9] at H ⊢; exact H)
      have hji9_ : (a1 / 2 ^ min x12_1.toNat 64) = ji9 := hji9; have hji9z : x12_1 ≤ 64 → (a1 / 2 ^ x12_1.toNat) = ji9 := shr_small hji9; have HU10 := Aside0.mk H; clear H; have p102 : 0 ≤ (x12_1 : Int) := of_decide_eq_true Q12; have q102 : x12_1 < (l0_0.length : Int) := of_decide_eq_true Q12; obtain ⟨ad102, e102, hx102_0⟩ := Kd.at_int HR0_0.out x12_1 p102 q102
      cases e102
      replace hx102_0 := (HB.out.cell (World.block_lt_of_cell? w _ hx102_0)).trans hx102_0; replace p102 := eq_true p102; replace q102 := eq_true q102
      go_upto_if 21 with (fail)
      have H := HU10.out; clear HU10
      by_cases c11 : (Go.bits .and .i64 (ji9) 1) = 1
      ·rw [if_pos c11] at H
       have c11b0 := beq_iff_eq.mpr c11; have c11b1 := bne_eq_false_iff_eq.mpr c11; clear c11
       (first | rw [c11b0] | (simp only [i64_w, i32_w]; rw [c11b0]) | rw [c11b1] | skip)
       have H' := Aside0.mk H; clear H
       go_wp2
       go_roundg k1
       case measure => have := HK1.out; omega
       case rel => exact ⟨(Go.bits .or .i64 x5_1 (rd l0_0 x12_1)), (wrap64 (x12_1 + 1)), Q11, Q11, H', ⟨Q95⟩, ⟨Q0 BK101⟩, ⟨Q1 HB⟩⟩
      ·rw [if_neg c11] at H
       have c11b0 := beq_eq_false_iff_ne.mpr c11; have c11b1 := bne_iff_ne.mpr c11
       (first | rw [c11b0] | (simp only [i64_w, i32_w]; rw [c11b0]) | rw [c11b1] | skip)
       have H' := Aside0.mk H; clear H
       go_wp2
       go_roundg k1
       case measure => have := HK1.out; omega
       case rel => exact ⟨(x5_1), (wrap64 (x12_1 + 1)), Q11, Q11, H', ⟨Q95⟩, ⟨Q0 BK101⟩, ⟨Q1 HB⟩⟩
     ·rw [if_neg c7] at H
      exact absurd H (by simp)
    ·rw [if_neg c6] at H
     exact absurd H (by simp)
   ·rw [if_neg c5] at H
    have c5b0 := decide_eq_false c5; clear c5; obtain rfl := Option.some.inj H
    go_wp2
    go_ret
    exact ⟨Q10, Q1 HB⟩
/-! ### impl_net_parts: function 121 -/
mutual
def impl_net_parts.l0 : Nat → Int → List Int → List Int → Option (List Int)
 | 0, _, _, _ => none
 | k + 1, x1, x5, x102000 => if x1 = 0 then (some x5) else (impl_net_parts.l1 k x1 x5 (Go.bits .and .i64 x1 (wrap64 (-x1))) x102000)
def impl_net_parts.l1 : Nat → Int → List Int → Int → List Int → Option (List Int)
 | 0, _, _, _, _ => none
 | k + 1, x1, x5, x6, x102000 => (impl_net_around.f k x102000 x6).bind fun t102 => (if (Go.bits .and .i64 t102 x1) = x6 then (if x5.length < 17592186044416 then (impl_net_parts.l0 k (Go.bits .andNot .i64 x1 x6) (x5 ++ [x6]) x102000) else (none)) else (impl_net_parts.l1 k x1 x5 (Go.bits .and .i64 t102 x1) x102000))
end
def impl_net_parts.f (k : Nat) (l0_0 : List Int) (a1 : Int) : Option (List Int) := impl_net_parts.l0 k a1 ([] : List Int) l0_0
theorem impl_net_parts.mono_l : ∀ k, (∀ y0 y1 y2, LeO (impl_net_parts.l0 k y0 y1 y2) (impl_net_parts.l0 (k + 1) y0 y1 y2)) ∧ (∀ y0 y1 y2 y3, LeO (impl_net_parts.l1 k y0 y1 y2 y3) (impl_net_parts.l1 (k + 1) y0 y1 y2 y3))
 | 0 => ⟨fun _ _ _ r h => by simp [impl_net_parts.l0] at h, fun _ _ _ _ r h => by simp [impl_net_parts.l1] at h⟩
 | k + 1 => by
  obtain ⟨ih0, ih1⟩ := impl_net_parts.mono_l k; refine ⟨?_, ?_⟩
  all_goals
   intros
   first | unfold impl_net_parts.l0 | unfold impl_net_parts.l1
   repeat' first | (with_reducible first | exact ih0 _ _ _ | exact ih1 _ _ _ _ | exact impl_net_around.mono _ _ _ | exact LeO.refl _ | exact LeO.none _ | refine LeO.ite ?_ ?_ | refine LeO.bind ?_ (fun _ => ?_))
theorem impl_net_parts.mono : ∀ a0 a1 k, LeO (impl_net_parts.f k a0 a1) (impl_net_parts.f (k + 1) a0 a1) := by
 intro a0 a1 k
 obtain ⟨ih0, ih1⟩ := impl_net_parts.mono_l k
 unfold impl_net_parts.f
 repeat' first | (with_reducible first | exact ih0 _ _ _ | exact ih1 _ _ _ _ | exact impl_net_around.mono _ _ _ | exact LeO.refl _ | exact LeO.none _ | refine LeO.ite ?_ ?_ | refine LeO.bind ?_ (fun _ => ?_))
set_option maxHeartbeats 8000000 in
set_option maxRecDepth 100000 in
theorem impl_net_parts.calls (k : Nat) (A0_0 : Option Addr) (c0_0 : Nat) (l0_0 : List Int) (a1 : Int) (r : List Int) (w : World) (hr0_0 : Kd.C (Kd.int .i64) w A0_0 l0_0.length l0_0) (hc0_0 : l0_0.length ≤ c0_0) (h : impl_net_parts.f k l0_0 a1 = some r) :
  Calls Try.prog 121 #[.agg #[.slice A0_0 l0_0.length c0_0], .int .i64 a1] w fun e w' => ∃ v0_ : Value, e = .returned (v0_) ∧ Kd.R (Kd.int .i64) 3 w' w.heap.size (fun _ => True) v0_ r ∧ Below w.heap.size w w' := by
 have hu90 := Try.underlying90
 have HR0_0 := Aside0.mk hr0_0
 have HC0_0 := Aside0.mk hc0_0
 clear hr0_0 hc0_0
 have HB := am (Below.refl w.heap.size w)
 have H : (impl_net_parts.l0 k a1 ([] : List Int) l0_0) = some r := h
 clear h
 have H' := Aside0.mk H
 clear H
 go_enter Try.func121, Try.ntmps121
 go_wp2_with (first | ((with_reducible refine gate_dst (N := 2) rfl ?_); refine box_event ?hg (N := 2) ?hd (cs := #[.slice A0_0 l0_0.length c0_0]) (t := 90) ?hr ?_; (case hd => rfl); (case hg => rfl); (case hr => first | (go_simp; done) | (go_simp; rfl)); intro gb101 hg w3 hbox hb; have BK101 := am (hbox); have GW101 := am ((Q25 : w.heap.size ≤ gb101)); have GE101 := am ((Q25 : w.heap.size ≤ gb101)); replace HB := am (below_step (Q1 HB) hb); clear hb hbox hg))
 go_loopg [1, 5] k (fun kq v1 v5 w' => ∃ (x1_1 : Int) (x5_1 : List Int), v1 = .int .i64 x1_1 ∧ Aside0 (impl_net_parts.l0 kq x1_1 x5_1 l0_0 = some r) ∧ Aside0 (kq ≤ k) ∧ Aside0 (Kd.R (Kd.int .i64) 3 w' w.heap.size (fun _ => True) v5 x5_1) ∧ Aside0 (w'.heap[gb101]? = some (.cells #[(.slice A0_0 l0_0.length c0_0)] 90 (0, 0))) ∧ Aside0 (Below w.heap.size w w'))
 case atStart => exact ⟨(a1), (([] : List Int)), Q11, H', ⟨Nat.le_refl _⟩, ⟨Q43⟩, ⟨Q0 BK101⟩, ⟨Q1 HB⟩⟩
 case round =>
  clear H'
  try clear c1
  try clear p2
  obtain ⟨x1_1, x5_1, rfl, HA, HK1, HO_5, BK101, HB⟩ := hrel
  cases gk with
  | zero => exact absurd HA.out (by simp [impl_net_parts.l0])
  | succ k1 =>
   have H := HA.out; clear HA
   simp only [impl_net_parts.l0] at H
   by_cases c4 : x1_1 = 0
   ·rw [if_pos c4] at H
    have c4b0 := beq_iff_eq.mpr c4; have c4b1 := bne_eq_false_iff_eq.mpr c4; clear c4; obtain rfl := Option.some.inj H
    go_wp2
    go_ret
    exact ⟨_, Q10, Q55, Q1 HB⟩
   ·rw [if_neg c4] at H
    have c4b0 := beq_eq_false_iff_ne.mpr c4; have c4b1 := bne_iff_ne.mpr c4; have H' := Aside0.mk H; clear H
    go_wp2
    go_loopg [6] k1 (fun kq v6 w' => ∃ (x6_2 : Int), v6 = .int .i64 x6_2 ∧ Aside0 (impl_net_parts.l1 kq x1_1 x5_1 x6_2 l0_0 = some r) ∧ Aside0 (kq ≤ k1) ∧ Aside0 (Kd.R (Kd.int .i64) 3 w' w.heap.size (fun _ => True) u5 x5_1) ∧ Aside0 (w'.heap[gb101]? = some (.cells #[(.slice A0_0 l0_0.length c0_0)] 90 (0, 0))) ∧ Aside0 (Below w.heap.size w w'))
    case atStart => exact ⟨(Go.bits .and .i64 x1_1 (wrap64 (-x1_1))), Q11, H', ⟨Nat.le_refl _⟩, ⟨Q55⟩, ⟨Q0 BK101⟩, ⟨Q1 HB⟩⟩
    case round =>
     clear H'
     try clear c1
     try clear p2
     try clear c4
     try clear c4b0
     try clear c4b1
     try clear p2
     obtain ⟨x6_2, rfl, HA, HK2, HO_5, BK101, HB⟩ := hrel
     cases gk with
     | zero => exact absurd HA.out (by simp [impl_net_parts.l1])
     | succ k2 =>
      have H := HA.out; clear HA
      simp only [impl_net_parts.l1] at H
      replace H := (ob H); obtain ⟨t102, A50, H⟩ := H; (try dsimp only at H); have A5 := Aside0.mk A50; clear A50; have HU6 := Aside0.mk H; clear H; have hcz7_0 : wr.cell? ⟨gb101, 0, none⟩ = some (.slice A0_0 l0_0.length c0_0) := (blk_cell BK101.out 0).trans rfl; have hfz7_0 := blk_frozen BK101.out 0
      go_upto_if 21 with (first | ((with_reducible refine gate_callee (f := 185) rfl ?_); refine goesL_ (some 16) rfl rfl Try.func185 (by kernel_rfl) rfl #[.agg #[.slice A0_0 l0_0.length c0_0], .int .i64 x6_2] rfl Q3 ?_; (with_reducible refine (impl_net_around.calls k2 _ _ l0_0 x6_2 t102 _ ?side1 ?side2 A5.out).mono ?_); (case side1 => exact (Q9 HR0_0 HB)); (case side2 => exact HC0_0.out); rintro e w8 ⟨rfl, hb⟩; refine ⟨_, rfl, ?_⟩; replace HO_5 := am (Kd.R_below Q55 hb); replace BK101 := am (blk_below (g := gb101) (o := .cells #[.slice A0_0 l0_0.length c0_0] 90 (0, 0)) (Q0 BK101) hb); replace HB := am (below_step (Q1 HB) hb); (try clear hb); (try clear hb2); (try clear hk); (try clear hi)))
      (try simp only [Act.put, List.setIfInBounds_toArray, List.set_cons_zero, List.set_cons_succ]); have H := HU6.out; clear HU6
      by_cases c9 : (Go.bits .and .i64 t102 x1_1) = x6_2
      ·rw [if_pos c9] at H
       have c9b0 := beq_iff_eq.mpr c9; have c9b1 := bne_eq_false_iff_eq.mpr c9; clear c9
       (first | rw [c9b0] | (simp only [i64_w, i32_w]; rw [c9b0]) | rw [c9b1] | skip)
       by_cases c10 : x5_1.length < 17592186044416
       ·rw [if_pos c10] at H
        have LMc10 := Aside0.mk c10; clear c10; obtain ⟨y103, hy103⟩ : ∃ y_ : List Int, y_ = (x5_1 ++ [x6_2]) := ⟨_, rfl⟩; replace H : (impl_net_parts.l0 k2 (Go.bits .andNot .i64 x1_1 x6_2) y103 l0_0) = some r := RH hy103 H; have Ny103 := Aside0.mk hy103; clear hy103; have H' := Aside0.mk H; clear H
        go_wp2_with (first | ((with_reducible refine gate_builtin (b := .append) (xs := #[.tmp 23, .tmp 25]) rfl ?_); at_builtin; refine Kd.R_append (Kd.int .i64) (w0 := w) w.heap.size rfl (.tmp 23) (.tmp 25) 25 3 (.int .i64 0) 8 rfl Try.underlying25 info3 rfl (by decide) (by omega) u5 x5_1 x6_2 [.int .i64 x6_2] (fun _ => True) (fun _ => False) rfl rfl ?aP (fun _ hk => hk.elim) ?aF ?aO ?aB ?aS ?aL ?_; (case aP => exact rfl); (case aB => exact (Q1 HB)); (case aF => exact (fun _ _ => trivial)); (case aO => exact Q55); (case aS => exact (below_size (Q1 HB))); (case aL => have := LMc10.out; omega); intro v104 w11 ho hb hg hat; rw [← Ny103.out] at ho; replace BK101 := am (blk_grown (g := gb101) (o := .cells #[.slice A0_0 l0_0.length c0_0] 90 (0, 0)) (Q0 BK101) hg (Kd.R_ne HO_5.out BK101.out (by decide))); replace HB := am (hb); have HO105 := am (ho); clear HO_5; clear ho hb hg hat))
        go_roundg k2
        case measure => have := HK1.out; have := HK2.out; omega
        case rel => exact ⟨(Go.bits .andNot .i64 x1_1 x6_2), (y103), Q11, H', ⟨Q111⟩, ⟨Q6 HO105⟩, ⟨Q0 BK101⟩, ⟨Q1 HB⟩⟩
       ·rw [if_neg c10] at H
        exact absurd H (by simp)
      ·rw [if_neg c9] at H
       have c9b0 := beq_eq_false_iff_ne.mpr c9; have c9b1 := bne_iff_ne.mpr c9
       (first | rw [c9b0] | (simp only [i64_w, i32_w]; rw [c9b0]) | rw [c9b1] | skip)
       have H' := Aside0.mk H; clear H
       go_wp2
       go_roundg k2
       case measure => have := HK1.out; have := HK2.out; omega
       case rel => exact ⟨(Go.bits .and .i64 t102 x1_1), Q11, H', ⟨Q111⟩, ⟨Q55⟩, ⟨Q0 BK101⟩, ⟨Q1 HB⟩⟩
/-! ### impl_PartsOf: function 34 -/
def impl_PartsOf.l0 : Nat → List (List Int) → List Int → Int → Int → Option ((List (List Int)) × Bool)
 | 0, _, _, _, _ => none
 | k + 1, x4, x16, x17, x18 => if x18 < x17 then (if 0 ≤ x18 then (if x18 < (x16.length : Int) then ((impl_setOf.f k (rd x16 x18)).bind fun t110 => (if x4.length < 5864062014805 then (impl_PartsOf.l0 k (x4 ++ [t110]) x16 x17 (wrap64 (x18 + 1))) else (none))) else (none)) else (none)) else (some (x4, true))
def impl_PartsOf.f (k : Nat) (a0_0 : Int) (l0_1 : List (S71)) : Option ((List (List Int)) × Bool) := (impl_IsGraph.f k a0_0 l0_1).bind fun t102 => (if t102 = true then ((impl_netOf.f k a0_0 l0_1).bind fun t103 => (if 0 ≤ a0_0 then ((impl_net_parts.f k t103 (wrap64 ((shl .i64 1 a0_0) - 1))).bind fun t106 => (impl_PartsOf.l0 k ([] : List (List Int)) t106 (t106.length : Int) 0)) else (none))) else (some (([] : List (List Int)), false)))
theorem impl_PartsOf.mono_l : ∀ k, (∀ y0 y1 y2 y3, LeO (impl_PartsOf.l0 k y0 y1 y2 y3) (impl_PartsOf.l0 (k + 1) y0 y1 y2 y3))
 | 0 => fun _ _ _ _ r h => by simp [impl_PartsOf.l0] at h
 | k + 1 => by
  have ih0 := impl_PartsOf.mono_l k
  all_goals
   intros
   first | unfold impl_PartsOf.l0
   repeat' first | (with_reducible first | exact ih0 _ _ _ _ | exact impl_IsGraph.mono _ _ _ | exact impl_netOf.mono _ _ _ | exact impl_net_parts.mono _ _ _ | exact impl_setOf.mono _ _ | exact LeO.refl _ | exact LeO.none _ | refine LeO.ite ?_ ?_ | refine LeO.bind ?_ (fun _ => ?_))
theorem impl_PartsOf.mono : ∀ a0 a1 k, LeO (impl_PartsOf.f k a0 a1) (impl_PartsOf.f (k + 1) a0 a1) := by
 intro a0 a1 k
 have ih0 := impl_PartsOf.mono_l k
 unfold impl_PartsOf.f
 repeat' first | (with_reducible first | exact ih0 _ _ _ _ | exact impl_IsGraph.mono _ _ _ | exact impl_netOf.mono _ _ _ | exact impl_net_parts.mono _ _ _ | exact impl_setOf.mono _ _ | exact LeO.refl _ | exact LeO.none _ | refine LeO.ite ?_ ?_ | refine LeO.bind ?_ (fun _ => ?_))
def impl_PartsOf.T4 : Bool × List (List Nat × List Nat) := (true, [([], []), ([0], [0]), ([], []), ([2], [2]), ([3], [3]), ([4], [4]), ([1, 5, 1], [1, 5]), ([6], [6]), ([], [])])
def impl_PartsOf.B4 : List Nat := [0, 1, 0, 4, 12, 28, 63, 127, 0]
theorem impl_PartsOf.tab4 : rtab .any (opsOf Try.f34 4) = impl_PartsOf.T4 := by kernel_rfl
theorem impl_PartsOf.bits4 : waitsOk impl_PartsOf.T4.2 impl_PartsOf.B4 = true := by kernel_rfl
set_option maxHeartbeats 8000000 in
set_option maxRecDepth 100000 in
theorem impl_PartsOf.calls (k : Nat) (a0_0 : Int) (A0_1 : Option Addr) (c0_1 : Nat) (l0_1 : List (S71)) (r1 : List (List Int)) (r2 : Bool) (w : World) (hr0_1 : Kd.C k71 w A0_1 l0_1.length l0_1) (hc0_1 : l0_1.length ≤ c0_1) (h : impl_PartsOf.f k a0_0 l0_1 = some (r1, r2)) :
  Calls Try.prog 34 #[.agg #[.int .i64 a0_0, .slice A0_1 l0_1.length c0_1]] w fun e w' => ∃ v0_ : Value, e = .returned (.tuple #[v0_, .bool r2]) ∧ Kd.S (Kd.slice 3 (Kd.int .i64)) 25 w' w.heap.size (fun _ => True) v0_ r1 ∧ Below w.heap.size w w' := by
 have hu30 := Try.underlying30
 have HR0_1 := Aside0.mk hr0_1
 have HC0_1 := Aside0.mk hc0_1
 clear hr0_1 hc0_1
 have HB := am (Below.refl w.heap.size w)
 have H : ((impl_IsGraph.f k a0_0 l0_1).bind fun t102 => (if t102 = true then ((impl_netOf.f k a0_0 l0_1).bind fun t103 => (if 0 ≤ a0_0 then ((impl_net_parts.f k t103 (wrap64 ((shl .i64 1 a0_0) - 1))).bind fun t106 => (impl_PartsOf.l0 k ([] : List (List Int)) t106 (t106.length : Int) 0)) else (none))) else (some (([] : List (List Int)), false)))) = some (r1, r2) := h
 clear h
 replace H := (ob H)
 obtain ⟨t102, A20, H⟩ := H
 (try dsimp only at H)
 have A2 := Aside0.mk A20
 clear A20
 have HU3 := Aside0.mk H
 clear H
 go_enter Try.func34, Try.ntmps34
 go_upto_if 9 with (first | ((with_reducible refine gate_dst (N := 1) rfl ?_); refine box_event ?hg (N := 1) ?hd (cs := #[.int .i64 a0_0, .slice A0_1 l0_1.length c0_1]) (t := 30) ?hr ?_; (case hd => rfl); (case hg => rfl); (case hr => first | (go_simp; done) | (go_simp; rfl)); intro gb101 hg w4 hbox hb; have BK101 := am (hbox); have GW101 := am ((Q25 : w.heap.size ≤ gb101)); have GE101 := am ((Q25 : w.heap.size ≤ gb101)); replace HB := am (below_step (Q1 HB) hb); clear hb hbox hg; have hcz5_0 : w4.cell? ⟨gb101, 0, none⟩ = some (.int .i64 a0_0) := (blk_cell BK101.out 0).trans rfl; have hcz5_1 : w4.cell? ⟨gb101, 1, none⟩ = some (.slice A0_1 l0_1.length c0_1) := (blk_cell BK101.out 1).trans rfl; have hfz5_0 := blk_frozen BK101.out 0; have hfz5_1 := blk_frozen BK101.out 1) | ((with_reducible refine gate_callee (f := 71) rfl ?_); refine goesL_ (some 8) rfl rfl Try.func71 (by kernel_rfl) rfl #[.agg #[.int .i64 a0_0, .slice A0_1 l0_1.length c0_1]] rfl Q3 ?_; (with_reducible refine (impl_IsGraph.calls k a0_0 _ _ l0_1 t102 _ ?side1 ?side2 A2.out).mono ?_); (case side1 => exact (Q9 HR0_1 HB)); (case side2 => exact HC0_1.out); rintro e w6 ⟨rfl, hb⟩; refine ⟨_, rfl, ?_⟩; replace BK101 := am (blk_below (g := gb101) (o := .cells #[.int .i64 a0_0, .slice A0_1 l0_1.length c0_1] 30 (0, 0)) (Q0 BK101) hb); replace HB := am (below_step (Q1 HB) hb); (try clear hb); (try clear hb2); (try clear hk); (try clear hi)))
 (try simp only [Act.put, List.setIfInBounds_toArray, List.set_cons_zero, List.set_cons_succ])
 have H := HU3.out
 clear HU3
 by_cases c7 : t102 = true
 ·subst c7
  have H1 : ((impl_netOf.f k a0_0 l0_1).bind fun t103 => (if 0 ≤ a0_0 then ((impl_net_parts.f k t103 (wrap64 ((shl .i64 1 a0_0) - 1))).bind fun t106 => (impl_PartsOf.l0 k ([] : List (List Int)) t106 (t106.length : Int) 0)) else (none))) = some (r1, r2) := by rw [if_pos rfl] at H; exact H
  clear H; have H := H1; clear H1; replace H := (ob H); obtain ⟨t103, A80, H⟩ := H; (try dsimp only at H); have A8 := Aside0.mk A80; clear A80
  by_cases c9 : 0 ≤ a0_0
  ·rw [if_pos c9] at H
   have c9b0 := eq_true c9; have c9b1 := decide_eq_true c9; clear c9; obtain ⟨ji10, hji10⟩ : ∃ j_ : Int, (shl .i64 1 a0_0) = j_ := ⟨_, rfl⟩; replace H : ((impl_net_parts.f k t103 (wrap64 ((ji10) - 1))).bind fun t106 => (impl_PartsOf.l0 k ([] : List (List Int)) t106 (t106.length : Int) 0)) = some (r1, r2) := by first | (rw [hji10] at H; exact H) | (simp only [hji10] at H ⊢; exact H)
   (try rw [hji10] at A8); have hji10_ : (IntKind.i64.wrap (1 * 2 ^ min a0_0.toNat 64)) = ji10 := hji10; have hji10z : a0_0 ≤ 64 → (IntKind.i64.wrap (1 * 2 ^ a0_0.toNat)) = ji10 := shl_small hji10; have hji10u : (IntKind.i64.wrap (2 ^ min a0_0.toNat 64)) = ji10 := by have h_ := hji10_; rw [Int.one_mul] at h_; exact h_
   have hji10v : a0_0 ≤ 64 → (IntKind.i64.wrap (2 ^ a0_0.toNat)) = ji10 := fun hle_ => by have h_ := hji10z hle_; rw [Int.one_mul] at h_; exact h_
   have hji10y : (wrap64 (1 * 2 ^ min a0_0.toNat 64)) = ji10 := (i64_w _).symm.trans hji10_; have hji10x : a0_0 ≤ 64 → (wrap64 (1 * 2 ^ a0_0.toNat)) = ji10 := fun h_ => (i64_w _).symm.trans (hji10z h_)
   replace H := (ob H); obtain ⟨t106, A110, H⟩ := H; (try dsimp only at H); have A11 := Aside0.mk A110; clear A110; have H' := Aside0.mk H; clear H
   try go_wp2
   replace BK101 := am (blk_drew BK101.out); replace HB := am (below_drew1 HB.out); refine start_ (n := 9) (S := fun w' => w'.cell? ⟨gb101, 0, none⟩ = some (.int .i64 a0_0) ∧ w'.cell? ⟨gb101, 1, none⟩ = some (.slice A0_1 l0_1.length c0_1)) (ds := []) #[false, false, false, false, false, false, false, false, false] (by kernel_rfl) rfl rfl ⟨(blk_cell BK101.out 0).trans rfl, (blk_cell BK101.out 1).trans rfl⟩ (fun hHeld => ?_); refine with_tabW impl_PartsOf.tab4 impl_PartsOf.bits4 (fun HT_ HW_ => ?_); generalize w6.drew = w12 at BK101 HB hHeld ⊢; refine pq 2 12 rfl rfl HT_ ?_; refine pq 8 18 rfl rfl HT_ ?_; refine tq2 0 10 rfl rfl HT_ HW_ hHeld ?_; refine tq2 3 13 rfl rfl HT_ HW_ hHeld ?_; refine pq 4 14 rfl rfl HT_ ?_; refine pq 5 15 rfl rfl HT_ ?_; refine oq 1 11 rfl rfl HT_ (fun K hK => ?_); refine goes_ Try.func101 (by kernel_rfl) rfl #[.agg #[.int .i64 a0_0, .slice A0_1 l0_1.length c0_1]] (by rfl) rfl rfl Q3 ?_
   with_reducible refine (impl_netOf.calls k a0_0 _ _ l0_1 t103 _ ?side1 ?side2 A8.out).mono ?_
   (case side1 => exact (Q9 HR0_1 HB))
   (case side2 => exact HC0_1.out)
   rintro e w13 ⟨v104, rfl, ho0, hb⟩; refine ⟨_, rfl, ?_⟩; have HO105 := am (Kd.R_lower ho0 (below_size (Q1 HB))); replace BK101 := am (blk_below (g := gb101) (o := .cells #[.int .i64 a0_0, .slice A0_1 l0_1.length c0_1] 30 (0, 0)) (Q0 BK101) hb); replace HB := am (below_step (Q1 HB) hb); (try clear hb); (try clear hb2); (try clear hk); (try clear hi); (try clear ho0); obtain ⟨Ao14, co14, eo14⟩ := Kd.R_slice HO105.out
   (first | subst eo14 | (injection eo14 with f1_ f2_ f3_; have f4_ := f1_.symm; have f5_ := f3_.symm; clear f1_ f2_ f3_; subst f4_; subst f5_))
   refine hK.out _ _ ⟨(blk_cell BK101.out 0).trans rfl, (blk_cell BK101.out 1).trans rfl⟩ (fun hHeld => ?_); clear hK K; refine norm_ (a' := ?_) ?_ ?_
   rotate_left
   ·show Act.put _ (some 11) _ = _
    simp only [Act.put, List.setIfInBounds_toArray, List.set_cons_zero, List.set_cons_succ, i64_w, i32_w]
    rfl
   refine oq 6 16 rfl rfl HT_ (fun K hK => ?_); refine goes_ Try.func121 (by kernel_rfl) rfl #[.agg #[.slice Ao14 t103.length co14], .int .i64 (wrap64 ((ji10) - 1))] (by rfl) rfl rfl (by (try simp only [List.map_toArray, List.map_cons, List.map_nil]); first | done | (simp only [hji10]; rfl) | rfl | (simp only [List.length_drop, List.length_take]; rfl)) ?_
   with_reducible refine (impl_net_parts.calls k _ _ t103 (wrap64 ((ji10) - 1)) t106 _ ?side1 ?side2 A11.out).mono ?_
   (case side1 => exact (Q36 HO105))
   (case side2 => exact (Kd.R_reads' HO105.out).2.1)
   rintro e w15 ⟨v107, rfl, ho0, hb⟩; refine ⟨_, rfl, ?_⟩; have HO108 := am (Kd.R_lower (Kd.R_new' ho0 (Kd.R_lt (Q6 HO105))) (below_size (Q1 HB))); replace HO105 := am (Kd.R_elder' (Q6 HO105) (Kd.R_base ho0) hb); replace BK101 := am (blk_below (g := gb101) (o := .cells #[.int .i64 a0_0, .slice A0_1 l0_1.length c0_1] 30 (0, 0)) (Q0 BK101) hb); replace HB := am (below_step (Q1 HB) hb); (try clear hb); (try clear hb2); (try clear hk); (try clear hi); (try clear ho0); obtain ⟨Ao16, co16, eo16⟩ := Kd.R_slice HO108.out
   (first | subst eo16 | (injection eo16 with f1_ f2_ f3_; have f4_ := f1_.symm; have f5_ := f3_.symm; clear f1_ f2_ f3_; subst f4_; subst f5_))
   refine hK.out _ _ ⟨(blk_cell BK101.out 0).trans rfl, (blk_cell BK101.out 1).trans rfl⟩ (fun hHeld => ?_); clear hK K; refine norm_ (a' := ?_) ?_ ?_
   rotate_left
   ·show Act.put _ (some 16) _ = _
    simp only [Act.put, List.setIfInBounds_toArray, List.set_cons_zero, List.set_cons_succ, i64_w, i32_w]
    rfl
   refine pq 7 17 rfl rfl HT_ ?_; refine done_ (done_of HT_.out (by kernel_rfl)) ?_
   try go_wp2
   go_loopg [4, 18] k (fun kq v4 v18 w' => ∃ (x4_1 : List (List Int)) (x18_1 : Int), v18 = .int .i64 x18_1 ∧ Aside0 (impl_PartsOf.l0 kq x4_1 t106 (t106.length : Int) x18_1 = some (r1, r2)) ∧ Aside0 (kq ≤ k) ∧ Aside0 (Kd.S (Kd.slice 3 (Kd.int .i64)) 25 w' w.heap.size (fun k_ => some k_ ≠ ((.slice Ao16 t106.length co16) : Value).ownBlock) v4 x4_1) ∧ Aside0 (Kd.R (Kd.int .i64) 3 w' w.heap.size (fun _ => True) (.slice Ao16 t106.length co16) t106) ∧ Aside0 (w'.heap[gb101]? = some (.cells #[.int .i64 a0_0, (.slice A0_1 l0_1.length c0_1)] 30 (0, 0))) ∧ Aside0 (Below w.heap.size w w'))
   case atStart => exact ⟨(([] : List (List Int))), (0), Q11, H', ⟨Nat.le_refl _⟩, ⟨by first | exact Kd.S_nil _ _ _ _ _ | exact Kd.N_nil _ _ _ _ _ | exact Kd.V_nil _ _ _ _ _ | exact Kd.Q_nil _ _ _ _ _ | exact Kd.R_nil _ _ _ _ _⟩, ⟨Q160 HO108⟩, ⟨Q0 BK101⟩, ⟨Q1 HB⟩⟩
   case round =>
    clear H'
    try clear c1
    try clear p2
    try clear c3
    try clear p6
    try clear c7
    try clear c9
    try clear c9b0
    try clear c9b1
    try clear c10
    try clear c12
    try clear hcz5_0
    try clear hcz5_1
    try clear hfz5_0
    try clear hfz5_1
    obtain ⟨x4_1, x18_1, rfl, HA, HK1, HO_4, HO_16, BK101, HB⟩ := hrel
    cases gk with
    | zero => exact absurd HA.out (by simp [impl_PartsOf.l0])
    | succ k1 =>
     have H := HA.out; clear HA
     simp only [impl_PartsOf.l0] at H
     by_cases c17 : x18_1 < (t106.length : Int)
     ·rw [if_pos c17] at H
      have c17b0 := decide_eq_true c17; clear c17
      (first | rw [c17b0] | (simp only [i64_w, i32_w]; rw [c17b0]) | skip)
      by_cases c18 : 0 ≤ x18_1
      ·rw [if_pos c18] at H
       have c18b0 := decide_eq_true c18; clear c18
       by_cases c19 : x18_1 < (t106.length : Int)
       ·rw [if_pos c19] at H
        have c19b0 := decide_eq_true c19; clear c19; replace H := (ob H); obtain ⟨t110, A200, H⟩ := H; (try dsimp only at H); have A20 := Aside0.mk A200; clear A200
        by_cases c21 : x4_1.length < 5864062014805
        ·rw [if_pos c21] at H
         have LMc21 := Aside0.mk c21; clear c21; obtain ⟨y113, hy113⟩ : ∃ y_ : List (List Int), y_ = (x4_1 ++ [t110]) := ⟨_, rfl⟩; replace H : (impl_PartsOf.l0 k1 y113 t106 (t106.length : Int) (wrap64 (x18_1 + 1))) = some (r1, r2) := RH hy113 H; have Ny113 := Aside0.mk hy113; clear hy113; have H' := Aside0.mk H; clear H; have p109 : 0 ≤ (x18_1 : Int) := of_decide_eq_true Q12; have q109 : x18_1 < (t106.length : Int) := of_decide_eq_true Q12; obtain ⟨ad109, e109, hx109_0⟩ := Kd.at_int (Kd.R_reads' HO_16.out).2.2 x18_1 p109 q109
         cases e109
         replace p109 := eq_true p109; replace q109 := eq_true q109
         go_wp2_with (first | ((with_reducible refine gate_callee (f := 122) rfl ?_); refine goesL_ (some 24) rfl rfl Try.func122 (by kernel_rfl) rfl #[.int .i64 (rd t106 x18_1)] rfl Q3 ?_; (with_reducible refine (impl_setOf.calls k1 (rd t106 x18_1) t110 _ A20.out).mono ?_); rintro e w22 ⟨v111, rfl, ho0, hb⟩; refine ⟨_, rfl, ?_⟩; replace HO_4 := am (Kd.S_elder' (by (with_reducible repeat (first | apply Kd.S_alloc | apply Kd.S_drewN | apply Kd.S_drew)); exact HO_4.out) (Kd.R_base ho0) hb); have HO112 := am (Kd.R_lower (Kd.R_new' ho0 (Kd.R_lt Q113)) (below_size (Q1 HB))); replace HO_16 := am (Kd.R_elder' Q113 (Kd.R_base ho0) hb); replace BK101 := am (blk_below (g := gb101) (o := .cells #[.int .i64 a0_0, .slice A0_1 l0_1.length c0_1] 30 (0, 0)) (Q0 BK101) hb); replace HB := am (below_step (Q1 HB) hb); (try clear hb); (try clear hb2); (try clear hk); (try clear hi); (try clear ho0); obtain ⟨Ao24, co24, eo24⟩ := Kd.R_slice HO112.out; subst eo24) | ((with_reducible refine gate_builtin (b := .append) (xs := #[.tmp 22, .tmp 25]) rfl ?_); at_builtin; refine Kd.S_append (Kd.slice 3 (Kd.int .i64)) (w0 := w) w.heap.size rfl (.tmp 22) (.tmp 25) 27 25 (.slice none 0 0) 24 rfl Try.underlying27 info25 rfl (by decide) (by omega) u4 x4_1 t110 [.slice Ao24 t110.length co24] (fun k_ => some k_ ≠ (.slice (some ad109) t106.length co16 : Value).ownBlock) (fun k_ => some k_ = (.slice Ao24 t110.length co24 : Value).ownBlock) rfl rfl ?aP (fun k_ hk_ => ((Kd.R_mono (ok' := fun k_ => ((fun k_ => some k_ ≠ (.slice (some ad109) t106.length co16 : Value).ownBlock)) k_ ∧ some k_ ≠ (u4 : Value).ownBlock) (Kd.R_apart' (HO112.out) (Kd.S_typed HO_4.out) (by decide)) (fun k_ hk => ⟨hk.1.2, hk.2⟩))).1 k_ hk_.symm) ?aF ?aO ?aB ?aS ?aL ?_; (case aP => exact Kd.M_row (Kd.R_mono (Kd.R_tight rfl (Kd.R_mono (ok' := fun k_ => ((fun k_ => some k_ ≠ (.slice (some ad109) t106.length co16 : Value).ownBlock)) k_ ∧ some k_ ≠ (u4 : Value).ownBlock) (Kd.R_apart' (HO112.out) (Kd.S_typed HO_4.out) (by decide)) (fun k_ hk => ⟨hk.1.2, hk.2⟩))) (fun _ h_ => h_))); (case aB => exact (Q1 HB)); (case aF => exact (fun k_ hk => Kd.fresh' (Kd.R_lt Q113) k_ hk)); (case aO => exact (by (with_reducible repeat (first | apply Kd.S_alloc | apply Kd.S_drewN | apply Kd.S_drew)); exact Kd.S_mono HO_4.out (fun k_ hk => ⟨hk.1, fun e_ => hk.2 e_⟩))); (case aS => exact (below_size (Q1 HB))); (case aL => have := LMc21.out; omega); intro v114 w23 ho hb hg hat; rw [← Ny113.out] at ho; replace HO_16 := am (Kd.R_over' Q113 (Kd.S_typed (by (with_reducible repeat (first | apply Kd.S_alloc | apply Kd.S_drewN | apply Kd.S_drew)); exact HO_4.out)) (by decide) hg); replace BK101 := am (blk_grown (g := gb101) (o := .cells #[.int .i64 a0_0, .slice A0_1 l0_1.length c0_1] 30 (0, 0)) (Q0 BK101) hg (Kd.S_ne HO_4.out BK101.out (by decide))); replace HB := am (hb); have HO115 := am (ho); clear HO_4 HO112; clear ho hb hg hat))
         go_roundg k1
         case measure => have := HK1.out; omega
         case rel => exact ⟨(y113), (wrap64 (x18_1 + 1)), Q11, H', ⟨Q95⟩, ⟨Q44 HO115⟩, ⟨by (with_reducible repeat (first | apply Kd.R_alloc | apply Kd.R_drewN | apply Kd.R_drew)); exact Kd.R_mono HO_16.out (fun _ hk => trivial)⟩, ⟨Q0 BK101⟩, ⟨Q1 HB⟩⟩
        ·rw [if_neg c21] at H
         exact absurd H (by simp)
       ·rw [if_neg c19] at H
        exact absurd H (by simp)
      ·rw [if_neg c18] at H
       exact absurd H (by simp)
     ·rw [if_neg c17] at H
      have c17b0 := decide_eq_false c17; clear c17
      (first | rw [c17b0] | (simp only [i64_w, i32_w]; rw [c17b0]) | skip)
      simp only [Option.some.injEq, Prod.mk.injEq] at H
      obtain ⟨rfl, rfl⟩ := H
      go_wp2
      go_ret2
      exact ⟨_, by first | rfl | (simp [errW_none, errW_some] <;> rfl) | (simp only [← hji10]; first | rfl | (simp [errW_none, errW_some] <;> rfl)) | (simp [*, errW_none, errW_some] <;> rfl), by (with_reducible repeat (first | apply Kd.S_alloc | apply Kd.S_drewN | apply Kd.S_drew)); exact Kd.S_mono HO_4.out (fun _ hk => trivial), Q1 HB⟩
  ·rw [if_neg c9] at H
   exact absurd H (by simp)
 ·replace c7 := Bool.eq_false_iff.mpr c7
  subst c7; have H1 : (some (([] : List (List Int)), false)) = some (r1, r2) := by rw [if_neg (show ¬ (false = true) by decide)] at H; exact H
  clear H; have H := H1; clear H1
  simp only [Option.some.injEq, Prod.mk.injEq] at H
  obtain ⟨rfl, rfl⟩ := H
  go_wp2
  go_ret2
  exact ⟨_, Q10, by first | exact Kd.S_nil _ _ _ _ _ | exact Kd.N_nil _ _ _ _ _ | exact Kd.V_nil _ _ _ _ _ | exact Kd.Q_nil _ _ _ _ _ | exact Kd.R_nil _ _ _ _ _, Q1 HB⟩
/-! ### impl_PathGraph_1: function 109 -/
def impl_PathGraph_1.f (a0 : Int) (a1 : Int) : Option (Bool) := some (a1 == (wrap64 (a0 + 1)))
set_option maxHeartbeats 8000000 in
set_option maxRecDepth 100000 in
theorem impl_PathGraph_1.calls (a0 : Int) (a1 : Int) (r : Bool) (w : World) (h : impl_PathGraph_1.f a0 a1 = some r) :
  Calls Try.prog 109 #[.int .i64 a0, .int .i64 a1] w fun e w' => e = .returned (.bool r) ∧ Drawn0 w w' := by
 have H : (some (a1 == (wrap64 (a0 + 1)))) = some r := h
 clear h
 obtain rfl := Option.some.inj H
 go_enter Try.func109, Try.ntmps109
 go_wp2
 go_ret
 exact ⟨Q11, Q40⟩
/-! ### impl_graphBy_PathGraph -/
def impl_graphBy_PathGraph.c  (x y : Int) : Option Bool := impl_PathGraph_1.f x y
def impl_graphBy_PathGraph.f (k : Nat) (a0 : Int)  : Option (Int × List (S71)) := if (0 ≤ a0 ∧ a0 ≤ 1000) ∧ okBy (impl_graphBy_PathGraph.c ) a0 = true then (impl_graphBy.f k (fun x y => (impl_graphBy_PathGraph.c  x y).getD false) a0).map (fun es => (a0, es)) else none
theorem impl_graphBy_PathGraph.mono : ∀ a0  k, LeO (impl_graphBy_PathGraph.f k a0 ) (impl_graphBy_PathGraph.f (k + 1) a0 ) := by
 intro a0  k
 unfold impl_graphBy_PathGraph.f
 exact LeO.ite (LeO.map _ (impl_graphBy.mono _ _ _)) (LeO.refl _)
theorem impl_graphBy_PathGraph.calls (k : Nat) (a0 : Int)   (r1 : Int) (r2 : List (S71)) (w : World) (h : impl_graphBy_PathGraph.f k a0  = some (r1, r2)) :
  Calls Try.prog 108 #[.int .i64 a0, .func (.func 109) #[] #[]] w fun e w' => ∃ v1_ : Value, e = .returned (.agg #[.int .i64 r1, v1_]) ∧ Kd.R k71 71 w' w.heap.size (fun _ => True) v1_ r2 ∧ Below w.heap.size w w' := by
 unfold impl_graphBy_PathGraph.f at h
 by_cases hc : (0 ≤ a0 ∧ a0 ≤ 1000) ∧ okBy (impl_graphBy_PathGraph.c ) a0 = true
 ·rw [if_pos hc] at h
  obtain ⟨es, hes, he⟩ := Option.map_eq_some_iff.1 h
  simp only [Prod.mk.injEq] at he
  obtain ⟨rfl, rfl⟩ := he; refine impl_graphBy.gen k _ a0 109 #[] #[] es w hc.1 ⟨_, Try.func109, by kernel_rfl, rfl⟩ (fun x y W hx hxy hy hb => ?_) hes; refine (show Calls Try.prog 109 #[.int .i64 x, .int .i64 y] W _ from ?_); refine (impl_PathGraph_1.calls x y  _ W   (show impl_PathGraph_1.f x y = some _ from okBy_spec (c := impl_graphBy_PathGraph.c ) hc.2 hx hxy hy)).mono ?_; rintro e W' ⟨he, hd⟩; exact ⟨he, hd.below⟩
 ·rw [if_neg hc] at h
  cases h
/-! ### impl_PathGraph: function 23 -/
def impl_PathGraph.f (k : Nat) (a0 : Int) : Option (Int × (List (S71)) × Bool) := (impl_within.f a0 0 8).bind fun t102 => (if t102 = true then ((impl_graphBy_PathGraph.f k a0).bind fun bt103 => (some (bt103.1, bt103.2, true))) else (some (0, ([] : List (S71)), false)))
theorem impl_PathGraph.mono : ∀ a0 k, LeO (impl_PathGraph.f k a0) (impl_PathGraph.f (k + 1) a0) := by
 intro a0 k
 unfold impl_PathGraph.f
 repeat' first | (with_reducible first | exact impl_graphBy_PathGraph.mono _ _ | exact LeO.refl _ | exact LeO.none _ | refine LeO.ite ?_ ?_ | refine LeO.bind ?_ (fun _ => ?_))
set_option maxHeartbeats 8000000 in
set_option maxRecDepth 100000 in
theorem impl_PathGraph.calls (k : Nat) (a0 : Int) (r1 : Int) (r2 : List (S71)) (r3 : Bool) (w : World) (h : impl_PathGraph.f k a0 = some (r1, r2, r3)) :
  Calls Try.prog 23 #[.int .i64 a0] w fun e w' => ∃ v1_ : Value, e = .returned (.tuple #[.agg #[.int .i64 r1, v1_], .bool r3]) ∧ Kd.R k71 71 w' w.heap.size (fun _ => True) v1_ r2 ∧ Below w.heap.size w w' := by
 have hu30 := Try.underlying30
 have HB := am (Below.refl w.heap.size w)
 have H : ((impl_within.f a0 0 8).bind fun t102 => (if t102 = true then ((impl_graphBy_PathGraph.f k a0).bind fun bt103 => (some (bt103.1, bt103.2, true))) else (some (0, ([] : List (S71)), false)))) = some (r1, r2, r3) := h
 clear h
 replace H := (ob H)
 obtain ⟨t102, A20, H⟩ := H
 (try dsimp only at H)
 have A2 := Aside0.mk A20
 clear A20
 have HU3 := Aside0.mk H
 clear H
 go_enter Try.func23, Try.ntmps23
 go_upto_if 6 with (first | ((with_reducible refine gate_dst (N := 2) rfl ?_); refine box_event ?hg (N := 2) ?hd (cs := #[.int .i64 0, .slice none 0 0]) (t := 30) ?hr ?_; (case hd => rfl); (case hg => rfl); (case hr => first | (go_simp; done) | (go_simp; rfl)); intro gb101 hg w4 hbox hb; have BK101 := am (hbox); have GW101 := am ((Q25 : w.heap.size ≤ gb101)); have GE101 := am ((Q25 : w.heap.size ≤ gb101)); replace HB := am (below_step (Q1 HB) hb); clear hb hbox hg) | ((with_reducible refine gate_callee (f := 107) rfl ?_); refine goesL_ (some 5) rfl rfl Try.func107 (by kernel_rfl) rfl #[.int .i64 a0, .int .i64 0, .int .i64 8] rfl Q3 ?_; (with_reducible refine (impl_within.calls a0 0 8 t102 _ A2.out).mono ?_); rintro e w' ⟨rfl, ⟨nd, rfl⟩⟩; refine ⟨_, rfl, ?_⟩))
 (try simp only [Act.put, List.setIfInBounds_toArray, List.set_cons_zero, List.set_cons_succ])
 have H := HU3.out
 clear HU3
 by_cases c5 : t102 = true
 ·subst c5
  have H1 : ((impl_graphBy_PathGraph.f k a0).bind fun bt103 => (some (bt103.1, bt103.2, true))) = some (r1, r2, r3) := by rw [if_pos rfl] at H; exact H
  clear H; have H := H1; clear H1; replace H := (ob H); obtain ⟨⟨t103, t104⟩, A60, H⟩ := H; (try dsimp only at H); have A6 := Aside0.mk A60; clear A60
  simp only [Option.some.injEq, Prod.mk.injEq] at H
  obtain ⟨rfl, rfl, rfl⟩ := H
  go_wp2_with (first | ((with_reducible refine gate_callee (f := 108) rfl ?_); refine goesL_ (some 9) rfl rfl Try.func108 (by kernel_rfl) rfl #[.int .i64 a0, .func (.func 109) #[] #[]] rfl Q3 ?_; (with_reducible refine (impl_graphBy_PathGraph.calls k a0  t103 t104 _ A6.out).mono ?_); rintro e w7 ⟨v105, rfl, ho0, hb⟩; refine ⟨_, rfl, ?_⟩; have HO106 := am (Kd.R_lower ho0 (below_size (Q1 HB))); replace BK101 := am (blk_below (g := gb101) (o := .cells #[.int .i64 0, .slice none 0 0] 30 (0, 0)) (Q0 BK101) hb); replace HB := am (below_step (Q1 HB) hb); (try clear hb); (try clear hb2); (try clear hk); (try clear hi); (try clear ho0); have hcz8_0 : w7.cell? ⟨gb101, 0, none⟩ = some (.int .i64 0) := (blk_cell BK101.out 0).trans rfl; have hcz8_1 : w7.cell? ⟨gb101, 1, none⟩ = some (.slice none 0 0) := (blk_cell BK101.out 1).trans rfl; have hfz8_0 := blk_frozen BK101.out 0; have hfz8_1 := blk_frozen BK101.out 1; obtain ⟨Ao9, co9, eo9⟩ := Kd.R_slice HO106.out; subst eo9))
  refine bodyPost_ret (results_ct rfl _ _ gb101 30 #[.int .i64 t103, .slice Ao9 t104.length co9] (0, 0) _ rfl (Q31 BK101) Try.underlying30 rfl (by kernel_rfl)) rfl ?_; exact ⟨_, Q10, Q48 HO106 BK101, Q5 HB GE101⟩
 ·replace c5 := Bool.eq_false_iff.mpr c5
  subst c5; have H1 : (some (0, ([] : List (S71)), false)) = some (r1, r2, r3) := by rw [if_neg (show ¬ (false = true) by decide)] at H; exact H
  clear H; have H := H1; clear H1
  simp only [Option.some.injEq, Prod.mk.injEq] at H
  obtain ⟨rfl, rfl, rfl⟩ := H; have hcz10_0 : w4.cell? ⟨gb101, 0, none⟩ = some (.int .i64 0) := (blk_cell BK101.out 0).trans rfl; have hcz10_1 : w4.cell? ⟨gb101, 1, none⟩ = some (.slice none 0 0) := (blk_cell BK101.out 1).trans rfl; have hfz10_0 := blk_frozen BK101.out 0; have hfz10_1 := blk_frozen BK101.out 1
  go_wp2
  refine bodyPost_ret (results_ct rfl _ _ gb101 30 #[.int .i64 0, .slice none 0 0] (0, 0) _ rfl (Q26 BK101) Try.underlying30 rfl (by kernel_rfl)) rfl ?_; exact ⟨_, Q10, Q43, Q5 HB GE101⟩
/-! ### slices_Clone_2_int_2_int: function 119 -/
def slices_Clone_2_int_2_int.f (l0 : List (S71)) : Option (List (S71)) := if l0.length < 8796093022208 then some l0 else none
set_option maxHeartbeats 8000000 in
set_option maxRecDepth 100000 in
theorem slices_Clone_2_int_2_int.calls (A0 : Option Addr) (c0 : Nat) (l0 : List (S71)) (r : List (S71)) (w : World) (hr0 : Kd.C k71 w A0 l0.length l0) (hc0 : l0.length ≤ c0) (h : slices_Clone_2_int_2_int.f l0 = some r) :
  Calls Try.prog 119 #[.slice A0 l0.length c0] w fun e w' => ∃ v0_ : Value, e = .returned v0_ ∧ Kd.R k71 71 w' w.heap.size (fun _ => True) v0_ r ∧ Below w.heap.size w w' := by
 have heq := fun (W : World) (a : Option Addr) (n c : Nat) => Lib.run_eql_slice_nil (P := Try.prog) W 22 71 a n c 0 0 Try.underlying22
 have HR0 := Aside0.mk hr0
 have HC0 := Aside0.mk hc0
 clear hr0 hc0
 have HB := am (Below.refl w.heap.size w)
 unfold slices_Clone_2_int_2_int.f at h
 by_cases hl : l0.length < 8796093022208
 ·rw [if_pos hl] at h
  obtain rfl := Option.some.inj h; clear h; have LM := Aside0.mk hl; clear hl
  rcases A0 with _ | ad
  ·obtain rfl : l0 = [] := by
    rcases l0 with _ | ⟨x, l⟩
    ·rfl
    ·obtain ⟨ad, hh, _⟩ := HR0.out.2.2 (by simp)
     cases hh
   go_enter Try.func119, Try.ntmps119
   go_wp2
   go_ret
   exact ⟨_, by first | rfl | (simp; done), Kd.R_nil _ _ _ _ _, by repeat (first | exact HB.out | apply below_alloc | apply pw_below_drewN | apply below_drew1)⟩
  ·go_enter Try.func119, Try.ntmps119
   go_wp2_with (first | ((with_reducible refine gate_dst (N := 5) rfl ?_); refine Kd.R_lit k71 _ 71 ?hg (N := 5) ?hd (xs := ([] : List (S71))) (inner := []) (ok := fun _ => True) (okp := fun _ => True) ?hr ?hp (fun _ hk => hk) trivial (Below.refl _ _) (Nat.le_refl _) (by simp) ?_; (case hd => rfl); (case hg => rfl); (case hr => first | (go_simp; done) | (go_simp; rfl)); (case hp => exact (Reps.none _ _)); intro v142 w3 ho4 hb hg_ hnew_; clear hg_ hnew_; have HO143 := am (Kd.R_lower ho4 (below_size HB.out)); replace HB := am (below_step HB.out hb); obtain ⟨Ao5, co5, eo5⟩ := Kd.R_slice HO143.out; subst eo5) | ((with_reducible refine gate_builtin (b := .append) (xs := #[.tmp 5, .tmp 6]) rfl ?_); at_builtin; refine Kd.R_append_rows k71 (w0 := w) w.heap.size rfl (.tmp 5) (.tmp 6) 22 71 (.agg #[(.int .i64 0), (.int .i64 0)]) 16 rfl Try.underlying22 info71 rfl (by decide) (by omega) (.slice Ao5 ([] : List (S71)).length co5) ([] : List (S71)) l0 _ _ _ (fun _ => True) (fun _ => False) rfl rfl ?aO ?aR (fun _ _ h => h) (fun _ h => h.elim) (fun _ _ => trivial) ?aB ?aS ?aL ?_; (case aO => exact HO143.out); (case aR => exact (Kd.C_below HR0.out HB.out)); (case aB => exact HB.out); (case aS => exact (below_size HB.out)); (case aL => have := LM.out; simp only [List.length_nil]; omega); intro v146 w14 ho hb hg hat; simp only [List.nil_append] at ho; have HO147 := Aside0.mk ho; clear HB HO143; have HB := Aside0.mk hb; clear ho hb hg hat))
   go_ret
   exact ⟨_, by first | rfl | (simp; done), Q6 HO147, by repeat (first | exact HB.out | apply below_alloc | apply pw_below_drewN | apply below_drew1)⟩
 ·rw [if_neg hl] at h
  cases h
end Go.Proofs.Ytcjddikalgnhpaa.P
