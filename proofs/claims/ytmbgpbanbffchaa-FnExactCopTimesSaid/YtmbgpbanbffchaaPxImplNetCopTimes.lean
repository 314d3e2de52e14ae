/- Functions of the program as Lean functions, and that each call comes to what they say; written by a program of this session; no conditions beyond those that each theorem names. -/
import Derived.Test.YtmbgpbanbffchaaPx0
import Derived.Test.YtmbgpbanbffchaaPxNetA
import Derived.Test.YtmbgpbanbffchaaPxNetCan
import Derived.Test.YtmbgpbanbffchaaPxSlicesA
namespace Go.Proofs.Ytmbgpbanbffchaa.P
open Go.RowKit Go.Proofs.YtmbgpbanbffchaaW.PrintWords Go.Proofs.YtmbgpbanbffchaaW.PrintLast Go.Proofs.YtmbgpbanbffchaaW.PrintMore
attribute [local go_sem] max2_int min2_int max_two min_two max_three min_three max_four min_four   -- for this text's walks alone
set_option linter.unusedVariables false
set_option linter.unusedSimpArgs false

/-! ### impl_net_copTimes: function 83 -/
mutual
def impl_net_copTimes.l0 : Nat → Int → List (List Int) → Int → Int → List Int → Option ((List (List Int)))
 | 0, _, _, _, _, _ => none
 | k + 1, x3, x4, x18, x19, x102000 => if x19 < x18 then ((slices_Repeat_int_int.f (([(-1)] : List Int)) x3).bind fun t109 => (if 0 ≤ x19 then (if x19 < (x4.length : Int) then ((some (x4.set (x19 : Int).toNat t109 : List (List Int))).bind fun y112 => (if x19 < ((rd_L2 y112 x19).length : Int) then (impl_net_copTimes.l0 k x3 (y112.set (x19 : Int).toNat ((rd_L2 y112 x19).set (x19 : Int).toNat 0)) x18 (wrap64 (x19 + 1)) x102000) else (none))) else (none)) else (none))) else (impl_net_copTimes.l1 k x3 x4 1 true x102000)
def impl_net_copTimes.l1 : Nat → Int → List (List Int) → Int → Bool → List Int → Option ((List (List Int)))
 | 0, _, _, _, _, _ => none
 | k + 1, x3, x4, x6, x7, x102000 => if x7 = true then (impl_net_copTimes.l2 k x3 x4 x6 false ([] : List (S75)) x3 0 x102000) else (some x4)
def impl_net_copTimes.l2 : Nat → Int → List (List Int) → Int → Bool → List (S75) → Int → Int → List Int → Option ((List (List Int)))
 | 0, _, _, _, _, _, _, _, _ => none
 | k + 1, x3, x4, x6, x7, x8, x38, x39, x102000 => if x39 < x38 then (impl_net_copTimes.l3 k x3 x4 x6 x7 x8 x39 x38 x39 x3 0 x102000) else (impl_net_copTimes.l4 k x3 x4 x6 x7 x8 (x8.length : Int) 0 x102000)
def impl_net_copTimes.l3 : Nat → Int → List (List Int) → Int → Bool → List (S75) → Int → Int → Int → Int → Int → List Int → Option ((List (List Int)))
 | 0, _, _, _, _, _, _, _, _, _, _, _ => none
 | k + 1, x3, x4, x6, x7, x8, x9, x38, x39, x42, x43, x102000 => if x43 < x42 then (if 0 ≤ x9 then (if x9 < (x4.length : Int) then (if 0 ≤ x43 then (if x43 < ((rd_L2 x4 x9).length : Int) then (if (rd (rd_L2 x4 x9) x43) < 0 then ((impl_net_copCan.f k x102000 x4 x9 x43).bind fun t119 => (if t119 = true then (if x8.length < 8796093022208 then (impl_net_copTimes.l3 k x3 x4 x6 x7 (x8 ++ [(⟨x9, x43⟩ : S75)]) x9 x38 x39 x42 (wrap64 (x43 + 1)) x102000) else (none)) else (impl_net_copTimes.l3 k x3 x4 x6 x7 x8 x9 x38 x39 x42 (wrap64 (x43 + 1)) x102000))) else (impl_net_copTimes.l3 k x3 x4 x6 x7 x8 x9 x38 x39 x42 (wrap64 (x43 + 1)) x102000)) else (none)) else (none)) else (none)) else (none)) else (impl_net_copTimes.l2 k x3 x4 x6 x7 x8 x38 (wrap64 (x39 + 1)) x102000)
def impl_net_copTimes.l4 : Nat → Int → List (List Int) → Int → Bool → List (S75) → Int → Int → List Int → Option ((List (List Int)))
 | 0, _, _, _, _, _, _, _, _ => none
 | k + 1, x3, x4, x6, x7, x69, x70, x71, x102000 => if x71 < x70 then (if 0 ≤ x71 then (if x71 < (x69.length : Int) then (if 0 ≤ ((rd_T75 x69 x71).f0) then (if ((rd_T75 x69 x71).f0) < (x4.length : Int) then (if 0 ≤ ((rd_T75 x69 x71).f1) then (if ((rd_T75 x69 x71).f1) < ((rd_L2 x4 ((rd_T75 x69 x71).f0)).length : Int) then (impl_net_copTimes.l4 k x3 (x4.set (((rd_T75 x69 x71).f0) : Int).toNat ((rd_L2 x4 ((rd_T75 x69 x71).f0)).set (((rd_T75 x69 x71).f1) : Int).toNat x6)) x6 true x69 x70 (wrap64 (x71 + 1)) x102000) else (none)) else (none)) else (none)) else (none)) else (none)) else (none)) else (impl_net_copTimes.l1 k x3 x4 (wrap64 (x6 + 1)) x7 x102000)
end
def impl_net_copTimes.f (k : Nat) (l0_0 : List Int) : Option ((List (List Int))) := (impl_net_size.f l0_0).bind fun t102 => (if 0 ≤ t102 then (if (t102 : Int).toNat ≤ 11728124029610 then ((some (List.replicate (t102 : Int).toNat [] : List (List Int))).bind fun y103 => (impl_net_copTimes.l0 k t102 y103 (y103.length : Int) 0 l0_0)) else (none)) else (none))
theorem impl_net_copTimes.mono_l : ∀ k, (∀ y0 y1 y2 y3 y4, LeO (impl_net_copTimes.l0 k y0 y1 y2 y3 y4) (impl_net_copTimes.l0 (k + 1) y0 y1 y2 y3 y4)) ∧ (∀ y0 y1 y2 y3 y4, LeO (impl_net_copTimes.l1 k y0 y1 y2 y3 y4) (impl_net_copTimes.l1 (k + 1) y0 y1 y2 y3 y4)) ∧ (∀ y0 y1 y2 y3 y4 y5 y6 y7, LeO (impl_net_copTimes.l2 k y0 y1 y2 y3 y4 y5 y6 y7) (impl_net_copTimes.l2 (k + 1) y0 y1 y2 y3 y4 y5 y6 y7)) ∧ (∀ y0 y1 y2 y3 y4 y5 y6 y7 y8 y9 y10, LeO (impl_net_copTimes.l3 k y0 y1 y2 y3 y4 y5 y6 y7 y8 y9 y10) (impl_net_copTimes.l3 (k + 1) y0 y1 y2 y3 y4 y5 y6 y7 y8 y9 y10)) ∧ (∀ y0 y1 y2 y3 y4 y5 y6 y7, LeO (impl_net_copTimes.l4 k y0 y1 y2 y3 y4 y5 y6 y7) (impl_net_copTimes.l4 (k + 1) y0 y1 y2 y3 y4 y5 y6 y7))
 | 0 => ⟨fun _ _ _ _ _ r h => by simp [impl_net_copTimes.l0] at h, fun _ _ _ _ _ r h => by simp [impl_net_copTimes.l1] at h, fun _ _ _ _ _ _ _ _ r h => by simp [impl_net_copTimes.l2] at h, fun _ _ _ _ _ _ _ _ _ _ _ r h => by simp [impl_net_copTimes.l3] at h, fun _ _ _ _ _ _ _ _ r h => by simp [impl_net_copTimes.l4] at h⟩
 | k + 1 => by
  obtain ⟨ih0, ih1, ih2, ih3, ih4⟩ := impl_net_copTimes.mono_l k
  refine ⟨?_, ?_, ?_, ?_, ?_⟩
  all_goals
   intros
   first | unfold impl_net_copTimes.l0 | unfold impl_net_copTimes.l1 | unfold impl_net_copTimes.l2 | unfold impl_net_copTimes.l3 | unfold impl_net_copTimes.l4
   repeat' first | (with_reducible first | exact ih0 _ _ _ _ _ | exact ih1 _ _ _ _ _ | exact ih2 _ _ _ _ _ _ _ _ | exact ih3 _ _ _ _ _ _ _ _ _ _ _ | exact ih4 _ _ _ _ _ _ _ _ | exact impl_net_copCan.mono _ _ _ _ _ | exact LeO.refl _ | exact LeO.none _ | refine LeO.ite ?_ ?_ | refine LeO.bind ?_ (fun _ => ?_)) | exact ih0 _ _ _ _ _ | exact ih1 _ _ _ _ _ | exact ih2 _ _ _ _ _ _ _ _ | exact ih3 _ _ _ _ _ _ _ _ _ _ _ | exact ih4 _ _ _ _ _ _ _ _ | exact impl_net_copCan.mono _ _ _ _ _ | exact LeO.none _ | refine LeO.ite ?_ ?_ | refine LeO.bind ?_ (fun _ => ?_)
theorem impl_net_copTimes.mono : ∀ a0 k, LeO (impl_net_copTimes.f k a0) (impl_net_copTimes.f (k + 1) a0) := by
 intro a0 k
 obtain ⟨ih0, ih1, ih2, ih3, ih4⟩ := impl_net_copTimes.mono_l k
 unfold impl_net_copTimes.f
 repeat' first | (with_reducible first | exact ih0 _ _ _ _ _ | exact ih1 _ _ _ _ _ | exact ih2 _ _ _ _ _ _ _ _ | exact ih3 _ _ _ _ _ _ _ _ _ _ _ | exact ih4 _ _ _ _ _ _ _ _ | exact impl_net_copCan.mono _ _ _ _ _ | exact LeO.refl _ | exact LeO.none _ | refine LeO.ite ?_ ?_ | refine LeO.bind ?_ (fun _ => ?_)) | exact ih0 _ _ _ _ _ | exact ih1 _ _ _ _ _ | exact ih2 _ _ _ _ _ _ _ _ | exact ih3 _ _ _ _ _ _ _ _ _ _ _ | exact ih4 _ _ _ _ _ _ _ _ | exact impl_net_copCan.mono _ _ _ _ _ | exact LeO.none _ | refine LeO.ite ?_ ?_ | refine LeO.bind ?_ (fun _ => ?_)
def impl_net_copTimes.T27 : Bool × List (List Nat × List Nat) := (true, [([], []), ([], []), ([1], [1]), ([0, 2], [0, 2]), ([3], [3]), ([], []), ([5], [5]), ([], []), ([4, 6, 0, 1, 2, 3, 4, 5, 6, 7], [4, 6]), ([8, 7, 0, 1, 2, 3, 4, 5, 6, 7], [7, 8])])
def impl_net_copTimes.B27 : List Nat := [0, 0, 2, 7, 15, 0, 32, 0, 255, 511]
theorem impl_net_copTimes.tab27 : rtab .any (opsOf Try.f83 27) = impl_net_copTimes.T27 := by kernel_rfl
theorem impl_net_copTimes.bits27 : waitsOk impl_net_copTimes.T27.2 impl_net_copTimes.B27 = true := by kernel_rfl
set_option maxHeartbeats 8000000 in
set_option maxRecDepth 100000 in
theorem impl_net_copTimes.calls (k : Nat) (A0_0 : Option Addr) (c0_0 : Nat) (l0_0 : List Int) (r : List (List Int)) (w : World) (hr0_0 : Kd.C (Kd.int .i64) w A0_0 l0_0.length l0_0) (hc0_0 : l0_0.length ≤ c0_0) (h : impl_net_copTimes.f k l0_0 = some r) :
  Calls Try.prog 83 #[.agg #[.slice A0_0 l0_0.length c0_0]] w fun e w' => ∃ v0_ : Value, e = .returned (v0_) ∧ Kd.S (Kd.slice 3 (Kd.int .i64)) 26 w' w.heap.size (fun _ => True) v0_ r ∧ Below w.heap.size w w' := by
 have hu72 := Try.underlying72
 have hu75 := Try.underlying75
 have HR0_0 := Aside0.mk hr0_0
 have HC0_0 := Aside0.mk hc0_0
 clear hr0_0 hc0_0
 have HB := Aside0.mk (Below.refl w.heap.size w)
 have H : ((impl_net_size.f l0_0).bind fun t102 => (if 0 ≤ t102 then (if (t102 : Int).toNat ≤ 11728124029610 then ((some (List.replicate (t102 : Int).toNat [] : List (List Int))).bind fun y103 => (impl_net_copTimes.l0 k t102 y103 (y103.length : Int) 0 l0_0)) else (none)) else (none))) = some r := h
 clear h
 replace H := Option.bind_eq_some_iff.mp H
 obtain ⟨t102, A20, H⟩ := H
 replace H : (if 0 ≤ t102 then (if (t102 : Int).toNat ≤ 11728124029610 then ((some (List.replicate (t102 : Int).toNat [] : List (List Int))).bind fun y103 => (impl_net_copTimes.l0 k t102 y103 (y103.length : Int) 0 l0_0)) else (none)) else (none)) = some r := H
 have A2 := Aside0.mk A20
 clear A20
 by_cases c3 : 0 ≤ t102
 ·rw [if_pos c3] at H
  have c3b0 := eq_true c3
  have c3b1 : decide (0 ≤ t102) = true := decide_eq_true c3
  clear c3
  by_cases c4 : (t102 : Int).toNat ≤ 11728124029610
  ·rw [if_pos c4] at H
   have c4b0 := eq_true c4
   have c4b1 : decide ((t102 : Int).toNat ≤ 11728124029610) = true := decide_eq_true c4
   clear c4
   obtain ⟨y103, hy103⟩ : ∃ y_ : List (List Int), y_ = (List.replicate (t102 : Int).toNat []) := ⟨_, rfl⟩
   replace H : (impl_net_copTimes.l0 k t102 y103 (y103.length : Int) 0 l0_0) = some r := by first | (rw [hy103]; with_reducible exact H) | (have H2_ := (Option.bind_some _ _).symm.trans H; rw [hy103]; with_reducible exact H2_) | (have H2_ := (Option.bind_some _ _).symm.trans H; with_reducible exact H2_) | with_reducible exact H | (rw [hy103]; exact H) | exact H
   have Ny103 := Aside0.mk hy103
   clear hy103
   have H' := Aside0.mk H
   clear H
   go_enter Try.func83, Try.ntmps83
   go_wp2_with (first | ((with_reducible refine gate_dst (N := 1) rfl ?_); refine box_event ?hg (N := 1) ?hd (cs := #[.slice A0_0 l0_0.length c0_0]) (t := 72) ?hr ?_; (case hd => rfl); (case hg => rfl); (case hr => first | (go_simp; done) | (go_simp; rfl)); intro gb101 hg w5 hbox hb; have n0_ := Aside0.mk (below_step (by repeat (first | (with_reducible first | exact HB.out | apply below_alloc | apply pw_below_drewN | apply below_drew1) | exact HB.out)) hb); have n1_ := Aside0.mk (hbox); have n2_ := Aside0.mk ((by rw [hg]; exact (below_size (by repeat (first | (with_reducible first | exact HB.out | apply below_alloc | apply pw_below_drewN | apply below_drew1) | exact HB.out))) : w.heap.size ≤ gb101)); have n3_ := Aside0.mk ((by rw [hg]; exact (below_size (by repeat (first | (with_reducible first | exact HB.out | apply below_alloc | apply pw_below_drewN | apply below_drew1) | exact HB.out))) : w.heap.size ≤ gb101)); clear HB; have HB := n0_; have BK101 := n1_; have GW101 := n2_; have GE101 := n3_; clear n0_ n1_ n2_ n3_; clear hb hbox hg; have hcz6_0 : w5.cell? ⟨gb101, 0, none⟩ = some (.slice A0_0 l0_0.length c0_0) := (blk_cell BK101.out 0).trans rfl; have hfz6_0 := blk_frozen BK101.out 0) | ((with_reducible refine gate_callee (f := 134) rfl ?_); refine goesL_ (some 14) rfl rfl Try.func134 (by kernel_rfl) rfl #[.agg #[.slice A0_0 l0_0.length c0_0]] rfl (by (try simp only [List.map_toArray, List.map_cons, List.map_nil]); first | done | rfl | (simp only [List.length_drop, List.length_take]; rfl)) ?_; (with_reducible refine (impl_net_size.calls _ _ l0_0 t102 _ ?side1 ?side2 A2.out).mono ?_); (case side1 => repeat (first | exact (Kd.C_below HR0_0.out HB.out) | (with_reducible refine Kd.C_alloc ?_ _) | (with_reducible refine Kd.C_drewN ?_ _) | (with_reducible refine Kd.C_drew ?_))); (case side2 => exact HC0_0.out); rintro e w7 ⟨rfl, hb⟩; refine ⟨_, rfl, ?_⟩; have n0_ := Aside0.mk (blk_below (g := gb101) (o := .cells #[.slice A0_0 l0_0.length c0_0] 72 (0, 0)) (by (with_reducible repeat (first | refine blk_drewN ?_ _ | refine blk_drew ?_ | refine blk_alloc ?_ _)); exact BK101.out) hb); have n1_ := Aside0.mk (below_step (by repeat (first | (with_reducible first | exact HB.out | apply below_alloc | apply pw_below_drewN | apply below_drew1) | exact HB.out)) hb); clear BK101; clear HB; have BK101 := n0_; have HB := n1_; clear n0_ n1_; (try clear hb); (try clear hb2); (try clear hk); (try clear hi)) | ((with_reducible refine gate_dst (N := 16) rfl ?_); refine Kd.S_make (Kd.slice 3 (Kd.int .i64)) _ 26 rfl (N := 16) rfl 45 _ _ rfl t102 rfl rfl Try.underlying45 (.slice none 0 0) 24 info26 rfl (by decide) (by omega) [] (ok := fun _ => True) (okp := fun _ => True) ⟨_, rfl, Kd.R_nil _ _ _ _ _⟩ (fun _ hk => hk) trivial (of_decide_eq_true (by first | (with_reducible assumption) | assumption)) (Nat.le_trans (Nat.mul_le_mul_right _ (of_decide_eq_true (by first | (with_reducible assumption) | assumption) : t102.toNat ≤ 11728124029610)) (by omega)) (Below.refl _ _) (Nat.le_refl _) ?_; intro v104 w8 ho9 hb hg_ hnew_; clear hg_ hnew_; (first | rw [← Ny103.out] at ho9 | (simp only [Int.reduceToNat] at ho9; rw [← Ny103.out] at ho9)); have n0_ := Aside0.mk (Kd.S_lower ho9 (below_size (by repeat (first | (with_reducible first | exact HB.out | apply below_alloc | apply pw_below_drewN | apply below_drew1) | exact HB.out)))); have n1_ := Aside0.mk (blk_below (g := gb101) (o := .cells #[.slice A0_0 l0_0.length c0_0] 72 (0, 0)) (by (with_reducible repeat (first | refine blk_drewN ?_ _ | refine blk_drew ?_ | refine blk_alloc ?_ _)); exact BK101.out) hb); have n2_ := Aside0.mk (below_step (by repeat (first | (with_reducible first | exact HB.out | apply below_alloc | apply pw_below_drewN | apply below_drew1) | exact HB.out)) hb); clear BK101; clear HB; have HO105 := n0_; have BK101 := n1_; have HB := n2_; clear n0_ n1_ n2_; clear hb ho9; obtain ⟨Ao10, co10, eo10⟩ := Kd.S_slice HO105.out; subst eo10))
   go_loopg [19] k (fun kq v19 w' => ∃ (x4_1 : List (List Int)) (x19_1 : Int), v19 = .int .i64 x19_1 ∧ Aside0 (impl_net_copTimes.l0 kq t102 x4_1 (y103.length : Int) x19_1 l0_0 = some r) ∧ Aside0 (kq ≤ k) ∧ Aside0 (Kd.S (Kd.slice 3 (Kd.int .i64)) 26 w' w.heap.size (fun _ => True) (.slice Ao10 y103.length co10) x4_1) ∧ Aside0 (w'.heap[gb101]? = some (.cells #[(.slice A0_0 l0_0.length c0_0)] 72 (0, 0))) ∧ Aside0 (Below w.heap.size w w'))
   case atStart => exact ⟨(y103), (0), (by first | rfl | (simp; done) | (simp [*]; done)), H', ⟨Nat.le_refl _⟩, ⟨by (with_reducible repeat (first | apply Kd.S_alloc | apply Kd.S_drewN | apply Kd.S_drew)); exact HO105.out⟩, ⟨by (with_reducible repeat (first | refine blk_drewN ?_ _ | refine blk_drew ?_ | refine blk_alloc ?_ _)); exact BK101.out⟩, ⟨by repeat (first | (with_reducible first | exact HB.out | apply below_alloc | apply pw_below_drewN | apply below_drew1) | exact HB.out)⟩⟩
   case round =>
    clear H'
    try clear c1
    try clear p2
    try clear c3
    try clear c3b0
    try clear c3b1
    try clear c4
    try clear c4b0
    try clear c4b1
    try clear c8
    try clear hcz6_0
    try clear hfz6_0
    obtain ⟨x4_1, x19_1, rfl, HA, HK1, HO_4, BK101, HB⟩ := hrel
    have hl4_1 := (Kd.S_reads' HO_4.out).1
    rw [hl4_1] at HO_4
    (try simp only [hl4_1])
    (try simp only [hl4_1] at BK101)
    cases gk with
    | zero => exact absurd HA.out (by simp [impl_net_copTimes.l0])
    | succ k1 =>
     have H := HA.out
     clear HA
     simp only [impl_net_copTimes.l0] at H
     by_cases c11 : x19_1 < (y103.length : Int)
     ·rw [if_pos c11] at H
      have c11b0 : decide (x19_1 < (y103.length : Int)) = true := decide_eq_true c11
      clear c11
      obtain ⟨y106, hy106⟩ : ∃ y_ : List Int, y_ = (([(-1)] : List Int)) := ⟨_, rfl⟩
      replace H : ((slices_Repeat_int_int.f y106 t102).bind fun t109 => (if 0 ≤ x19_1 then (if x19_1 < (x4_1.length : Int) then ((some (x4_1.set (x19_1 : Int).toNat t109 : List (List Int))).bind fun y112 => (if x19_1 < ((rd_L2 y112 x19_1).length : Int) then (impl_net_copTimes.l0 k1 t102 (y112.set (x19_1 : Int).toNat ((rd_L2 y112 x19_1).set (x19_1 : Int).toNat 0)) (y103.length : Int) (wrap64 (x19_1 + 1)) l0_0) else (none))) else (none)) else (none))) = some r := by first | (rw [hy106]; with_reducible exact H) | (have H2_ := (Option.bind_some _ _).symm.trans H; rw [hy106]; with_reducible exact H2_) | (have H2_ := (Option.bind_some _ _).symm.trans H; with_reducible exact H2_) | with_reducible exact H | (rw [hy106]; exact H) | exact H
      have Ny106 := Aside0.mk hy106
      clear hy106
      replace H := Option.bind_eq_some_iff.mp H
      obtain ⟨t109, A120, H⟩ := H
      replace H : (if 0 ≤ x19_1 then (if x19_1 < (x4_1.length : Int) then ((some (x4_1.set (x19_1 : Int).toNat t109 : List (List Int))).bind fun y112 => (if x19_1 < ((rd_L2 y112 x19_1).length : Int) then (impl_net_copTimes.l0 k1 t102 (y112.set (x19_1 : Int).toNat ((rd_L2 y112 x19_1).set (x19_1 : Int).toNat 0)) (y103.length : Int) (wrap64 (x19_1 + 1)) l0_0) else (none))) else (none)) else (none)) = some r := H
      have A12 := Aside0.mk A120
      clear A120
      by_cases c13 : 0 ≤ x19_1
      ·rw [if_pos c13] at H
       have c13b0 : decide (0 ≤ x19_1) = true := decide_eq_true c13
       clear c13
       by_cases c14 : x19_1 < (x4_1.length : Int)
       ·rw [if_pos c14] at H
        have c14b0 : decide (x19_1 < (x4_1.length : Int)) = true := decide_eq_true c14
        clear c14
        obtain ⟨y112, hy112⟩ : ∃ y_ : List (List Int), y_ = (x4_1.set (x19_1 : Int).toNat t109) := ⟨_, rfl⟩
        replace H : (if x19_1 < ((rd_L2 y112 x19_1).length : Int) then (impl_net_copTimes.l0 k1 t102 (y112.set (x19_1 : Int).toNat ((rd_L2 y112 x19_1).set (x19_1 : Int).toNat 0)) (y103.length : Int) (wrap64 (x19_1 + 1)) l0_0) else (none)) = some r := by first | (rw [hy112]; with_reducible exact H) | (have H2_ := (Option.bind_some _ _).symm.trans H; rw [hy112]; with_reducible exact H2_) | (have H2_ := (Option.bind_some _ _).symm.trans H; with_reducible exact H2_) | with_reducible exact H | (rw [hy112]; exact H) | exact H
        have Ny112 := Aside0.mk hy112
        clear hy112
        by_cases c16 : x19_1 < ((rd_L2 y112 x19_1).length : Int)
        ·rw [if_pos c16] at H
         have c16b0 : decide (x19_1 < ((rd_L2 y112 x19_1).length : Int)) = true := decide_eq_true c16
         clear c16
         obtain ⟨y114, hy114⟩ : ∃ y_ : List Int, y_ = ((rd_L2 y112 x19_1).set (x19_1 : Int).toNat 0) := ⟨_, rfl⟩
         replace H : (impl_net_copTimes.l0 k1 t102 (y112.set (x19_1 : Int).toNat y114) (y103.length : Int) (wrap64 (x19_1 + 1)) l0_0) = some r := by first | (rw [hy114]; with_reducible exact H) | (have H2_ := (Option.bind_some _ _).symm.trans H; rw [hy114]; with_reducible exact H2_) | (have H2_ := (Option.bind_some _ _).symm.trans H; with_reducible exact H2_) | with_reducible exact H | (rw [hy114]; exact H) | exact H
         have Ny114 := Aside0.mk hy114
         clear hy114
         obtain ⟨y116, hy116⟩ : ∃ y_ : List (List Int), y_ = (y112.set (x19_1 : Int).toNat y114) := ⟨_, rfl⟩
         replace H : (impl_net_copTimes.l0 k1 t102 y116 (y103.length : Int) (wrap64 (x19_1 + 1)) l0_0) = some r := by first | (rw [hy116]; with_reducible exact H) | (have H2_ := (Option.bind_some _ _).symm.trans H; rw [hy116]; with_reducible exact H2_) | (have H2_ := (Option.bind_some _ _).symm.trans H; with_reducible exact H2_) | with_reducible exact H | (rw [hy116]; exact H) | exact H
         have Ny116 := Aside0.mk hy116
         clear hy116
         have H' := Aside0.mk H
         clear H
         go_wp2_with (first | ((with_reducible refine gate_dst (N := 24) rfl ?_); refine Kd.R_lit (Kd.int .i64) _ 3 ?hg (N := 24) ?hd (xs := ([(-1)] : List Int)) (inner := [.int .i64 (-1)]) (ok := fun _ => True) (okp := fun _ => True) ?hr ?hp (fun _ hk => hk) trivial (Below.refl _ _) (Nat.le_refl _) (by simp) ?_; (case hd => rfl); (case hg => rfl); (case hr => first | (go_simp; done) | (go_simp; rfl)); (case hp => exact (Reps.one (show Kd.M (Kd.int .i64) _ _ _ (-1) [.int .i64 (-1)] from rfl) (Reps.none _ _))); intro v107 w18 ho19 hb hg_ hnew_; clear hg_ hnew_; (first | rw [← Ny106.out] at ho19 | (simp only [Int.reduceToNat] at ho19; rw [← Ny106.out] at ho19)); have n0_ := Aside0.mk (Kd.S_elder' (by (with_reducible repeat (first | apply Kd.S_alloc | apply Kd.S_drewN | apply Kd.S_drew)); exact HO_4.out) (Kd.R_base ho19) hb); have n1_ := Aside0.mk (Kd.R_lower ho19 (below_size (by repeat (first | (with_reducible first | exact HB.out | apply below_alloc | apply pw_below_drewN | apply below_drew1) | exact HB.out)))); have n2_ := Aside0.mk (blk_below (g := gb101) (o := .cells #[.slice A0_0 l0_0.length c0_0] 72 (0, 0)) (by (with_reducible repeat (first | refine blk_drewN ?_ _ | refine blk_drew ?_ | refine blk_alloc ?_ _)); exact BK101.out) hb); have n3_ := Aside0.mk (below_step (by repeat (first | (with_reducible first | exact HB.out | apply below_alloc | apply pw_below_drewN | apply below_drew1) | exact HB.out)) hb); clear HO_4; clear BK101; clear HB; have HO_4 := n0_; have HO108 := n1_; have BK101 := n2_; have HB := n3_; clear n0_ n1_ n2_ n3_; clear hb ho19; obtain ⟨Ao20, co20, eo20⟩ := Kd.R_slice HO108.out; subst eo20) | ((with_reducible refine gate_callee (f := 135) rfl ?_); refine goesL_ (some 26) rfl rfl Try.func135 (by kernel_rfl) rfl #[.slice Ao20 y106.length co20, .int .i64 t102] rfl (by (try simp only [List.map_toArray, List.map_cons, List.map_nil]); first | done | rfl | (simp only [List.length_drop, List.length_take]; rfl)) ?_; (with_reducible refine (slices_Repeat_int_int.calls _ _ y106 t102 t109 _ ?side1 ?side2 A12.out).mono ?_); (case side1 => repeat (first | exact (Kd.R_reads' HO108.out).2.2 | (with_reducible refine Kd.C_alloc ?_ _) | (with_reducible refine Kd.C_drewN ?_ _) | (with_reducible refine Kd.C_drew ?_))); (case side2 => exact (Kd.R_reads' HO108.out).2.1); rintro e w21 ⟨v110, rfl, ho0, hb⟩; refine ⟨_, rfl, ?_⟩; have n0_ := Aside0.mk (Kd.S_elder' (by (with_reducible repeat (first | apply Kd.S_alloc | apply Kd.S_drewN | apply Kd.S_drew)); exact HO_4.out) (Kd.R_base ho0) hb); have n1_ := Aside0.mk (Kd.R_elder' (by (with_reducible repeat (first | apply Kd.R_alloc | apply Kd.R_drewN | apply Kd.R_drew)); exact HO108.out) (Kd.R_base ho0) hb); have n2_ := Aside0.mk (Kd.R_lower (Kd.R_new' ho0 (Kd.R_lt (by (with_reducible repeat (first | apply Kd.R_alloc | apply Kd.R_drewN | apply Kd.R_drew)); exact HO108.out))) (below_size (by repeat (first | (with_reducible first | exact HB.out | apply below_alloc | apply pw_below_drewN | apply below_drew1) | exact HB.out)))); have n3_ := Aside0.mk (blk_below (g := gb101) (o := .cells #[.slice A0_0 l0_0.length c0_0] 72 (0, 0)) (by (with_reducible repeat (first | refine blk_drewN ?_ _ | refine blk_drew ?_ | refine blk_alloc ?_ _)); exact BK101.out) hb); have n4_ := Aside0.mk (below_step (by repeat (first | (with_reducible first | exact HB.out | apply below_alloc | apply pw_below_drewN | apply below_drew1) | exact HB.out)) hb); clear HO_4; clear HO108; clear BK101; clear HB; have HO_4 := n0_; have HO108 := n1_; have HO111 := n2_; have BK101 := n3_; have HB := n4_; clear n0_ n1_ n2_ n3_ n4_; obtain ⟨Ao111, co111, eo111⟩ := Kd.R_slice HO111.out; subst eo111; (try clear hb); (try clear hb2); (try clear hk); (try clear hi); (try clear ho0); have p15 : 0 ≤ (x19_1 : Int) := of_decide_eq_true (by first | (with_reducible assumption) | assumption); have q15 : (x19_1 : Int) < ((x4_1.length : Int) : Int) := of_decide_eq_true (by first | (with_reducible assumption) | assumption); obtain ⟨go15, co15, eo15, gb15, gl15, cl15, HG15⟩ := Kd.S_form HO_4.out (by omega); (first | cases eo15 | (injection eo15 with ea_ en_ ec_; (first | subst ea_ | (injection ea_ with ea_; subst ea_)); subst ec_; clear en_)); have GB15 := Aside0.mk gb15; have GG15 := Aside0.mk HG15; clear gb15 gl15 HG15; obtain ⟨_, ce15, hcl15, hM15, hcc15, hfr15, _, _⟩ := Kd.S_elem HO_4.out [] (x19_1 : Int) p15 q15; obtain ⟨ve15_0, rfl, ge15_0⟩ := hM15; have hx15_0 := hcc15 0 _ rfl; have hf15_0 := hfr15 0; (try simp only [show ((Kd.slice 3 (Kd.int .i64))).sz = 1 from rfl, Nat.mul_one, Nat.add_zero] at hx15_0); (try simp only [show ((Kd.slice 3 (Kd.int .i64))).sz = 1 from rfl, Nat.mul_one, Nat.add_zero] at hf15_0); clear hcl15 hcc15 hfr15; (try clear hM15); replace p15 := eq_true p15; replace q15 := eq_true q15; have n_ := Aside0.mk (Kd.S_mono (ok' := (fun k_ => some k_ ≠ (.slice Ao20 y106.length co20 : Value).ownBlock ∧ some k_ ≠ ((.slice Ao111 t109.length co111) : Value).ownBlock)) HO_4.out (fun k_ hk => ⟨hk.1.2, hk.2⟩)); clear HO_4; have HO_4 := n_; clear n_; have HX22 := Aside0.mk (show Kd.S (Kd.slice 3 (Kd.int .i64)) 26 w21 w.heap.size (fun k_ => ((fun k_ => some k_ ≠ (.slice Ao20 y106.length co20 : Value).ownBlock)) k_ ∧ ¬ ((fun k_ => some k_ = ((.slice Ao111 t109.length co111) : Value).ownBlock)) k_) (.slice (some ⟨go15, 0, none⟩) x4_1.length co10) x4_1 from (by (with_reducible repeat (first | apply Kd.S_alloc | apply Kd.S_drewN | apply Kd.S_drew)); exact Kd.S_mono HO_4.out (fun k_ hk => ⟨hk.1, fun e_ => hk.2 e_⟩))); obtain ⟨oki22, ce22, hcl22, hM22, hcc22, hfr22, hoki22, hH22⟩ := Kd.S_elem HX22.out [] (x19_1 : Int) (of_decide_eq_true (by first | (with_reducible assumption) | assumption)) (by have h_ : (x19_1 : Int) < ((x4_1.length : Int) : Int) := of_decide_eq_true (by first | (with_reducible assumption) | assumption); first | exact h_ | (have e_ := (Kd.S_reads' HO_4.out).1; omega) | simpa using h_); obtain ⟨ve22_0, rfl, ge22_0⟩ := hM22; have HP22 := Kd.S_seg hH22 (of_decide_eq_true (by first | (with_reducible assumption) | assumption)) (by have h_ : (x19_1 : Int) < ((x4_1.length : Int) : Int) := of_decide_eq_true (by first | (with_reducible assumption) | assumption); first | exact h_ | (have e_ := (Kd.S_reads' HO_4.out).1; omega) | simpa using h_) (seg := [(.slice Ao111 t109.length co111)]) (j := 0) (show 1 ≤ 1 from by decide) (x' := t109) (Kd.M_row (Kd.R_mono (Kd.R_tight rfl (Kd.R_mono (ok' := fun k_ => ((fun k_ => some k_ ≠ (.slice Ao20 y106.length co20 : Value).ownBlock)) k_ ∧ k_ ≠ go15) (Kd.R_apart' (HO111.out) (Kd.S_typed HO_4.out) (by decide)) (fun k_ hk => ⟨hk.1.2, fun e_ => (hk.2) (by rw [e_]; rfl)⟩))) (fun _ h_ => Or.inr (h_)))) (fun _ hk => hk) (fun k_ hk_ => ((Kd.R_mono (ok' := fun k_ => ((fun k_ => some k_ ≠ (.slice Ao20 y106.length co20 : Value).ownBlock)) k_ ∧ k_ ≠ go15) (Kd.R_apart' (HO111.out) (Kd.S_typed HO_4.out) (by decide)) (fun k_ hk => ⟨hk.1.2, fun e_ => (hk.2) (by rw [e_]; rfl)⟩))).1 k_ hk_.symm); have hx22_0 := hcc22 0 _ rfl; (try simp only [show ((Kd.slice 3 (Kd.int .i64))).sz = 1 from rfl, Nat.mul_one, Nat.add_zero] at hx22_0); have hf22_0 := hfr22 0; (try simp only [show ((Kd.slice 3 (Kd.int .i64))).sz = 1 from rfl, Nat.mul_one, Nat.add_zero] at hf22_0); clear hcl22 hcc22 hfr22 hoki22 hH22; (try clear hM22); (try simp only [show ((Kd.slice 3 (Kd.int .i64))).sz = 1 from rfl, Nat.mul_one, Nat.add_zero] at HP22)) | ((with_reducible refine gate_store (t := 26) (p := 27) rfl ?_); refine store_event (t := 26) (p := 27) (v := ?vo_w23) (w1 := (w21.setCell ⟨go15, (x19_1 : Int).toNat, none⟩ ((.slice Ao111 t109.length co111)))) ?hg ?ho ?hn ?hr ?_; (case ho => rfl); (case hg => rfl); (case hn => rfl); (case hr => first | (go_simp; done) | (go_simp; rfl)); intro w23 hw; have hg : w21.grownBy w23 (some go15) := (by rw [hw]; exact HP22.2); have hp_ : Kd.S (Kd.slice 3 (Kd.int .i64)) 26 w23 w.heap.size (fun k_ => some k_ ≠ (.slice Ao20 y106.length co20 : Value).ownBlock) (.slice (some ⟨go15, 0, none⟩) x4_1.length co10) y112 := (by rw [hw, Ny112.out]; exact HP22.1); clear HP22; have n0_ := Aside0.mk (hp_); have n1_ := Aside0.mk (blk_grown (g := gb101) (o := .cells #[.slice A0_0 l0_0.length c0_0] 72 (0, 0)) (by (with_reducible repeat (first | refine blk_drewN ?_ _ | refine blk_drew ?_ | refine blk_alloc ?_ _)); exact BK101.out) hg (Kd.S_ne HO_4.out BK101.out (by decide))); have n2_ := Aside0.mk (Kd.R_over' (v := (.slice (some ⟨go15, 0, none⟩) x4_1.length co10)) (by (with_reducible repeat (first | apply Kd.R_alloc | apply Kd.R_drewN | apply Kd.R_drew)); exact HO108.out) (Kd.S_typed HO_4.out) (by decide) hg); have n3_ := Aside0.mk ((by rw [hw]; exact below_set (HB.out) GB15.out : Below w.heap.size w w23)); clear HO_4; clear BK101; clear HO108; clear HB; clear HO111; have HO_4 := n0_; have BK101 := n1_; have HO108 := n2_; have HB := n3_; clear n0_ n1_ n2_ n3_; clear hg hw hp_; have p113 : 0 ≤ (x19_1 : Int) := of_decide_eq_true (by first | (with_reducible assumption) | assumption); have q113 : x19_1 < (y112.length : Int) := (by have h_ : (x19_1 : Int) < ((x4_1.length : Int) : Int) := of_decide_eq_true (by first | (with_reducible assumption) | assumption); first | (have e_ := (Kd.S_reads' HO_4.out).1; omega) | simpa only [Ny112.out, List.length_set] using h_); have ql113 : ((x19_1 : Int) < ((x4_1.length : Int) : Int)) = True := eq_true (of_decide_eq_true (by first | (with_reducible assumption) | assumption)); obtain ⟨ad113, A113_0, c113_0, e113, hx113_0, hl113_0, hi113_0⟩ := at_L2 (Kd.S_reads' HO_4.out).2.2 x19_1 p113 q113; obtain rfl : (⟨go15, 0, none⟩ : Addr) = ad113 := (by injection e113); obtain ⟨ce113, hce113, hMe113, hcc113⟩ := Kd.S_get HO_4.out [] x19_1 p113 (by first | exact q113 | exact of_decide_eq_true (by first | (with_reducible assumption) | assumption) | (have e_ := (Kd.S_reads' HO_4.out).1; omega)); obtain ⟨ve113_0, rfl, ge113_0⟩ := hMe113; have hv113_0 := hcc113 0 _ rfl; rw [Nat.add_zero, show ((Kd.slice 3 (Kd.int .i64))).sz = 1 from rfl, Nat.mul_one] at hv113_0; replace hv113_0 := Option.some.inj (hv113_0.symm.trans hx113_0); rw [hv113_0] at ge113_0; have HL113_0 := Aside0.mk (show Kd.R (Kd.int .i64) 3 _ _ _ _ (rd_L2 y112 x19_1) from ge113_0); clear hv113_0 ge113_0; have HX113_0 := Aside0.mk hx113_0; clear hcc113 hce113; (first | simp only [add_plain] at hx113_0 | simp only [add_at] at hx113_0 | simp only [Addr.add, Nat.zero_add] at hx113_0 | skip); have HR113_0 := Aside0.mk hi113_0; have HC113_0 := Aside0.mk hl113_0; clear hi113_0 hl113_0; replace p113 := eq_true p113; replace q113 := eq_true q113; have p17 : 0 ≤ (x19_1 : Int) := of_decide_eq_true (by first | (with_reducible assumption) | assumption); have q17 : (x19_1 : Int) < (((rd_L2 y112 x19_1).length : Int) : Int) := of_decide_eq_true (by first | (with_reducible assumption) | assumption); obtain ⟨go17, co17, eo17, gb17, gl17, cl17, HG17⟩ := Kd.R_form HL113_0.out (by omega); (first | cases eo17 | (injection eo17 with ea_ en_ ec_; (first | subst ea_ | (injection ea_ with ea_; subst ea_)); subst ec_; clear en_)); have GB17 := Aside0.mk gb17; have GG17 := Aside0.mk HG17; clear gb17 gl17 HG17; obtain ⟨hx17_0, hf17_0⟩ := Kd.R_celln 0 HL113_0.out (x19_1 : Int) p17 q17; replace p17 := eq_true p17; replace q17 := eq_true q17; have hq24 : (x19_1 : Int) < (y112.length : Int) := (by have h_ : (x19_1 : Int) < ((x4_1.length : Int) : Int) := of_decide_eq_true (by first | (with_reducible assumption) | assumption); first | exact h_ | (have e_ := (Kd.S_reads' HO_4.out).1; omega) | simpa only [Ny112.out, List.length_set] using h_); obtain ⟨oki24, ce24, hcl24, hM24, hcc24, hok24, hbk24⟩ := Kd.S_borrow HO_4.out [] (x19_1 : Int) (of_decide_eq_true (by first | (with_reducible assumption) | assumption)) (by have e_ := (Kd.S_reads' HO_4.out).1; omega); obtain ⟨ve24_0, rfl, ge24_0⟩ := hM24; have hv24 := hcc24 0 _ rfl; rw [Nat.add_zero, show ((Kd.slice 3 (Kd.int .i64))).sz = 1 from rfl, Nat.mul_one] at hv24; replace hv24 := Option.some.inj (hv24.symm.trans HX113_0.out); subst hv24; clear hcc24 hcl24; replace ge24_0 := (show Kd.R (Kd.int .i64) 3 _ _ _ _ (rd_L2 y112 x19_1) from ge24_0); have HP24 := Kd.R_putg ge24_0 (x19_1 : Int) 0) | ((with_reducible refine gate_store (t := 3) (p := 33) rfl ?_); refine store_event (t := 3) (p := 33) (v := ?vo_w25) (w1 := (w23.setCell ⟨go17, (x19_1 : Int).toNat, none⟩ (.int .i64 0))) ?hg ?ho ?hn ?hr ?_; (case ho => rfl); (case hg => rfl); (case hn => rfl); (case hr => first | (go_simp; done) | (go_simp; rfl)); intro w25 hw; have hg : w23.grownBy w25 (some go17) := (by rw [hw]; exact HP24.2); have hz_ : Kd.R (Kd.int .i64) 3 w25 w.heap.size oki24 (.slice (some ⟨go17, 0, none⟩) (rd_L2 y112 x19_1).length c113_0) y114 := (by rw [hw, Ny114.out]; exact HP24.1); have hp_ : Kd.S (Kd.slice 3 (Kd.int .i64)) 26 w25 w.heap.size (fun k_ => some k_ ≠ (.slice Ao20 y106.length co20 : Value).ownBlock) (.slice (some ⟨go15, 0, none⟩) x4_1.length co10) y116 := (by rw [Ny116.out]; exact hbk24 hg (fun k_ e_ => by injection e_ with e_; subst e_; exact ge24_0.1 _ rfl) (Kd.M_row hz_)); have hm_ := Kd.R_mono hz_ hok24; clear HP24 hbk24; have n0_ := Aside0.mk (hp_); have n1_ := Aside0.mk (blk_grown (g := gb101) (o := .cells #[.slice A0_0 l0_0.length c0_0] 72 (0, 0)) (by (with_reducible repeat (first | refine blk_drewN ?_ _ | refine blk_drew ?_ | refine blk_alloc ?_ _)); exact BK101.out) hg (Kd.R_ne HL113_0.out BK101.out (by decide))); have n2_ := Aside0.mk (Kd.R_grown1 (by (with_reducible repeat (first | apply Kd.R_alloc | apply Kd.R_drewN | apply Kd.R_drew)); exact HO108.out) rfl hg ((HL113_0.out.1 _ rfl).1)); have n3_ := Aside0.mk ((by rw [hw]; exact below_set (HB.out) GB17.out : Below w.heap.size w w25)); have n4_ := Aside0.mk (hm_); have n5_ := Aside0.mk ((Kd.R_reads' hm_).2.1); clear HO_4; clear BK101; clear HO108; clear HB; clear HL113_0; have HO_4 := n0_; have BK101 := n1_; have HO108 := n2_; have HB := n3_; have HL129 := n4_; have HC115 := n5_; clear n0_ n1_ n2_ n3_ n4_ n5_; clear hg hw hp_ hz_ hm_ hok24))
         (try simp only [← hl4_1])
         go_roundg k1
         case measure => have := HK1.out; omega
         case rel => exact ⟨(y116), (wrap64 (x19_1 + 1)), (by first | rfl | (simp; done) | (simp [*]; done)), H', ⟨by have := HK1.out; omega⟩, ⟨by (try simp only [hl4_1]); (with_reducible repeat (first | apply Kd.S_alloc | apply Kd.S_drewN | apply Kd.S_drew)); exact Kd.S_mono HO_4.out (fun _ hk => trivial)⟩, ⟨by (try simp only [hl4_1]); (with_reducible repeat (first | refine blk_drewN ?_ _ | refine blk_drew ?_ | refine blk_alloc ?_ _)); exact BK101.out⟩, ⟨by repeat (first | (with_reducible first | exact HB.out | apply below_alloc | apply pw_below_drewN | apply below_drew1) | exact HB.out)⟩⟩
        ·rw [if_neg c16] at H
         exact absurd H (by simp)
       ·rw [if_neg c14] at H
        exact absurd H (by simp)
      ·rw [if_neg c13] at H
       exact absurd H (by simp)
     ·rw [if_neg c11] at H
      have c11b0 : decide (x19_1 < (y103.length : Int)) = false := decide_eq_false c11
      have c11x : decide (x19_1 < (x4_1.length : Int)) = false := by rw [← hl4_1]; exact c11b0
      clear c11
      have H' := Aside0.mk H
      clear H
      go_wp2
      go_loopg [6, 7] k1 (fun kq v6 v7 w' => ∃ (x4_2 : List (List Int)) (x6_2 : Int) (x7_2 : Bool), v6 = .int .i64 x6_2 ∧ v7 = .bool x7_2 ∧ Aside0 (impl_net_copTimes.l1 kq t102 x4_2 x6_2 x7_2 l0_0 = some r) ∧ Aside0 (kq ≤ k1) ∧ Aside0 (Kd.S (Kd.slice 3 (Kd.int .i64)) 26 w' w.heap.size (fun _ => True) (.slice Ao10 x4_1.length co10) x4_2) ∧ Aside0 (w'.heap[gb101]? = some (.cells #[(.slice A0_0 l0_0.length c0_0)] 72 (0, 0))) ∧ Aside0 (Below w.heap.size w w'))
      case atStart => exact ⟨(x4_1), (1), (true), (by first | rfl | (simp; done) | (simp [*]; done)), (by first | rfl | (simp; done) | (simp [*]; done)), H', ⟨Nat.le_refl _⟩, ⟨by (try simp only [hl4_1]); (with_reducible repeat (first | apply Kd.S_alloc | apply Kd.S_drewN | apply Kd.S_drew)); exact HO_4.out⟩, ⟨by (try simp only [hl4_1]); (with_reducible repeat (first | refine blk_drewN ?_ _ | refine blk_drew ?_ | refine blk_alloc ?_ _)); exact BK101.out⟩, ⟨by repeat (first | (with_reducible first | exact HB.out | apply below_alloc | apply pw_below_drewN | apply below_drew1) | exact HB.out)⟩⟩
      case round =>
       clear H'
       try clear c1
       try clear p1
       try clear q1
       try clear hx1
       try clear hf1
       try clear c2
       try clear p2
       try clear q2
       try clear hx2
       try clear hf2
       try clear c3
       try clear c3b0
       try clear c3b1
       try clear c4
       try clear c4b0
       try clear c4b1
       try clear p6
       try clear c8
       try clear c11
       try clear c11b0
       try clear p11
       try clear q11
       try clear hx11
       try clear c13
       try clear c13b0
       try clear c14
       try clear c14b0
       try clear c15
       try clear p15
       try clear q15
       try clear hx15
       try clear hf15
       try clear c16
       try clear c16b0
       try clear p17
       try clear q17
       try clear hx17
       try clear hf17
       try clear c22
       try clear hx22
       try clear hf22
       try clear c24
       try clear q24
       try clear hcz6_0
       try clear hfz6_0
       try clear hx113_0
       try clear hx15_0
       try clear hx17_0
       try clear hx22_0
       try clear p113
       try clear p15
       try clear p17
       try clear p2
       try clear q113
       try clear q15
       try clear q17
       obtain ⟨x4_2, x6_2, x7_2, rfl, rfl, HA, HK2, HO_4, BK101, HB⟩ := hrel
       have hl4_2 := (Kd.S_reads' HO_4.out).1
       rw [hl4_2] at HO_4
       (try simp only [hl4_2])
       (try simp only [hl4_2] at BK101)
       cases gk with
       | zero => exact absurd HA.out (by simp [impl_net_copTimes.l1])
       | succ k2 =>
        have H := HA.out
        clear HA
        simp only [impl_net_copTimes.l1] at H
        by_cases c26 : x7_2 = true
        ·subst c26
         have H1 : (impl_net_copTimes.l2 k2 t102 x4_2 x6_2 false ([] : List (S75)) t102 0 l0_0) = some r := by rw [if_pos rfl] at H; exact H
         clear H
         have H := H1
         clear H1
         have H' := Aside0.mk H
         clear H
         go_wp2
         go_loopg [8, 39] k2 (fun kq v8 v39 w' => ∃ (x8_3 : List (S75)) (x39_3 : Int), v39 = .int .i64 x39_3 ∧ Aside0 (impl_net_copTimes.l2 kq t102 x4_2 x6_2 false x8_3 t102 x39_3 l0_0 = some r) ∧ Aside0 (kq ≤ k2) ∧ Aside0 (Kd.S (Kd.slice 3 (Kd.int .i64)) 26 w' w.heap.size (fun _ => True) (.slice Ao10 x4_2.length co10) x4_2) ∧ Aside0 (Kd.R k75 75 w' w.heap.size (fun _ => True) v8 x8_3) ∧ Aside0 (w'.heap[gb101]? = some (.cells #[(.slice A0_0 l0_0.length c0_0)] 72 (0, 0))) ∧ Aside0 (Below w.heap.size w w'))
         case atStart => exact ⟨(([] : List (S75))), (0), (by first | rfl | (simp; done) | (simp [*]; done)), H', ⟨Nat.le_refl _⟩, ⟨by (try simp only [hl4_1]); (try simp only [hl4_2]); (with_reducible repeat (first | apply Kd.S_alloc | apply Kd.S_drewN | apply Kd.S_drew)); exact HO_4.out⟩, ⟨by (try simp only [hl4_1]); (try simp only [hl4_2]); first | exact Kd.R_nil _ _ _ _ _ | exact Kd.N_nil _ _ _ _ _ | exact Kd.V_nil _ _ _ _ _ | exact Kd.Q_nil _ _ _ _ _ | exact Kd.S_nil _ _ _ _ _⟩, ⟨by (try simp only [hl4_1]); (try simp only [hl4_2]); (with_reducible repeat (first | refine blk_drewN ?_ _ | refine blk_drew ?_ | refine blk_alloc ?_ _)); exact BK101.out⟩, ⟨by repeat (first | (with_reducible first | exact HB.out | apply below_alloc | apply pw_below_drewN | apply below_drew1) | exact HB.out)⟩⟩
         case round =>
          clear H'
          try clear c1
          try clear p1
          try clear q1
          try clear hx1
          try clear hf1
          try clear c2
          try clear p2
          try clear q2
          try clear hx2
          try clear hf2
          try clear c3
          try clear c3b0
          try clear c3b1
          try clear c4
          try clear c4b0
          try clear c4b1
          try clear p6
          try clear c8
          try clear c11
          try clear c11b0
          try clear p11
          try clear q11
          try clear hx11
          try clear c13
          try clear c13b0
          try clear c14
          try clear c14b0
          try clear c15
          try clear p15
          try clear q15
          try clear hx15
          try clear hf15
          try clear c16
          try clear c16b0
          try clear p17
          try clear q17
          try clear hx17
          try clear hf17
          try clear c22
          try clear hx22
          try clear hf22
          try clear c24
          try clear q24
          try clear c26
          try clear hcz6_0
          try clear hfz6_0
          try clear hx113_0
          try clear hx15_0
          try clear hx17_0
          try clear hx22_0
          try clear p1
          try clear p11
          try clear p113
          try clear p15
          try clear p17
          try clear p2
          try clear p6
          try clear q1
          try clear q11
          try clear q113
          try clear q15
          try clear q17
          try clear q2
          try clear q24
          obtain ⟨x8_3, x39_3, rfl, HA, HK3, HO_4, HO_8, BK101, HB⟩ := hrel
          cases gk with
          | zero => exact absurd HA.out (by simp [impl_net_copTimes.l2])
          | succ k3 =>
           have H := HA.out
           clear HA
           simp only [impl_net_copTimes.l2] at H
           by_cases c27 : x39_3 < t102
           ·rw [if_pos c27] at H
            have c27b0 : decide (x39_3 < t102) = true := decide_eq_true c27
            clear c27
            have H' := Aside0.mk H
            clear H
            go_wp2
            go_loopg [8, 43] k3 (fun kq v8 v43 w' => ∃ (x8_4 : List (S75)) (x43_4 : Int), v43 = .int .i64 x43_4 ∧ Aside0 (impl_net_copTimes.l3 kq t102 x4_2 x6_2 false x8_4 x39_3 t102 x39_3 t102 x43_4 l0_0 = some r) ∧ Aside0 (kq ≤ k3) ∧ Aside0 (Kd.S (Kd.slice 3 (Kd.int .i64)) 26 w' w.heap.size (fun _ => True) (.slice Ao10 x4_2.length co10) x4_2) ∧ Aside0 (Kd.R k75 75 w' w.heap.size (fun _ => True) v8 x8_4) ∧ Aside0 (w'.heap[gb101]? = some (.cells #[(.slice A0_0 l0_0.length c0_0)] 72 (0, 0))) ∧ Aside0 (Below w.heap.size w w'))
            case atStart => exact ⟨(x8_3), (0), (by first | rfl | (simp; done) | (simp [*]; done)), H', ⟨Nat.le_refl _⟩, ⟨by (try simp only [hl4_1]); (try simp only [hl4_2]); (with_reducible repeat (first | apply Kd.S_alloc | apply Kd.S_drewN | apply Kd.S_drew)); exact HO_4.out⟩, ⟨by (try simp only [hl4_1]); (try simp only [hl4_2]); (with_reducible repeat (first | apply Kd.R_alloc | apply Kd.R_drewN | apply Kd.R_drew)); exact HO_8.out⟩, ⟨by (try simp only [hl4_1]); (try simp only [hl4_2]); (with_reducible repeat (first | refine blk_drewN ?_ _ | refine blk_drew ?_ | refine blk_alloc ?_ _)); exact BK101.out⟩, ⟨by repeat (first | (with_reducible first | exact HB.out | apply below_alloc | apply pw_below_drewN | apply below_drew1) | exact HB.out)⟩⟩
            case round =>
             clear H'
             try clear c1
             try clear p1
             try clear q1
             try clear hx1
             try clear hf1
             try clear c2
             try clear p2
             try clear q2
             try clear hx2
             try clear hf2
             try clear c3
             try clear c3b0
             try clear c3b1
             try clear c4
             try clear c4b0
             try clear c4b1
             try clear p6
             try clear c8
             try clear c11
             try clear c11b0
             try clear p11
             try clear q11
             try clear hx11
             try clear c13
             try clear c13b0
             try clear c14
             try clear c14b0
             try clear c15
             try clear p15
             try clear q15
             try clear hx15
             try clear hf15
             try clear c16
             try clear c16b0
             try clear p17
             try clear q17
             try clear hx17
             try clear hf17
             try clear c22
             try clear hx22
             try clear hf22
             try clear c24
             try clear q24
             try clear c26
             try clear c27
             try clear c27b0
             try clear hcz6_0
             try clear hfz6_0
             try clear hx113_0
             try clear hx15_0
             try clear hx17_0
             try clear hx22_0
             try clear p1
             try clear p11
             try clear p113
             try clear p15
             try clear p17
             try clear p2
             try clear p6
             try clear q1
             try clear q11
             try clear q113
             try clear q15
             try clear q17
             try clear q2
             try clear q24
             obtain ⟨x8_4, x43_4, rfl, HA, HK4, HO_4, HO_8, BK101, HB⟩ := hrel
             cases gk with
             | zero => exact absurd HA.out (by simp [impl_net_copTimes.l3])
             | succ k4 =>
              have H := HA.out
              clear HA
              simp only [impl_net_copTimes.l3] at H
              by_cases c28 : x43_4 < t102
              ·rw [if_pos c28] at H
               have c28b0 : decide (x43_4 < t102) = true := decide_eq_true c28
               clear c28
               by_cases c29 : 0 ≤ x39_3
               ·rw [if_pos c29] at H
                have c29b0 : decide (0 ≤ x39_3) = true := decide_eq_true c29
                clear c29
                by_cases c30 : x39_3 < (x4_2.length : Int)
                ·rw [if_pos c30] at H
                 have c30b0 : decide (x39_3 < (x4_2.length : Int)) = true := decide_eq_true c30
                 clear c30
                 by_cases c31 : 0 ≤ x43_4
                 ·rw [if_pos c31] at H
                  have c31b0 : decide (0 ≤ x43_4) = true := decide_eq_true c31
                  clear c31
                  by_cases c32 : x43_4 < ((rd_L2 x4_2 x39_3).length : Int)
                  ·rw [if_pos c32] at H
                   have c32b0 : decide (x43_4 < ((rd_L2 x4_2 x39_3).length : Int)) = true := decide_eq_true c32
                   clear c32
                   by_cases c33 : (rd (rd_L2 x4_2 x39_3) x43_4) < 0
                   ·rw [if_pos c33] at H
                    have c33b0 : decide ((rd (rd_L2 x4_2 x39_3) x43_4) < 0) = true := decide_eq_true c33
                    clear c33
                    replace H := Option.bind_eq_some_iff.mp H
                    obtain ⟨t119, A340, H⟩ := H
                    replace H : (if t119 = true then (if x8_4.length < 8796093022208 then (impl_net_copTimes.l3 k4 t102 x4_2 x6_2 false (x8_4 ++ [(⟨x39_3, x43_4⟩ : S75)]) x39_3 t102 x39_3 t102 (wrap64 (x43_4 + 1)) l0_0) else (none)) else (impl_net_copTimes.l3 k4 t102 x4_2 x6_2 false x8_4 x39_3 t102 x39_3 t102 (wrap64 (x43_4 + 1)) l0_0)) = some r := H
                    have A34 := Aside0.mk A340
                    clear A340
                    have HU35 := Aside0.mk H
                    clear H
                    have p117 : 0 ≤ (x39_3 : Int) := of_decide_eq_true (by first | (with_reducible assumption) | assumption)
                    have q117 : x39_3 < (x4_2.length : Int) := of_decide_eq_true (by first | (with_reducible assumption) | assumption)
                    obtain ⟨ad117, A117_0, c117_0, e117, hx117_0, hl117_0, hi117_0⟩ := at_L2 (Kd.S_reads' HO_4.out).2.2 x39_3 p117 q117
                    cases e117
                    obtain ⟨ce117, hce117, hMe117, hcc117⟩ := Kd.S_get HO_4.out [] x39_3 p117 (by first | exact q117 | exact of_decide_eq_true (by first | (with_reducible assumption) | assumption) | (have e_ := (Kd.S_reads' HO_4.out).1; omega))
                    obtain ⟨ve117_0, rfl, ge117_0⟩ := hMe117
                    have hv117_0 := hcc117 0 _ rfl
                    rw [Nat.add_zero, show ((Kd.slice 3 (Kd.int .i64))).sz = 1 from rfl, Nat.mul_one] at hv117_0
                    replace hv117_0 := Option.some.inj (hv117_0.symm.trans hx117_0)
                    rw [hv117_0] at ge117_0
                    have HL117_0 := Aside0.mk (show Kd.R (Kd.int .i64) 3 _ _ _ _ (rd_L2 x4_2 x39_3) from ge117_0)
                    clear hv117_0 ge117_0
                    have HX117_0 := Aside0.mk hx117_0
                    clear hcc117 hce117
                    have HR117_0 := Aside0.mk hi117_0
                    have HC117_0 := Aside0.mk hl117_0
                    clear hi117_0 hl117_0
                    replace p117 := eq_true p117
                    replace q117 := eq_true q117
                    have p118 : 0 ≤ (x43_4 : Int) := of_decide_eq_true (by first | (with_reducible assumption) | assumption)
                    have q118 : x43_4 < ((rd_L2 x4_2 x39_3).length : Int) := of_decide_eq_true (by first | (with_reducible assumption) | assumption)
                    obtain ⟨ad118, e118, hx118_0⟩ := Kd.at_int (by repeat (first | (with_reducible exact HR117_0.out) | (with_reducible refine Kd.C_alloc ?_ _) | (with_reducible refine Kd.C_drewN ?_ _) | (with_reducible refine Kd.C_drew ?_) | exact HR117_0.out)) x43_4 p118 q118
                    cases e118
                    replace p118 := eq_true p118
                    replace q118 := eq_true q118
                    have hcz36_0 : wr.cell? ⟨gb101, 0, none⟩ = some (.slice A0_0 l0_0.length c0_0) := (blk_cell BK101.out 0).trans rfl
                    have hfz36_0 := blk_frozen BK101.out 0
                    go_upto_if 60 with (first | (go_at_call 136; (with_reducible refine (impl_net_copCan.calls k4 _ _ l0_0 _ _ x4_2 x39_3 x43_4 t119 _ ?side1 ?side2 ?side3 ?side4 A34.out).mono ?_); (case side1 => repeat (first | exact (Kd.C_below HR0_0.out HB.out) | (with_reducible refine Kd.C_alloc ?_ _) | (with_reducible refine Kd.C_drewN ?_ _) | (with_reducible refine Kd.C_drew ?_))); (case side2 => exact HC0_0.out); (case side3 => repeat (first | exact (Kd.S_reads' HO_4.out).2.2 | (with_reducible refine Kd.C_alloc ?_ _) | (with_reducible refine Kd.C_drewN ?_ _) | (with_reducible refine Kd.C_drew ?_))); (case side4 => exact (Kd.S_reads' HO_4.out).2.1); rintro e w37 ⟨rfl, hb⟩; have n0_ := Aside0.mk (Kd.S_below (by (with_reducible repeat (first | apply Kd.S_alloc | apply Kd.S_drewN | apply Kd.S_drew)); exact HO_4.out) hb); have n1_ := Aside0.mk (Kd.R_below (by (with_reducible repeat (first | apply Kd.R_alloc | apply Kd.R_drewN | apply Kd.R_drew)); exact HO_8.out) hb); have n2_ := Aside0.mk (Kd.R_below (by (with_reducible repeat (first | apply Kd.R_alloc | apply Kd.R_drewN | apply Kd.R_drew)); exact HL117_0.out) hb); have n3_ := Aside0.mk (blk_below (g := gb101) (o := .cells #[.slice A0_0 l0_0.length c0_0] 72 (0, 0)) (by (with_reducible repeat (first | refine blk_drewN ?_ _ | refine blk_drew ?_ | refine blk_alloc ?_ _)); exact BK101.out) hb); have n4_ := Aside0.mk (Kd.C_below (by repeat (first | (with_reducible exact HR117_0.out) | (with_reducible refine Kd.C_alloc ?_ _) | (with_reducible refine Kd.C_drewN ?_ _) | (with_reducible refine Kd.C_drew ?_) | exact HR117_0.out)) hb); have n5_ := Aside0.mk (pw_cell_below hb HX117_0.out); have n6_ := Aside0.mk (below_step (by repeat (first | (with_reducible first | exact HB.out | apply below_alloc | apply pw_below_drewN | apply below_drew1) | exact HB.out)) hb); clear HO_4; clear HO_8; clear HL117_0; clear BK101; clear HR117_0; clear HX117_0; clear HB; have HO_4 := n0_; have HO_8 := n1_; have HL117_0 := n2_; have BK101 := n3_; have HR117_0 := n4_; have HX117_0 := n5_; have HB := n6_; clear n0_ n1_ n2_ n3_ n4_ n5_ n6_; (try clear hb); (try clear hb2); (try clear hk); (try clear hi)))
                    (try simp only [Act.put, List.setIfInBounds_toArray, List.set_cons_zero, List.set_cons_succ])
                    have H := HU35.out
                    clear HU35
                    by_cases c38 : t119 = true
                    ·subst c38
                     have H1 : (if x8_4.length < 8796093022208 then (impl_net_copTimes.l3 k4 t102 x4_2 x6_2 false (x8_4 ++ [(⟨x39_3, x43_4⟩ : S75)]) x39_3 t102 x39_3 t102 (wrap64 (x43_4 + 1)) l0_0) else (none)) = some r := by rw [if_pos rfl] at H; exact H
                     clear H
                     have H := H1
                     clear H1
                     by_cases c39 : x8_4.length < 8796093022208
                     ·rw [if_pos c39] at H
                      have LMc39 := Aside0.mk c39
                      clear c39
                      obtain ⟨y120, hy120⟩ : ∃ y_ : List (S75), y_ = (x8_4 ++ [(⟨x39_3, x43_4⟩ : S75)]) := ⟨_, rfl⟩
                      replace H : (impl_net_copTimes.l3 k4 t102 x4_2 x6_2 false y120 x39_3 t102 x39_3 t102 (wrap64 (x43_4 + 1)) l0_0) = some r := by first | (rw [hy120]; with_reducible exact H) | (have H2_ := (Option.bind_some _ _).symm.trans H; rw [hy120]; with_reducible exact H2_) | (have H2_ := (Option.bind_some _ _).symm.trans H; with_reducible exact H2_) | with_reducible exact H | (rw [hy120]; exact H) | exact H
                      have Ny120 := Aside0.mk hy120
                      clear hy120
                      have H' := Aside0.mk H
                      clear H
                      go_wp2_with (first | ((with_reducible refine gate_builtin (b := .append) (xs := #[.tmp 61, .tmp 65]) rfl ?_); at_builtin; refine Kd.R_append k75 (w0 := w) w.heap.size rfl (.tmp 61) (.tmp 65) 22 75 (.agg #[(.int .i64 0), (.int .i64 0)]) 16 rfl Try.underlying22 info75 rfl (by decide) (by omega) u8 x8_4 (⟨x39_3, x43_4⟩ : S75) [.int .i64 x39_3, .int .i64 x43_4] (fun _ => True) (fun _ => False) rfl rfl ?aP (fun _ hk => hk.elim) ?aF ?aO ?aB ?aS ?aL ?_; (case aP => exact k75_mkM _ _ _ (⟨x39_3, x43_4⟩ : S75)); (case aB => exact (by repeat (first | (with_reducible first | exact HB.out | apply below_alloc | apply pw_below_drewN | apply below_drew1) | exact HB.out))); (case aF => exact (fun _ _ => trivial)); (case aO => exact (by (with_reducible repeat (first | apply Kd.R_alloc | apply Kd.R_drewN | apply Kd.R_drew)); exact HO_8.out)); (case aS => exact (below_size (by repeat (first | (with_reducible first | exact HB.out | apply below_alloc | apply pw_below_drewN | apply below_drew1) | exact HB.out)))); (case aL => have := LMc39.out; omega); intro v121 w40 ho hb hg hat; rw [← Ny120.out] at ho; have n0_ := Aside0.mk (Kd.S_over' (by (with_reducible repeat (first | apply Kd.S_alloc | apply Kd.S_drewN | apply Kd.S_drew)); exact HO_4.out) (Kd.R_typed (by (with_reducible repeat (first | apply Kd.R_alloc | apply Kd.R_drewN | apply Kd.R_drew)); exact HO_8.out)) (by decide) hg); have n1_ := Aside0.mk (blk_grown (g := gb101) (o := .cells #[.slice A0_0 l0_0.length c0_0] 72 (0, 0)) (by (with_reducible repeat (first | refine blk_drewN ?_ _ | refine blk_drew ?_ | refine blk_alloc ?_ _)); exact BK101.out) hg (Kd.R_ne HO_8.out BK101.out (by decide))); have n2_ := Aside0.mk (Kd.R_over' (by (with_reducible repeat (first | apply Kd.R_alloc | apply Kd.R_drewN | apply Kd.R_drew)); exact HL117_0.out) (Kd.R_typed (by (with_reducible repeat (first | apply Kd.R_alloc | apply Kd.R_drewN | apply Kd.R_drew)); exact HO_8.out)) (by decide) hg); have n3_ := Aside0.mk (hb); have n4_ := Aside0.mk (ho); clear HO_4; clear BK101; clear HL117_0; clear HB; clear HO_8; have HO_4 := n0_; have BK101 := n1_; have HL117_0 := n2_; have HB := n3_; have HO122 := n4_; clear n0_ n1_ n2_ n3_ n4_; clear ho hb hg hat))
                      go_roundg k4
                      case measure => have := HK1.out; have := HK2.out; have := HK3.out; have := HK4.out; omega
                      case rel => exact ⟨(y120), (wrap64 (x43_4 + 1)), (by first | rfl | (simp; done) | (simp [*]; done)), H', ⟨by have := HK1.out; have := HK2.out; have := HK3.out; have := HK4.out; omega⟩, ⟨by (try simp only [hl4_1]); (try simp only [hl4_2]); (with_reducible repeat (first | apply Kd.S_alloc | apply Kd.S_drewN | apply Kd.S_drew)); exact HO_4.out⟩, ⟨by (try simp only [hl4_1]); (try simp only [hl4_2]); (with_reducible repeat (first | apply Kd.R_alloc | apply Kd.R_drewN | apply Kd.R_drew)); exact HO122.out⟩, ⟨by (try simp only [hl4_1]); (try simp only [hl4_2]); (with_reducible repeat (first | refine blk_drewN ?_ _ | refine blk_drew ?_ | refine blk_alloc ?_ _)); exact BK101.out⟩, ⟨by repeat (first | (with_reducible first | exact HB.out | apply below_alloc | apply pw_below_drewN | apply below_drew1) | exact HB.out)⟩⟩
                     ·rw [if_neg c39] at H
                      exact absurd H (by simp)
                    ·replace c38 := Bool.eq_false_iff.mpr c38
                     subst c38
                     have H1 : (impl_net_copTimes.l3 k4 t102 x4_2 x6_2 false x8_4 x39_3 t102 x39_3 t102 (wrap64 (x43_4 + 1)) l0_0) = some r := by rw [if_neg (show ¬ (false = true) by decide)] at H; exact H
                     clear H
                     have H := H1
                     clear H1
                     have H' := Aside0.mk H
                     clear H
                     go_wp2
                     go_roundg k4
                     case measure => have := HK1.out; have := HK2.out; have := HK3.out; have := HK4.out; omega
                     case rel => exact ⟨(x8_4), (wrap64 (x43_4 + 1)), (by first | rfl | (simp; done) | (simp [*]; done)), H', ⟨by have := HK1.out; have := HK2.out; have := HK3.out; have := HK4.out; omega⟩, ⟨by (try simp only [hl4_1]); (try simp only [hl4_2]); (with_reducible repeat (first | apply Kd.S_alloc | apply Kd.S_drewN | apply Kd.S_drew)); exact HO_4.out⟩, ⟨by (try simp only [hl4_1]); (try simp only [hl4_2]); (with_reducible repeat (first | apply Kd.R_alloc | apply Kd.R_drewN | apply Kd.R_drew)); exact HO_8.out⟩, ⟨by (try simp only [hl4_1]); (try simp only [hl4_2]); (with_reducible repeat (first | refine blk_drewN ?_ _ | refine blk_drew ?_ | refine blk_alloc ?_ _)); exact BK101.out⟩, ⟨by repeat (first | (with_reducible first | exact HB.out | apply below_alloc | apply pw_below_drewN | apply below_drew1) | exact HB.out)⟩⟩
                   ·rw [if_neg c33] at H
                    have c33b0 : decide ((rd (rd_L2 x4_2 x39_3) x43_4) < 0) = false := decide_eq_false c33
                    clear c33
                    have HU41 := Aside0.mk H
                    clear H
                    have p117 : 0 ≤ (x39_3 : Int) := of_decide_eq_true (by first | (with_reducible assumption) | assumption)
                    have q117 : x39_3 < (x4_2.length : Int) := of_decide_eq_true (by first | (with_reducible assumption) | assumption)
                    obtain ⟨ad117, A117_0, c117_0, e117, hx117_0, hl117_0, hi117_0⟩ := at_L2 (Kd.S_reads' HO_4.out).2.2 x39_3 p117 q117
                    cases e117
                    obtain ⟨ce117, hce117, hMe117, hcc117⟩ := Kd.S_get HO_4.out [] x39_3 p117 (by first | exact q117 | exact of_decide_eq_true (by first | (with_reducible assumption) | assumption) | (have e_ := (Kd.S_reads' HO_4.out).1; omega))
                    obtain ⟨ve117_0, rfl, ge117_0⟩ := hMe117
                    have hv117_0 := hcc117 0 _ rfl
                    rw [Nat.add_zero, show ((Kd.slice 3 (Kd.int .i64))).sz = 1 from rfl, Nat.mul_one] at hv117_0
                    replace hv117_0 := Option.some.inj (hv117_0.symm.trans hx117_0)
                    rw [hv117_0] at ge117_0
                    have HL117_0 := Aside0.mk (show Kd.R (Kd.int .i64) 3 _ _ _ _ (rd_L2 x4_2 x39_3) from ge117_0)
                    clear hv117_0 ge117_0
                    have HX117_0 := Aside0.mk hx117_0
                    clear hcc117 hce117
                    have HR117_0 := Aside0.mk hi117_0
                    have HC117_0 := Aside0.mk hl117_0
                    clear hi117_0 hl117_0
                    replace p117 := eq_true p117
                    replace q117 := eq_true q117
                    have p118 : 0 ≤ (x43_4 : Int) := of_decide_eq_true (by first | (with_reducible assumption) | assumption)
                    have q118 : x43_4 < ((rd_L2 x4_2 x39_3).length : Int) := of_decide_eq_true (by first | (with_reducible assumption) | assumption)
                    obtain ⟨ad118, e118, hx118_0⟩ := Kd.at_int (by repeat (first | (with_reducible exact HR117_0.out) | (with_reducible refine Kd.C_alloc ?_ _) | (with_reducible refine Kd.C_drewN ?_ _) | (with_reducible refine Kd.C_drew ?_) | exact HR117_0.out)) x43_4 p118 q118
                    cases e118
                    replace p118 := eq_true p118
                    replace q118 := eq_true q118
                    go_upto_if 60 with (fail)
                    have H := HU41.out
                    clear HU41
                    have H' := Aside0.mk H
                    clear H
                    go_wp2
                    go_roundg k4
                    case measure => have := HK1.out; have := HK2.out; have := HK3.out; have := HK4.out; omega
                    case rel => exact ⟨(x8_4), (wrap64 (x43_4 + 1)), (by first | rfl | (simp; done) | (simp [*]; done)), H', ⟨by have := HK1.out; have := HK2.out; have := HK3.out; have := HK4.out; omega⟩, ⟨by (try simp only [hl4_1]); (try simp only [hl4_2]); (with_reducible repeat (first | apply Kd.S_alloc | apply Kd.S_drewN | apply Kd.S_drew)); exact HO_4.out⟩, ⟨by (try simp only [hl4_1]); (try simp only [hl4_2]); (with_reducible repeat (first | apply Kd.R_alloc | apply Kd.R_drewN | apply Kd.R_drew)); exact HO_8.out⟩, ⟨by (try simp only [hl4_1]); (try simp only [hl4_2]); (with_reducible repeat (first | refine blk_drewN ?_ _ | refine blk_drew ?_ | refine blk_alloc ?_ _)); exact BK101.out⟩, ⟨by repeat (first | (with_reducible first | exact HB.out | apply below_alloc | apply pw_below_drewN | apply below_drew1) | exact HB.out)⟩⟩
                  ·rw [if_neg c32] at H
                   exact absurd H (by simp)
                 ·rw [if_neg c31] at H
                  exact absurd H (by simp)
                ·rw [if_neg c30] at H
                 exact absurd H (by simp)
               ·rw [if_neg c29] at H
                exact absurd H (by simp)
              ·rw [if_neg c28] at H
               have c28b0 : decide (x43_4 < t102) = false := decide_eq_false c28
               clear c28
               have H' := Aside0.mk H
               clear H
               go_wp2
               go_roundg k4
               case measure => have := HK1.out; have := HK2.out; have := HK3.out; have := HK4.out; omega
               case rel => exact ⟨(x8_4), (wrap64 (x39_3 + 1)), (by first | rfl | (simp; done) | (simp [*]; done)), H', ⟨by have := HK1.out; have := HK2.out; have := HK3.out; have := HK4.out; omega⟩, ⟨by (try simp only [hl4_1]); (try simp only [hl4_2]); (with_reducible repeat (first | apply Kd.S_alloc | apply Kd.S_drewN | apply Kd.S_drew)); exact HO_4.out⟩, ⟨by (try simp only [hl4_1]); (try simp only [hl4_2]); (with_reducible repeat (first | apply Kd.R_alloc | apply Kd.R_drewN | apply Kd.R_drew)); exact HO_8.out⟩, ⟨by (try simp only [hl4_1]); (try simp only [hl4_2]); (with_reducible repeat (first | refine blk_drewN ?_ _ | refine blk_drew ?_ | refine blk_alloc ?_ _)); exact BK101.out⟩, ⟨by repeat (first | (with_reducible first | exact HB.out | apply below_alloc | apply pw_below_drewN | apply below_drew1) | exact HB.out)⟩⟩
           ·rw [if_neg c27] at H
            have c27b0 : decide (x39_3 < t102) = false := decide_eq_false c27
            clear c27
            have H' := Aside0.mk H
            clear H
            obtain ⟨Ao42, co42, eo42⟩ := Kd.R_slice HO_8.out
            subst eo42
            go_wp2
            go_loopg [7, 71] k3 (fun kq v7 v71 w' => ∃ (x4_4 : List (List Int)) (x7_4 : Bool) (x71_4 : Int), v7 = .bool x7_4 ∧ v71 = .int .i64 x71_4 ∧ Aside0 (impl_net_copTimes.l4 kq t102 x4_4 x6_2 x7_4 x8_3 (x8_3.length : Int) x71_4 l0_0 = some r) ∧ Aside0 (kq ≤ k3) ∧ Aside0 (Kd.S (Kd.slice 3 (Kd.int .i64)) 26 w' w.heap.size (fun _ => True) (.slice Ao10 x4_2.length co10) x4_4) ∧ Aside0 (Kd.R k75 75 w' w.heap.size (fun _ => True) (.slice Ao42 x8_3.length co42) x8_3) ∧ Aside0 (w'.heap[gb101]? = some (.cells #[(.slice A0_0 l0_0.length c0_0)] 72 (0, 0))) ∧ Aside0 (Below w.heap.size w w'))
            case atStart => exact ⟨(x4_2), (false), (0), (by first | rfl | (simp; done) | (simp [*]; done)), (by first | rfl | (simp; done) | (simp [*]; done)), H', ⟨Nat.le_refl _⟩, ⟨by (try simp only [hl4_1]); (try simp only [hl4_2]); (with_reducible repeat (first | apply Kd.S_alloc | apply Kd.S_drewN | apply Kd.S_drew)); exact HO_4.out⟩, ⟨by (try simp only [hl4_1]); (try simp only [hl4_2]); (with_reducible repeat (first | apply Kd.R_alloc | apply Kd.R_drewN | apply Kd.R_drew)); exact HO_8.out⟩, ⟨by (try simp only [hl4_1]); (try simp only [hl4_2]); (with_reducible repeat (first | refine blk_drewN ?_ _ | refine blk_drew ?_ | refine blk_alloc ?_ _)); exact BK101.out⟩, ⟨by repeat (first | (with_reducible first | exact HB.out | apply below_alloc | apply pw_below_drewN | apply below_drew1) | exact HB.out)⟩⟩
            case round =>
             clear H'
             try clear c1
             try clear p1
             try clear q1
             try clear hx1
             try clear hf1
             try clear c2
             try clear p2
             try clear q2
             try clear hx2
             try clear hf2
             try clear c3
             try clear c3b0
             try clear c3b1
             try clear c4
             try clear c4b0
             try clear c4b1
             try clear p6
             try clear c8
             try clear c11
             try clear c11b0
             try clear p11
             try clear q11
             try clear hx11
             try clear c13
             try clear c13b0
             try clear c14
             try clear c14b0
             try clear c15
             try clear p15
             try clear q15
             try clear hx15
             try clear hf15
             try clear c16
             try clear c16b0
             try clear p17
             try clear q17
             try clear hx17
             try clear hf17
             try clear c22
             try clear hx22
             try clear hf22
             try clear c24
             try clear q24
             try clear c26
             try clear c27
             try clear c27b0
             try clear c28
             try clear c28b0
             try clear c29
             try clear c29b0
             try clear c30
             try clear c30b0
             try clear c31
             try clear c31b0
             try clear c32
             try clear c32b0
             try clear c33
             try clear c33b0
             try clear c38
             try clear c39
             try clear hcz36_0
             try clear hcz6_0
             try clear hfz36_0
             try clear hfz6_0
             try clear hx113_0
             try clear hx117_0
             try clear hx118_0
             try clear hx15_0
             try clear hx17_0
             try clear hx22_0
             try clear p1
             try clear p11
             try clear p113
             try clear p117
             try clear p118
             try clear p15
             try clear p17
             try clear p2
             try clear p6
             try clear q1
             try clear q11
             try clear q113
             try clear q117
             try clear q118
             try clear q15
             try clear q17
             try clear q2
             try clear q24
             obtain ⟨x4_4, x7_4, x71_4, rfl, rfl, HA, HK4, HO_4, HO_69, BK101, HB⟩ := hrel
             have hl4_4 := (Kd.S_reads' HO_4.out).1
             rw [hl4_4] at HO_4
             (try simp only [hl4_4])
             (try simp only [hl4_4] at BK101)
             (try simp only [hl4_4] at HO_69)
             cases gk with
             | zero => exact absurd HA.out (by simp [impl_net_copTimes.l4])
             | succ k4 =>
              have H := HA.out
              clear HA
              simp only [impl_net_copTimes.l4] at H
              by_cases c43 : x71_4 < (x8_3.length : Int)
              ·rw [if_pos c43] at H
               have c43b0 : decide (x71_4 < (x8_3.length : Int)) = true := decide_eq_true c43
               clear c43
               by_cases c44 : 0 ≤ x71_4
               ·rw [if_pos c44] at H
                have c44b0 : decide (0 ≤ x71_4) = true := decide_eq_true c44
                clear c44
                by_cases c45 : x71_4 < (x8_3.length : Int)
                ·rw [if_pos c45] at H
                 have c45b0 : decide (x71_4 < (x8_3.length : Int)) = true := decide_eq_true c45
                 clear c45
                 by_cases c46 : 0 ≤ ((rd_T75 x8_3 x71_4).f0)
                 ·rw [if_pos c46] at H
                  have c46b0 : decide (0 ≤ ((rd_T75 x8_3 x71_4).f0)) = true := decide_eq_true c46
                  clear c46
                  by_cases c47 : ((rd_T75 x8_3 x71_4).f0) < (x4_4.length : Int)
                  ·rw [if_pos c47] at H
                   have c47b0 : decide (((rd_T75 x8_3 x71_4).f0) < (x4_4.length : Int)) = true := decide_eq_true c47
                   clear c47
                   by_cases c48 : 0 ≤ ((rd_T75 x8_3 x71_4).f1)
                   ·rw [if_pos c48] at H
                    have c48b0 : decide (0 ≤ ((rd_T75 x8_3 x71_4).f1)) = true := decide_eq_true c48
                    clear c48
                    by_cases c49 : ((rd_T75 x8_3 x71_4).f1) < ((rd_L2 x4_4 ((rd_T75 x8_3 x71_4).f0)).length : Int)
                    ·rw [if_pos c49] at H
                     have c49b0 : decide (((rd_T75 x8_3 x71_4).f1) < ((rd_L2 x4_4 ((rd_T75 x8_3 x71_4).f0)).length : Int)) = true := decide_eq_true c49
                     clear c49
                     obtain ⟨y126, hy126⟩ : ∃ y_ : List Int, y_ = ((rd_L2 x4_4 ((rd_T75 x8_3 x71_4).f0)).set (((rd_T75 x8_3 x71_4).f1) : Int).toNat x6_2) := ⟨_, rfl⟩
                     replace H : (impl_net_copTimes.l4 k4 t102 (x4_4.set (((rd_T75 x8_3 x71_4).f0) : Int).toNat y126) x6_2 true x8_3 (x8_3.length : Int) (wrap64 (x71_4 + 1)) l0_0) = some r := by first | (rw [hy126]; with_reducible exact H) | (have H2_ := (Option.bind_some _ _).symm.trans H; rw [hy126]; with_reducible exact H2_) | (have H2_ := (Option.bind_some _ _).symm.trans H; with_reducible exact H2_) | with_reducible exact H | (rw [hy126]; exact H) | exact H
                     have Ny126 := Aside0.mk hy126
                     clear hy126
                     obtain ⟨y128, hy128⟩ : ∃ y_ : List (List Int), y_ = (x4_4.set (((rd_T75 x8_3 x71_4).f0) : Int).toNat y126) := ⟨_, rfl⟩
                     replace H : (impl_net_copTimes.l4 k4 t102 y128 x6_2 true x8_3 (x8_3.length : Int) (wrap64 (x71_4 + 1)) l0_0) = some r := by first | (rw [hy128]; with_reducible exact H) | (have H2_ := (Option.bind_some _ _).symm.trans H; rw [hy128]; with_reducible exact H2_) | (have H2_ := (Option.bind_some _ _).symm.trans H; with_reducible exact H2_) | with_reducible exact H | (rw [hy128]; exact H) | exact H
                     have Ny128 := Aside0.mk hy128
                     clear hy128
                     have H' := Aside0.mk H
                     clear H
                     have p123 : 0 ≤ (x71_4 : Int) := of_decide_eq_true (by first | (with_reducible assumption) | assumption)
                     have q123 : x71_4 < (x8_3.length : Int) := of_decide_eq_true (by first | (with_reducible assumption) | assumption)
                     obtain ⟨ad123, e123, hx123_0, hx123_1⟩ := at_T75 (Kd.R_reads' HO_69.out).2.2 x71_4 p123 q123
                     cases e123
                     replace p123 := eq_true p123
                     replace q123 := eq_true q123
                     try go_wp2_with (first | ((with_reducible refine gate_dst (N := 12) rfl ?_); refine box_event ?hg (N := 12) ?hd (cs := #[.int .i64 0, .int .i64 0]) (t := 75) ?hr ?_; (case hd => rfl); (case hg => rfl); (case hr => first | (go_simp; done) | (go_simp; rfl)); intro gb124 hg w51 hbox hb; have n0_ := Aside0.mk (Kd.S_below (by (with_reducible repeat (first | apply Kd.S_alloc | apply Kd.S_drewN | apply Kd.S_drew)); exact HO_4.out) hb); have n1_ := Aside0.mk (Kd.R_below (Kd.R_elderB (by (with_reducible repeat (first | apply Kd.R_alloc | apply Kd.R_drewN | apply Kd.R_drew)); exact HO_69.out) gb124 (Nat.le_of_eq hg.symm)) hb); have n2_ := Aside0.mk (blk_below (g := gb101) (o := .cells #[.slice A0_0 l0_0.length c0_0] 72 (0, 0)) (by (with_reducible repeat (first | refine blk_drewN ?_ _ | refine blk_drew ?_ | refine blk_alloc ?_ _)); exact BK101.out) hb); have n3_ := Aside0.mk (below_step (by repeat (first | (with_reducible first | exact HB.out | apply below_alloc | apply pw_below_drewN | apply below_drew1) | exact HB.out)) hb); have n4_ := Aside0.mk (hbox); have n5_ := Aside0.mk ((by rw [hg]; exact (below_size (by repeat (first | (with_reducible first | exact HB.out | apply below_alloc | apply pw_below_drewN | apply below_drew1) | exact HB.out))) : w.heap.size ≤ gb124)); have n6_ := Aside0.mk ((by rw [hg]; exact (below_size (by repeat (first | (with_reducible first | exact HB.out | apply below_alloc | apply pw_below_drewN | apply below_drew1) | exact HB.out))) : w.heap.size ≤ gb124)); have n7_ := Aside0.mk ((by rw [hg]; exact Nat.ne_of_lt (blk_lt (g := gb101) (o := .cells #[.slice A0_0 l0_0.length c0_0] 72 (0, 0)) (by (with_reducible repeat (first | refine blk_drewN ?_ _ | refine blk_drew ?_ | refine blk_alloc ?_ _)); exact BK101.out)) : gb101 ≠ gb124)); have n8_ := Aside0.mk ((by rw [hg]; exact Nat.ne_of_gt (blk_lt (g := gb101) (o := .cells #[.slice A0_0 l0_0.length c0_0] 72 (0, 0)) (by (with_reducible repeat (first | refine blk_drewN ?_ _ | refine blk_drew ?_ | refine blk_alloc ?_ _)); exact BK101.out)) : gb124 ≠ gb101)); clear HO_4; clear HO_69; clear BK101; clear HB; have HO_4 := n0_; have HO_69 := n1_; have BK101 := n2_; have HB := n3_; have BK124 := n4_; have GW124 := n5_; have GE124 := n6_; have NB101_124 := n7_; have NB124_101 := n8_; clear n0_ n1_ n2_ n3_ n4_ n5_ n6_ n7_ n8_; clear hb hbox hg; have hnb52 := NB124_101.out; have hnc52 := NB101_124.out; have hcz53_0 : w51.cell? ⟨gb124, 0, none⟩ = some (.int .i64 0) := (blk_cell BK124.out 0).trans rfl; have hcz53_1 : w51.cell? ⟨gb124, 1, none⟩ = some (.int .i64 0) := (blk_cell BK124.out 1).trans rfl; have hfz53_0 := blk_frozen BK124.out 0; have hfz53_1 := blk_frozen BK124.out 1))
                     have n0_ : Aside0 (Kd.S (Kd.slice 3 (Kd.int .i64)) 26 ((w51.setCell ⟨gb124, 0, none⟩ (.int .i64 ((rd_T75 x8_3 x71_4).f0))).setCell ⟨gb124, 1, none⟩ (.int .i64 ((rd_T75 x8_3 x71_4).f1))) w.heap.size (fun _ => True) (.slice Ao10 x4_4.length co10) x4_4) := ⟨by (with_reducible repeat (first | apply Kd.S_alloc | apply Kd.S_drewN | apply Kd.S_drew)); exact Kd.S_mono (Kd.S_far (p := ⟨gb124, 1, none⟩) (Kd.S_far (p := ⟨gb124, 0, none⟩) (Kd.S_types HO_4.out BK124.out (by decide)) (fun _ hk => hk.2) (.int .i64 ((rd_T75 x8_3 x71_4).f0))) (fun _ hk => hk.2) (.int .i64 ((rd_T75 x8_3 x71_4).f1))) (fun _ hk => trivial)⟩
                     have n1_ : Aside0 (Kd.R k75 75 ((w51.setCell ⟨gb124, 0, none⟩ (.int .i64 ((rd_T75 x8_3 x71_4).f0))).setCell ⟨gb124, 1, none⟩ (.int .i64 ((rd_T75 x8_3 x71_4).f1))) w.heap.size (fun k_ => k_ ≠ gb124) (.slice (some ad123) x8_3.length co42) x8_3) := ⟨by (with_reducible repeat (first | apply Kd.R_alloc | apply Kd.R_drewN | apply Kd.R_drew)); exact Kd.R_mono (Kd.R_far (p := ⟨gb124, 1, none⟩) (Kd.R_far (p := ⟨gb124, 0, none⟩) (Kd.R_mono HO_69.out (fun k_ hk => (⟨hk, hk.2⟩ : _ ∧ k_ ≠ gb124))) (fun _ hk => hk.2) (.int .i64 ((rd_T75 x8_3 x71_4).f0))) (fun _ hk => hk.2) (.int .i64 ((rd_T75 x8_3 x71_4).f1))) (fun _ hk => hk.1.2)⟩
                     have n2_ : Aside0 (((w51.setCell ⟨gb124, 0, none⟩ (.int .i64 ((rd_T75 x8_3 x71_4).f0))).setCell ⟨gb124, 1, none⟩ (.int .i64 ((rd_T75 x8_3 x71_4).f1))).heap[gb101]? = some (.cells #[.slice A0_0 l0_0.length c0_0] 72 (0, 0))) := ⟨by (with_reducible repeat (first | refine blk_drewN ?_ _ | refine blk_drew ?_ | refine blk_alloc ?_ _)); refine blk_far ?_ NB101_124.out _; (with_reducible repeat (first | refine blk_drewN ?_ _ | refine blk_drew ?_ | refine blk_alloc ?_ _)); refine blk_far ?_ NB101_124.out _; (with_reducible repeat (first | refine blk_drewN ?_ _ | refine blk_drew ?_ | refine blk_alloc ?_ _)); exact BK101.out⟩
                     have n3_ : Aside0 (((w51.setCell ⟨gb124, 0, none⟩ (.int .i64 ((rd_T75 x8_3 x71_4).f0))).setCell ⟨gb124, 1, none⟩ (.int .i64 ((rd_T75 x8_3 x71_4).f1))).heap[gb124]? = some (.cells #[.int .i64 ((rd_T75 x8_3 x71_4).f0), .int .i64 ((rd_T75 x8_3 x71_4).f1)] 75 (0, 0))) := ⟨by (with_reducible repeat (first | refine blk_drewN ?_ _ | refine blk_drew ?_ | refine blk_alloc ?_ _)); refine blk_put (cs := #[.int .i64 ((rd_T75 x8_3 x71_4).f0), .int .i64 0]) ?_ 1 _ rfl; (with_reducible repeat (first | refine blk_drewN ?_ _ | refine blk_drew ?_ | refine blk_alloc ?_ _)); refine blk_put (cs := #[.int .i64 0, .int .i64 0]) ?_ 0 _ rfl; (with_reducible repeat (first | refine blk_drewN ?_ _ | refine blk_drew ?_ | refine blk_alloc ?_ _)); exact BK124.out⟩
                     have n4_ : Aside0 (Below w.heap.size w ((w51.setCell ⟨gb124, 0, none⟩ (.int .i64 ((rd_T75 x8_3 x71_4).f0))).setCell ⟨gb124, 1, none⟩ (.int .i64 ((rd_T75 x8_3 x71_4).f1)))) := ⟨by repeat (first | (with_reducible first | exact HB.out | apply below_alloc | apply pw_below_drewN | apply below_drew1 | refine below_set ?_ GE124.out) | exact HB.out)⟩
                     (try clear HO_4)
                     (try clear HO_69)
                     (try clear BK101)
                     (try clear BK124)
                     (try clear HB)
                     generalize ((w51.setCell ⟨gb124, 0, none⟩ (.int .i64 ((rd_T75 x8_3 x71_4).f0))).setCell ⟨gb124, 1, none⟩ (.int .i64 ((rd_T75 x8_3 x71_4).f1))) = w54 at n0_ n1_ n2_ n3_ n4_ ⊢
                     have HO_4 := n0_
                     have HO_69 := n1_
                     have BK101 := n2_
                     have BK124 := n3_
                     have HB := n4_
                     clear n0_ n1_ n2_ n3_ n4_
                     have n0_ := Aside0.mk (Kd.S_drew HO_4.out)
                     have n1_ := Aside0.mk (Kd.R_drew HO_69.out)
                     have n2_ := Aside0.mk (blk_drew BK101.out)
                     have n3_ := Aside0.mk (blk_drew BK124.out)
                     have n4_ := Aside0.mk (below_drew1 HB.out)
                     clear HO_4
                     clear HO_69
                     clear BK101
                     clear BK124
                     clear HB
                     have HO_4 := n0_
                     have HO_69 := n1_
                     have BK101 := n2_
                     have BK124 := n3_
                     have HB := n4_
                     clear n0_ n1_ n2_ n3_ n4_
                     have p125 : 0 ≤ (((rd_T75 x8_3 x71_4).f0) : Int) := of_decide_eq_true (by first | (with_reducible assumption) | assumption)
                     have q125 : ((rd_T75 x8_3 x71_4).f0) < (x4_4.length : Int) := of_decide_eq_true (by first | (with_reducible assumption) | assumption)
                     obtain ⟨ad125, A125_0, c125_0, e125, hx125_0, hl125_0, hi125_0⟩ := at_L2 (Kd.S_reads' HO_4.out).2.2 ((rd_T75 x8_3 x71_4).f0) p125 q125
                     cases e125
                     obtain ⟨ce125, hce125, hMe125, hcc125⟩ := Kd.S_get HO_4.out [] ((rd_T75 x8_3 x71_4).f0) p125 (by first | exact q125 | exact of_decide_eq_true (by first | (with_reducible assumption) | assumption) | (have e_ := (Kd.S_reads' HO_4.out).1; omega))
                     obtain ⟨ve125_0, rfl, ge125_0⟩ := hMe125
                     have hv125_0 := hcc125 0 _ rfl
                     rw [Nat.add_zero, show ((Kd.slice 3 (Kd.int .i64))).sz = 1 from rfl, Nat.mul_one] at hv125_0
                     replace hv125_0 := Option.some.inj (hv125_0.symm.trans hx125_0)
                     rw [hv125_0] at ge125_0
                     have HL125_0 := Aside0.mk (show Kd.R (Kd.int .i64) 3 _ _ _ _ (rd_L2 x4_4 ((rd_T75 x8_3 x71_4).f0)) from ge125_0)
                     clear hv125_0 ge125_0
                     have HX125_0 := Aside0.mk hx125_0
                     clear hcc125 hce125
                     have HR125_0 := Aside0.mk hi125_0
                     have HC125_0 := Aside0.mk hl125_0
                     clear hi125_0 hl125_0
                     replace p125 := eq_true p125
                     replace q125 := eq_true q125
                     have p50 : 0 ≤ (((rd_T75 x8_3 x71_4).f1) : Int) := of_decide_eq_true (by first | (with_reducible assumption) | assumption)
                     have q50 : (((rd_T75 x8_3 x71_4).f1) : Int) < (((rd_L2 x4_4 ((rd_T75 x8_3 x71_4).f0)).length : Int) : Int) := of_decide_eq_true (by first | (with_reducible assumption) | assumption)
                     obtain ⟨go50, co50, eo50, gb50, gl50, cl50, HG50⟩ := Kd.R_form HL125_0.out (by omega)
                     (first | cases eo50 | (injection eo50 with ea_ en_ ec_; (first | subst ea_ | (injection ea_ with ea_; subst ea_)); subst ec_; clear en_))
                     have GB50 := Aside0.mk gb50
                     have GG50 := Aside0.mk HG50
                     clear gb50 gl50 HG50
                     obtain ⟨hx50_0, hf50_0⟩ := Kd.R_celln 0 HL125_0.out (((rd_T75 x8_3 x71_4).f1) : Int) p50 q50
                     replace p50 := eq_true p50
                     replace q50 := eq_true q50
                     have hq56 : (((rd_T75 x8_3 x71_4).f0) : Int) < (x4_4.length : Int) := (by have h_ : (((rd_T75 x8_3 x71_4).f0) : Int) < ((x4_4.length : Int) : Int) := of_decide_eq_true (by first | (with_reducible assumption) | assumption); first | exact h_ | (have e_ := (Kd.S_reads' HO_4.out).1; omega) | simpa only [List.length_set, List.length_set] using h_)
                     obtain ⟨oki56, ce56, hcl56, hM56, hcc56, hok56, hbk56⟩ := Kd.S_borrow HO_4.out [] (((rd_T75 x8_3 x71_4).f0) : Int) (of_decide_eq_true (by first | (with_reducible assumption) | assumption)) hq56
                     obtain ⟨ve56_0, rfl, ge56_0⟩ := hM56
                     have hv56 := hcc56 0 _ rfl
                     rw [Nat.add_zero, show ((Kd.slice 3 (Kd.int .i64))).sz = 1 from rfl, Nat.mul_one] at hv56
                     replace hv56 := Option.some.inj (hv56.symm.trans HX125_0.out)
                     subst hv56
                     clear hcc56 hcl56
                     replace ge56_0 := (show Kd.R (Kd.int .i64) 3 _ _ _ _ (rd_L2 x4_4 ((rd_T75 x8_3 x71_4).f0)) from ge56_0)
                     have HP56 := Kd.R_putg ge56_0 (((rd_T75 x8_3 x71_4).f1) : Int) x6_2
                     rw [← Ny126.out] at HP56
                     have HS56 := hbk56 HP56.2 (fun k_ e_ => by injection e_ with e_; subst e_; exact ge56_0.1 _ rfl) (x' := y126) (Kd.M_row HP56.1)
                     rw [← Ny128.out] at HS56
                     have HQ56 := Aside0.mk HS56
                     clear HP56 HS56 hbk56 hok56
                     refine start_ (n := 10) (S := fun w' => w'.cell? ⟨gb124, 0, none⟩ = some (.int .i64 ((rd_T75 x8_3 x71_4).f0)) ∧ w'.cell? ⟨gb124, 1, none⟩ = some (.int .i64 ((rd_T75 x8_3 x71_4).f1)) ∧ w'.cell? (ad125.add (((rd_T75 x8_3 x71_4).f0)).toNat) = some (.slice (some ⟨go50, 0, none⟩) (rd_L2 x4_4 ((rd_T75 x8_3 x71_4).f0)).length c125_0)) (ds := [9]) #[false, false, false, false, false, false, false, false, false, false] (by kernel_rfl) rfl rfl ⟨(blk_cell BK124.out 0).trans rfl, (blk_cell BK124.out 1).trans rfl, hx125_0⟩ (fun hHeld => ?_); refine with_tabW impl_net_copTimes.tab27 impl_net_copTimes.bits27 (fun HT_ HW_ => ?_)
                     generalize w54.drew = w55 at HO_4 HO_69 BK101 BK124 HB GG50 HL125_0 HQ56 HR125_0 HX125_0 hf50_0 hx125_0 hx50_0 hHeld ⊢
                     refine pure_ (i := 0) (N := some 75) (v := ?_) (a' := ?_) #[true, false, false, false, false, false, false, false, false, false] rfl rfl (any_of HT_.out (by kernel_rfl)) (fun _ _ _ h => h) (Or.inl ⟨by rfl, ?_⟩) ?_ ?_
                     rotate_left
                     ·intro w'
                      go_simp
                      with_reducible rfl
                     rotate_left
                     ·simp only [Act.put, List.setIfInBounds_toArray, List.set_cons_zero, List.set_cons_succ, i64_w, i32_w]
                      rfl
                     refine pure_ (i := 1) (N := some 76) (v := ?_) (a' := ?_) #[true, true, false, false, false, false, false, false, false, false] rfl rfl (any_of HT_.out (by kernel_rfl)) (fun _ _ _ h => h) (Or.inl ⟨by rfl, ?_⟩) ?_ ?_
                     rotate_left
                     ·intro w'
                      go_simp
                      with_reducible rfl
                     rotate_left
                     ·simp only [Act.put, List.setIfInBounds_toArray, List.set_cons_zero, List.set_cons_succ, i64_w, i32_w]
                      rfl
                     refine pure_ (i := 5) (N := some 80) (v := ?_) (a' := ?_) #[true, true, false, false, false, true, false, false, false, false] rfl rfl (any_of HT_.out (by kernel_rfl)) (fun _ _ _ h => h) (Or.inl ⟨by rfl, ?_⟩) ?_ ?_
                     rotate_left
                     ·intro w'
                      go_simp
                      with_reducible rfl
                     rotate_left
                     ·simp only [Act.put, List.setIfInBounds_toArray, List.set_cons_zero, List.set_cons_succ, i64_w, i32_w]
                      rfl
                     refine pure_ (i := 7) (N := some 82) (v := ?_) (a' := ?_) #[true, true, false, false, false, true, false, true, false, false] rfl rfl (any_of HT_.out (by kernel_rfl)) (fun _ _ _ h => h) (Or.inl ⟨by rfl, ?_⟩) ?_ ?_
                     rotate_left
                     ·intro w'
                      go_simp
                      with_reducible rfl
                     rotate_left
                     ·simp only [Act.put, List.setIfInBounds_toArray, List.set_cons_zero, List.set_cons_succ, i64_w, i32_w]
                      rfl
                     refine take_ (i := 2) (N := some 77) (v := ?_) (a' := ?_) #[true, true, true, false, false, true, false, true, false, false] rfl rfl (take_ofW HT_.out HW_.out (by kernel_rfl)) (fun _ _ _ h => h) (Or.inl ⟨by rfl, ?_⟩) hHeld ?_ ?_
                     rotate_left
                     ·rintro w' ⟨s0, s1, s2⟩
                      go_simp
                      with_reducible rfl
                     rotate_left
                     ·simp only [Act.put, List.setIfInBounds_toArray, List.set_cons_zero, List.set_cons_succ, i64_w, i32_w]
                      rfl
                     refine pure_ (i := 3) (N := some 78) (v := ?_) (a' := ?_) #[true, true, true, true, false, true, false, true, false, false] rfl rfl (any_of HT_.out (by kernel_rfl)) (fun _ _ _ h => h) (Or.inl ⟨by rfl, ?_⟩) ?_ ?_
                     rotate_left
                     ·intro w'
                      go_simp
                      with_reducible rfl
                     rotate_left
                     ·simp only [Act.put, List.setIfInBounds_toArray, List.set_cons_zero, List.set_cons_succ, i64_w, i32_w]
                      rfl
                     refine take_ (i := 4) (N := some 79) (v := ?_) (a' := ?_) #[true, true, true, true, true, true, false, true, false, false] rfl rfl (take_ofW HT_.out HW_.out (by kernel_rfl)) (fun _ _ _ h => h) (Or.inl ⟨by rfl, ?_⟩) hHeld ?_ ?_
                     rotate_left
                     ·rintro w' ⟨s0, s1, s2⟩
                      go_simp
                      with_reducible rfl
                     rotate_left
                     ·simp only [Act.put, List.setIfInBounds_toArray, List.set_cons_zero, List.set_cons_succ, i64_w, i32_w]
                      rfl
                     refine take_ (i := 6) (N := some 81) (v := ?_) (a' := ?_) #[true, true, true, true, true, true, true, true, false, false] rfl rfl (take_ofW HT_.out HW_.out (by kernel_rfl)) (fun _ _ _ h => h) (Or.inl ⟨by rfl, ?_⟩) hHeld ?_ ?_
                     rotate_left
                     ·rintro w' ⟨s0, s1, s2⟩
                      go_simp
                      with_reducible rfl
                     rotate_left
                     ·simp only [Act.put, List.setIfInBounds_toArray, List.set_cons_zero, List.set_cons_succ, i64_w, i32_w]
                      rfl
                     refine pure_ (i := 8) (N := some 83) (v := ?_) (a' := ?_) #[true, true, true, true, true, true, true, true, true, false] rfl rfl (any_of HT_.out (by kernel_rfl)) (fun _ _ _ h => h) (Or.inl ⟨by rfl, ?_⟩) ?_ ?_
                     rotate_left
                     ·intro w'
                      go_simp
                      with_reducible rfl
                     rotate_left
                     ·simp only [Act.put, List.setIfInBounds_toArray, List.set_cons_zero, List.set_cons_succ, i64_w, i32_w]
                      rfl
                     refine last_ (i := 9) (N := none) #[true, true, true, true, true, true, true, true, true, true] rfl rfl (one_of HT_.out (by kernel_rfl)) (by decide) (fun K hK => ?_)
                     refine skip_ (w1 := ?_) (by rfl) rfl ?_ ?_
                     rotate_left
                     ·go_simp
                      rfl
                     refine hK.out _ _ ?_
                     clear hK K
                     refine done_ (done_of HT_.out (by kernel_rfl)) ?_
                     try go_wp2
                     (try simp only [← hl4_4])
                     go_roundg k4
                     case measure => have := HK1.out; have := HK2.out; have := HK3.out; have := HK4.out; omega
                     case rel => exact ⟨(y128), (true), (wrap64 (x71_4 + 1)), (by first | rfl | (simp; done) | (simp [*]; done)), (by first | rfl | (simp; done) | (simp [*]; done)), H', ⟨by have := HK1.out; have := HK2.out; have := HK3.out; have := HK4.out; omega⟩, ⟨by (try simp only [hl4_1]); (try simp only [hl4_2]); (try simp only [hl4_4]); (with_reducible repeat (first | apply Kd.S_alloc | apply Kd.S_drewN | apply Kd.S_drew)); exact HQ56.out⟩, ⟨by (try simp only [hl4_1]); (try simp only [hl4_2]); (try simp only [hl4_4]); (with_reducible repeat (first | apply Kd.R_alloc | apply Kd.R_drewN | apply Kd.R_drew)); exact Kd.R_mono (Kd.R_far (p := ⟨go50, (((rd_T75 x8_3 x71_4).f1) : Int).toNat, none⟩) (Kd.R_types HO_69.out GG50.out (by decide)) (fun _ hk => hk.2) (.int .i64 x6_2)) (fun _ hk => trivial)⟩, ⟨by (try simp only [hl4_1]); (try simp only [hl4_2]); (try simp only [hl4_4]); (with_reducible repeat (first | refine blk_drewN ?_ _ | refine blk_drew ?_ | refine blk_alloc ?_ _)); refine blk_far ?_ (by have h_ := Kd.R_ne HL125_0.out BK101.out (by decide); intro e_; exact h_ (by rw [e_]; rfl)) _; (with_reducible repeat (first | refine blk_drewN ?_ _ | refine blk_drew ?_ | refine blk_alloc ?_ _)); exact BK101.out⟩, ⟨by repeat (first | (with_reducible first | exact HB.out | apply below_alloc | apply pw_below_drewN | apply below_drew1 | refine below_set ?_ GB50.out) | exact HB.out)⟩⟩
                    ·rw [if_neg c49] at H
                     exact absurd H (by simp)
                   ·rw [if_neg c48] at H
                    exact absurd H (by simp)
                  ·rw [if_neg c47] at H
                   exact absurd H (by simp)
                 ·rw [if_neg c46] at H
                  exact absurd H (by simp)
                ·rw [if_neg c45] at H
                 exact absurd H (by simp)
               ·rw [if_neg c44] at H
                exact absurd H (by simp)
              ·rw [if_neg c43] at H
               have c43b0 : decide (x71_4 < (x8_3.length : Int)) = false := decide_eq_false c43
               clear c43
               have H' := Aside0.mk H
               clear H
               go_wp2
               (try simp only [← hl4_2, ← hl4_4])
               go_roundg k4
               case measure => have := HK1.out; have := HK2.out; have := HK3.out; have := HK4.out; omega
               case rel => exact ⟨(x4_4), (wrap64 (x6_2 + 1)), (x7_4), (by first | rfl | (simp; done) | (simp [*]; done)), (by first | rfl | (simp; done) | (simp [*]; done)), H', ⟨by have := HK1.out; have := HK2.out; have := HK3.out; have := HK4.out; omega⟩, ⟨by (try simp only [hl4_1]); (try simp only [hl4_2]); (try simp only [hl4_4]); (with_reducible repeat (first | apply Kd.S_alloc | apply Kd.S_drewN | apply Kd.S_drew)); exact HO_4.out⟩, ⟨by (try simp only [hl4_1]); (try simp only [hl4_2]); (try simp only [hl4_4]); (with_reducible repeat (first | refine blk_drewN ?_ _ | refine blk_drew ?_ | refine blk_alloc ?_ _)); exact BK101.out⟩, ⟨by repeat (first | (with_reducible first | exact HB.out | apply below_alloc | apply pw_below_drewN | apply below_drew1) | exact HB.out)⟩⟩
        ·replace c26 := Bool.eq_false_iff.mpr c26
         subst c26
         have H1 : (some x4_2) = some r := by rw [if_neg (show ¬ (false = true) by decide)] at H; exact H
         clear H
         have H := H1
         clear H1
         obtain rfl := Option.some.inj H
         go_wp2
         go_ret
         exact ⟨_, by first | rfl | (simp [errW_none, errW_some] <;> rfl) | (simp [*, errW_none, errW_some] <;> rfl), by (with_reducible repeat (first | apply Kd.S_alloc | apply Kd.S_drewN | apply Kd.S_drew)); exact HO_4.out, by repeat (first | (with_reducible first | exact HB.out | apply below_alloc | apply pw_below_drewN | apply below_drew1) | exact HB.out)⟩
  ·rw [if_neg c4] at H
   exact absurd H (by simp)
 ·rw [if_neg c3] at H
  exact absurd H (by simp)

end Go.Proofs.Ytmbgpbanbffchaa.P
