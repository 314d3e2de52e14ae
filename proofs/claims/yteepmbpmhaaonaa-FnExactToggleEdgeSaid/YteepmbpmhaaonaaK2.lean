/- Functions of the program as Lean functions, that each call comes to what they say, and what holds of them; part 2 of 6; no conditions beyond those that each theorem names. -/
import Derived.ChangeKeysEq
import Derived.Test.YteepmbpmhaaonaaK1
namespace Go.Proofs.Yteepmbpmhaaonaa.P
open Go.RowKit Go.Proofs.YteepmbpmhaaonaaW.PrintWords Go.Proofs.YteepmbpmhaaonaaW.PrintLast Go.Proofs.YteepmbpmhaaonaaW.PrintMore
attribute [local go_sem] max2_int min2_int max_two min_two max_three min_three max_four min_four   -- for this text's walks alone
set_option linter.unusedVariables false
set_option linter.unusedSimpArgs false
/-! ### laws_szIntA2S: function 51 -/
def laws_szIntA2S.f (l0 : List (S65)) (a1 : Int) : Option (Int) := if (wrap64 (a1 - (l0.length : Int))) < 0 then (some (-1)) else (some (wrap64 (a1 - (l0.length : Int))))
set_option maxHeartbeats 8000000 in
set_option maxRecDepth 100000 in
theorem laws_szIntA2S.calls (A0 : Option Addr) (c0 : Nat) (l0 : List (S65)) (a1 : Int) (r : Int) (w : World) (hr0 : Kd.C k65 w A0 l0.length l0) (hc0 : l0.length ≤ c0) (h : laws_szIntA2S.f l0 a1 = some r) :
  Calls Try.prog 51 #[.slice A0 l0.length c0, .int .i64 a1] w fun e w' => e = .returned (.int .i64 r) ∧ Drawn0 w w' := by
 have HR0 := Aside0.mk hr0
 have HC0 := Aside0.mk hc0
 clear hr0 hc0
 have H : (if (wrap64 (a1 - (l0.length : Int))) < 0 then (some (-1)) else (some (wrap64 (a1 - (l0.length : Int))))) = some r := h
 clear h
 by_cases c3 : (wrap64 (a1 - (l0.length : Int))) < 0
 ·rw [if_pos c3] at H
  have c3b0 : decide ((wrap64 (a1 - (l0.length : Int))) < 0) = true := decide_eq_true c3; clear c3; obtain rfl := Option.some.inj H
  go_enter Try.func51, Try.ntmps51
  go_wp2
  go_ret
  exact ⟨Q10, Q13⟩
 ·rw [if_neg c3] at H
  have c3b0 : decide ((wrap64 (a1 - (l0.length : Int))) < 0) = false := decide_eq_false c3; clear c3; obtain rfl := Option.some.inj H
  go_enter Try.func51, Try.ntmps51
  go_wp2
  go_ret
  exact ⟨Q10, Q13⟩
/-! ### laws_szGraph: function 15 -/
def laws_szGraph.f (a0_0 : Int) (l0_1 : List (S65)) (a1 : Int) : Option (Int) := (laws_szIntA2S.f l0_1 a1).bind fun t102 => (if t102 < 0 then (some (-1)) else (some t102))
set_option maxHeartbeats 8000000 in
set_option maxRecDepth 100000 in
theorem laws_szGraph.calls (a0_0 : Int) (A0_1 : Option Addr) (c0_1 : Nat) (l0_1 : List (S65)) (a1 : Int) (r : Int) (w : World) (hr0_1 : Kd.C k65 w A0_1 l0_1.length l0_1) (hc0_1 : l0_1.length ≤ c0_1) (h : laws_szGraph.f a0_0 l0_1 a1 = some r) :
  Calls Try.prog 15 #[.agg #[.int .i64 a0_0, .slice A0_1 l0_1.length c0_1], .int .i64 a1] w fun e w' => e = .returned (.int .i64 r) ∧ Below w.heap.size w w' := by
 have hu24 := Try.underlying24
 have HR0_1 := Aside0.mk hr0_1
 have HC0_1 := Aside0.mk hc0_1
 clear hr0_1 hc0_1
 have HB := am (Below.refl w.heap.size w)
 have H : ((laws_szIntA2S.f l0_1 a1).bind fun t102 => (if t102 < 0 then (some (-1)) else (some t102))) = some r := h
 clear h
 replace H := (ob H)
 obtain ⟨t102, A30, H⟩ := H
 (try dsimp only at H)
 have A3 := Aside0.mk A30
 clear A30
 have HU4 := Aside0.mk H
 clear H
 go_enter Try.func15, Try.ntmps15
 go_upto_if 10 with (first | ((with_reducible refine gate_dst (N := 2) rfl ?_); refine box_event ?hg (N := 2) ?hd (cs := #[.int .i64 a0_0, .slice A0_1 l0_1.length c0_1]) (t := 24) ?hr ?_; (case hd => rfl); (case hg => rfl); (case hr => first | (go_simp; done) | (go_simp; rfl)); intro gb101 hg w5 hbox hb; have BK101 := am (hbox); have GW101 := am ((Q25 : w.heap.size ≤ gb101)); have GE101 := am ((Q25 : w.heap.size ≤ gb101)); replace HB := am (below_step (Q1 HB) hb); clear hb hbox hg; have hcz6_0 : w5.cell? ⟨gb101, 0, none⟩ = some (.int .i64 a0_0) := (blk_cell BK101.out 0).trans rfl; have hcz6_1 : w5.cell? ⟨gb101, 1, none⟩ = some (.slice A0_1 l0_1.length c0_1) := (blk_cell BK101.out 1).trans rfl; have hfz6_0 := blk_frozen BK101.out 0; have hfz6_1 := blk_frozen BK101.out 1) | ((with_reducible refine gate_callee (f := 51) rfl ?_); refine goesL_ (some 8) rfl rfl Try.func51 (by kernel_rfl) rfl #[.slice A0_1 l0_1.length c0_1, .int .i64 a1] rfl Q4 ?_; (with_reducible refine (laws_szIntA2S.calls _ _ l0_1 a1 t102 _ ?side1 ?side2 A3.out).mono ?_); (case side1 => exact (Q7 HR0_1 HB)); (case side2 => exact HC0_1.out); rintro e w' ⟨rfl, ⟨nd, rfl⟩⟩; refine ⟨_, rfl, ?_⟩))
 (try simp only [Act.put, List.setIfInBounds_toArray, List.set_cons_zero, List.set_cons_succ])
 have H := HU4.out
 clear HU4
 by_cases c7 : t102 < 0
 ·rw [if_pos c7] at H
  have c7b0 : decide (t102 < 0) = true := decide_eq_true c7; clear c7
  (first | rw [c7b0] | (simp only [i64_w, i32_w]; rw [c7b0]) | skip)
  obtain rfl := Option.some.inj H
  go_wp2
  go_ret
  exact ⟨Q9, Q1 HB⟩
 ·rw [if_neg c7] at H
  have c7b0 : decide (t102 < 0) = false := decide_eq_false c7; clear c7
  (first | rw [c7b0] | (simp only [i64_w, i32_w]; rw [c7b0]) | skip)
  obtain rfl := Option.some.inj H
  go_wp2
  go_ret
  exact ⟨Q9, Q1 HB⟩
/-! ### laws_toIntA2: function 98 -/
def laws_toIntA2.f (a0_0 : Int) (a0_1 : Int) : Option (Int × Int) := some (a0_0, a0_1)
set_option maxHeartbeats 8000000 in
set_option maxRecDepth 100000 in
theorem laws_toIntA2.calls (a0_0 : Int) (a0_1 : Int) (r1 : Int) (r2 : Int) (w : World) (h : laws_toIntA2.f a0_0 a0_1 = some (r1, r2)) :
  Calls Try.prog 98 #[.agg #[.int .i64 a0_0, .int .i64 a0_1]] w fun e w' => e = .returned (.agg #[.int .i64 r1, .int .i64 r2]) ∧ Below w.heap.size w w' := by
 have hu65 := Try.underlying65
 have HB := am (Below.refl w.heap.size w)
 have H : (some (a0_0, a0_1)) = some (r1, r2) := h
 clear h
 have HU2 := Aside0.mk H
 clear H
 go_enter Try.func98, Try.ntmps98
 go_wp2_with (first | ((with_reducible refine gate_dst (N := 1) rfl ?_); refine box_event ?hg (N := 1) ?hd (cs := #[.int .i64 a0_0, .int .i64 a0_1]) (t := 65) ?hr ?_; (case hd => rfl); (case hg => rfl); (case hr => first | (go_simp; done) | (go_simp; rfl)); intro gb101 hg w3 hbox hb; have BK101 := am (hbox); have GW101 := am ((Q25 : w.heap.size ≤ gb101)); have GE101 := am ((Q25 : w.heap.size ≤ gb101)); replace HB := am (below_step (Q1 HB) hb); clear hb hbox hg) | ((with_reducible refine gate_dst (N := 2) rfl ?_); refine box_event ?hg (N := 2) ?hd (cs := #[.int .i64 0, .int .i64 0]) (t := 65) ?hr ?_; (case hd => rfl); (case hg => rfl); (case hr => first | (go_simp; done) | (go_simp; rfl)); intro gb102 hg w4 hbox hb; have BK102 := am (hbox); have GW102 := am ((Q25 : w.heap.size ≤ gb102)); have GE102 := am ((Q25 : w.heap.size ≤ gb102)); replace HB := am (below_step (Q1 HB) hb); have NB101_102 := am ((Q33 : gb101 ≠ gb102)); have NB102_101 := am ((Q34 : gb102 ≠ gb101)); replace BK101 := am (blk_below (g := gb101) (o := .cells #[.int .i64 a0_0, .int .i64 a0_1] 65 (0, 0)) (Q0 BK101) hb); clear hb hbox hg) | ((with_reducible refine gate_dst (N := 3) rfl ?_); refine box_event ?hg (N := 3) ?hd (cs := #[.int .i64 0, .int .i64 0]) (t := 65) ?hr ?_; (case hd => rfl); (case hg => rfl); (case hr => first | (go_simp; done) | (go_simp; rfl)); intro gb103 hg w5 hbox hb; have BK103 := am (hbox); have GW103 := am ((Q25 : w.heap.size ≤ gb103)); have GE103 := am ((Q25 : w.heap.size ≤ gb103)); replace HB := am (below_step (Q1 HB) hb); have NB101_103 := am ((Q33 : gb101 ≠ gb103)); have NB103_101 := am ((Q34 : gb103 ≠ gb101)); replace BK101 := am (blk_below (g := gb101) (o := .cells #[.int .i64 a0_0, .int .i64 a0_1] 65 (0, 0)) (Q0 BK101) hb); have NB102_103 := am ((by rw [hg]; exact Nat.ne_of_lt (blk_lt (g := gb102) (o := .cells #[.int .i64 0, .int .i64 0] 65 (0, 0)) (Q0 BK102)) : gb102 ≠ gb103)); have NB103_102 := am ((by rw [hg]; exact Nat.ne_of_gt (blk_lt (g := gb102) (o := .cells #[.int .i64 0, .int .i64 0] 65 (0, 0)) (Q0 BK102)) : gb103 ≠ gb102)); replace BK102 := am (blk_below (g := gb102) (o := .cells #[.int .i64 0, .int .i64 0] 65 (0, 0)) (Q0 BK102) hb); clear hb hbox hg))
 refine wp_loop_rounds 3 ?_
 (try simp only [Exit.then])
 rw [rounds_succ]
 have H := HU2.out
 clear HU2
 have HU6 := Aside0.mk H
 clear H
 have hnb7 := NB101_102.out
 have hnc7 := NB102_101.out
 have hnb8 := NB101_103.out
 have hnc8 := NB103_101.out
 have hcz9_0 : w5.cell? ⟨gb101, 0, none⟩ = some (.int .i64 a0_0) := (blk_cell BK101.out 0).trans rfl
 have hcz9_1 : w5.cell? ⟨gb101, 1, none⟩ = some (.int .i64 a0_1) := (blk_cell BK101.out 1).trans rfl
 have hfz9_0 := blk_frozen BK101.out 0
 have hfz9_1 := blk_frozen BK101.out 1
 have hnb10 := NB103_102.out
 have hnc10 := NB102_103.out
 have hcz11_0 : w5.cell? ⟨gb103, 0, none⟩ = some (.int .i64 0) := (blk_cell BK103.out 0).trans rfl
 have hcz11_1 : w5.cell? ⟨gb103, 1, none⟩ = some (.int .i64 0) := (blk_cell BK103.out 1).trans rfl
 have hfz11_0 := blk_frozen BK103.out 0
 have hfz11_1 := blk_frozen BK103.out 1
 go_wp2
 (try simp only [Exit.then])
 rw [rounds_succ]
 have H := HU6.out
 clear HU6
 have HU12 := Aside0.mk H
 clear H
 have hnb13 := NB101_102.out
 have hnc13 := NB102_101.out
 have hnb14 := NB101_103.out
 have hnc14 := NB103_101.out
 have hcz15_0 : w5.cell? ⟨gb101, 0, none⟩ = some (.int .i64 a0_0) := (blk_cell BK101.out 0).trans rfl
 have hcz15_1 : w5.cell? ⟨gb101, 1, none⟩ = some (.int .i64 a0_1) := (blk_cell BK101.out 1).trans rfl
 have hfz15_0 := blk_frozen BK101.out 0
 have hfz15_1 := blk_frozen BK101.out 1
 have hnb16 := NB103_102.out
 have hnc16 := NB102_103.out
 have hcz17_0 : w5.cell? ⟨gb103, 0, none⟩ = some (.int .i64 0) := (blk_cell BK103.out 0).trans rfl
 have hcz17_1 : w5.cell? ⟨gb103, 1, none⟩ = some (.int .i64 0) := (blk_cell BK103.out 1).trans rfl
 have hfz17_0 := blk_frozen BK103.out 0
 have hfz17_1 := blk_frozen BK103.out 1
 go_wp2
 (try simp only [Exit.then])
 rw [rounds_succ]
 have H := HU12.out
 clear HU12
 simp only [Option.some.injEq, Prod.mk.injEq] at H
 obtain ⟨rfl, rfl⟩ := H
 have hnb18 := NB103_101.out
 have hnc18 := NB101_103.out
 have hnb19 := NB103_102.out
 have hnc19 := NB102_103.out
 have hcz20_0 : w5.cell? ⟨gb103, 0, none⟩ = some (.int .i64 0) := (blk_cell BK103.out 0).trans rfl
 have hcz20_1 : w5.cell? ⟨gb103, 1, none⟩ = some (.int .i64 0) := (blk_cell BK103.out 1).trans rfl
 have hfz20_0 := blk_frozen BK103.out 0
 have hfz20_1 := blk_frozen BK103.out 1
 have hnb21 := NB102_101.out
 have hnc21 := NB101_102.out
 have hcz22_0 : w5.cell? ⟨gb102, 0, none⟩ = some (.int .i64 0) := (blk_cell BK102.out 0).trans rfl
 have hcz22_1 : w5.cell? ⟨gb102, 1, none⟩ = some (.int .i64 0) := (blk_cell BK102.out 1).trans rfl
 have hfz22_0 := blk_frozen BK102.out 0
 have hfz22_1 := blk_frozen BK102.out 1
 go_wp2
 refine bodyPost_ret (results_cell_row rfl _ _ gb102 65 #[.int .i64 a0_0, .int .i64 a0_1] (0, 0) _ rfl (by (with_reducible repeat (first | refine blk_drewN ?_ _ | refine blk_drew ?_ | refine blk_alloc ?_ _)); refine blk_put (cs := #[.int .i64 a0_0, .int .i64 0]) ?_ 1 _ rfl; (with_reducible repeat (first | refine blk_drewN ?_ _ | refine blk_drew ?_ | refine blk_alloc ?_ _)); refine blk_put (cs := #[.int .i64 0, .int .i64 0]) ?_ 0 _ rfl; (with_reducible repeat (first | refine blk_drewN ?_ _ | refine blk_drew ?_ | refine blk_alloc ?_ _)); refine blk_far ?_ NB102_103.out _; (with_reducible repeat (first | refine blk_drewN ?_ _ | refine blk_drew ?_ | refine blk_alloc ?_ _)); refine blk_far ?_ NB102_103.out _; (with_reducible repeat (first | refine blk_drewN ?_ _ | refine blk_drew ?_ | refine blk_alloc ?_ _)); exact BK102.out) Try.underlying65 rfl (by kernel_rfl)) rfl ?_
 exact ⟨Q9, Q14 HB GE102 GE103⟩
/-! ### laws_toIntA2S: function 54 -/
def laws_toIntA2S.l0 : Nat → List (S65) → List (S65) → Int → Option ((List (S65)))
 | 0, _, _, _ => none
 | k + 1, x0, x3, x4 => if x4 < (x0.length : Int) then (if 0 ≤ x4 then ((laws_toIntA2.f ((rd_T65 x0 x4).f0) ((rd_T65 x0 x4).f1)).bind fun bt105 => (if x4 < (x3.length : Int) then (laws_toIntA2S.l0 k x0 (x3.set (x4 : Int).toNat (⟨bt105.1, bt105.2⟩ : S65)) (wrap64 (x4 + 1))) else (none))) else (none)) else (some x3)
def laws_toIntA2S.f (k : Nat) (l0 : List (S65)) : Option ((List (S65))) := if 0 ≤ (l0.length : Int) then (if ((l0.length : Int) : Int).toNat ≤ 17592186044416 then (laws_toIntA2S.l0 k l0 (List.replicate ((l0.length : Int) : Int).toNat z65) 0) else (none)) else (none)
theorem laws_toIntA2S.mono_l : ∀ k, (∀ y0 y1 y2, LeO (laws_toIntA2S.l0 k y0 y1 y2) (laws_toIntA2S.l0 (k + 1) y0 y1 y2))
 | 0 => fun _ _ _ r h => by simp [laws_toIntA2S.l0] at h
 | k + 1 => by
  have ih0 := laws_toIntA2S.mono_l k
  all_goals
   intros
   first | unfold laws_toIntA2S.l0
   repeat' first | (with_reducible first | exact ih0 _ _ _ | exact LeO.refl _ | exact LeO.none _ | refine LeO.ite ?_ ?_ | refine LeO.bind ?_ (fun _ => ?_))
theorem laws_toIntA2S.mono : ∀ a0 k, LeO (laws_toIntA2S.f k a0) (laws_toIntA2S.f (k + 1) a0) := by
 intro a0 k
 have ih0 := laws_toIntA2S.mono_l k
 unfold laws_toIntA2S.f
 repeat' first | (with_reducible first | exact ih0 _ _ _ | exact LeO.refl _ | exact LeO.none _ | refine LeO.ite ?_ ?_ | refine LeO.bind ?_ (fun _ => ?_))
set_option maxHeartbeats 8000000 in
set_option maxRecDepth 100000 in
theorem laws_toIntA2S.calls (k : Nat) (A0 : Option Addr) (c0 : Nat) (l0 : List (S65)) (r : List (S65)) (w : World) (hr0 : Kd.C k65 w A0 l0.length l0) (hc0 : l0.length ≤ c0) (h : laws_toIntA2S.f k l0 = some r) :
  Calls Try.prog 54 #[.slice A0 l0.length c0] w fun e w' => ∃ v0_ : Value, e = .returned (v0_) ∧ Kd.R k65 65 w' w.heap.size (fun _ => True) v0_ r ∧ Below w.heap.size w w' := by
 have hu65 := Try.underlying65
 have HR0 := Aside0.mk hr0
 have HC0 := Aside0.mk hc0
 clear hr0 hc0
 have HB := am (Below.refl w.heap.size w)
 have H : (if 0 ≤ (l0.length : Int) then (if ((l0.length : Int) : Int).toNat ≤ 17592186044416 then (laws_toIntA2S.l0 k l0 (List.replicate ((l0.length : Int) : Int).toNat z65) 0) else (none)) else (none)) = some r := h
 clear h
 by_cases c2 : 0 ≤ (l0.length : Int)
 ·rw [if_pos c2] at H
  have c2b0 := eq_true c2; have c2b1 := decide_eq_true c2; clear c2
  by_cases c3 : ((l0.length : Int) : Int).toNat ≤ 17592186044416
  ·rw [if_pos c3] at H
   have c3b0 := eq_true c3; have c3b1 : decide (((l0.length : Int) : Int).toNat ≤ 17592186044416) = true := decide_eq_true c3; clear c3; obtain ⟨y101, hy101⟩ : ∃ y_ : List (S65), y_ = (List.replicate ((l0.length : Int) : Int).toNat z65) := ⟨_, rfl⟩; replace H : (laws_toIntA2S.l0 k l0 y101 0) = some r := RH hy101 H; have Ny101 := Aside0.mk hy101; clear hy101; have H' := Aside0.mk H; clear H
   go_enter Try.func54, Try.ntmps54
   go_wp2_with (first | ((with_reducible refine gate_dst (N := 7) rfl ?_); refine Kd.R_make k65 _ 65 rfl (N := 7) rfl 22 _ _ rfl (l0.length : Int) rfl rfl Try.underlying22 (.agg #[(.int .i64 0), (.int .i64 0)]) 16 info65 rfl (by decide) (by omega) z65 (ok := fun _ => True) (okp := fun _ => True) (k65_mkM _ _ _ z65 ) (fun _ hk => hk) trivial (of_decide_eq_true Q8) (Nat.le_trans (Nat.mul_le_mul_right _ (of_decide_eq_true Q8 : (l0.length : Int).toNat ≤ 17592186044416)) (by omega)) (Below.refl _ _) (Nat.le_refl _) ?_; intro v102 w4 ho5 hb hg_ hnew_; clear hg_ hnew_; (first | rw [← Ny101.out] at ho5 | (simp only [Int.reduceToNat] at ho5; rw [← Ny101.out] at ho5)); have HO103 := am (Kd.R_lower ho5 (below_size (Q1 HB))); replace HB := am (below_step (Q1 HB) hb); clear hb ho5))
   go_loopg [4] k (fun kq v4 w' => ∃ (x3_1 : List (S65)) (x4_1 : Int), v4 = .int .i64 x4_1 ∧ Aside0 (laws_toIntA2S.l0 kq l0 x3_1 x4_1 = some r) ∧ Aside0 (kq ≤ k) ∧ Aside0 (Kd.R k65 65 w' w.heap.size (fun _ => True) v102 x3_1) ∧ Aside0 (Below w.heap.size w w'))
   case atStart => exact ⟨(y101), (0), Q10, H', ⟨Nat.le_refl _⟩, ⟨Q3 HO103⟩, ⟨Q1 HB⟩⟩
   case round =>
    clear H'
    try clear c2
    try clear c2b0
    try clear c2b1
    try clear p2
    try clear c3
    try clear c3b0
    try clear c3b1
    try clear c5
    obtain ⟨x3_1, x4_1, rfl, HA, HK1, HO_3, HB⟩ := hrel
    cases gk with
    | zero => exact absurd HA.out (by simp [laws_toIntA2S.l0])
    | succ k1 =>
     have H := HA.out; clear HA
     simp only [laws_toIntA2S.l0] at H
     by_cases c6 : x4_1 < (l0.length : Int)
     ·rw [if_pos c6] at H
      have c6b0 := decide_eq_true c6; clear c6
      by_cases c7 : 0 ≤ x4_1
      ·rw [if_pos c7] at H
       have c7b0 : decide (0 ≤ x4_1) = true := decide_eq_true c7; clear c7; replace H := (ob H); obtain ⟨⟨t105, t106⟩, A80, H⟩ := H; (try dsimp only at H); have A8 := Aside0.mk A80; clear A80
       by_cases c9 : x4_1 < (x3_1.length : Int)
       ·rw [if_pos c9] at H
        have c9b0 := decide_eq_true c9; clear c9; obtain ⟨y107, hy107⟩ : ∃ y_ : List (S65), y_ = (x3_1.set (x4_1 : Int).toNat (⟨t105, t106⟩ : S65)) := ⟨_, rfl⟩; replace H : (laws_toIntA2S.l0 k1 l0 y107 (wrap64 (x4_1 + 1))) = some r := RH hy107 H; have Ny107 := Aside0.mk hy107; clear hy107; have H' := Aside0.mk H; clear H; have p104 : 0 ≤ (x4_1 : Int) := of_decide_eq_true Q8; have q104 : x4_1 < (l0.length : Int) := of_decide_eq_true Q8; obtain ⟨ad104, e104, hx104_0, hx104_1⟩ := at_T65 HR0.out x4_1 p104 q104
        cases e104
        replace hx104_0 := (HB.out.cell (World.block_lt_of_cell? w _ hx104_0)).trans hx104_0; replace hx104_1 := (HB.out.cell (World.block_lt_of_cell? w _ hx104_1)).trans hx104_1; replace p104 := eq_true p104; replace q104 := eq_true q104
        go_wp2_with (first | ((with_reducible refine gate_callee (f := 98) rfl ?_); refine goesL_ (some 20) rfl rfl Try.func98 (by kernel_rfl) rfl #[.agg #[.int .i64 ((rd_T65 l0 x4_1).f0), .int .i64 ((rd_T65 l0 x4_1).f1)]] rfl Q4 ?_; (with_reducible refine (laws_toIntA2.calls ((rd_T65 l0 x4_1).f0) ((rd_T65 l0 x4_1).f1) t105 t106 _ A8.out).mono ?_); rintro e w11 ⟨rfl, hb⟩; refine ⟨_, rfl, ?_⟩; replace HO_3 := am (Kd.R_below Q51 hb); replace HB := am (below_step (Q1 HB) hb); (try clear hb); (try clear hb2); (try clear hk); (try clear hi); have p10 : 0 ≤ (x4_1 : Int) := of_decide_eq_true Q8; have q10 : (x4_1 : Int) < ((x3_1.length : Int) : Int) := of_decide_eq_true Q8; obtain ⟨go10, co10, eo10, gb10, gl10, cl10, HG10⟩ := Kd.R_form HO_3.out (by omega); (first | cases eo10 | (injection eo10 with ea_ en_ ec_; (first | subst ea_ | (injection ea_ with ea_; subst ea_)); subst ec_; clear en_)); have GB10 := Aside0.mk gb10; have GG10 := Aside0.mk HG10; clear gb10 gl10 HG10; obtain ⟨ce10, hcl10, hM10, hcc10, hfr10⟩ := Kd.R_elem HO_3.out z65 (x4_1 : Int) p10 q10; obtain rfl := k65_openM hM10; have hx10_0 : w11.cell? ⟨go10, (x4_1 : Int).toNat * 2, none⟩ = some (.int .i64 ((rd_T65 x3_1 x4_1).f0)) := hcc10 0 _ rfl; have hx10_1 : w11.cell? ⟨go10, (x4_1 : Int).toNat * 2 + 1, none⟩ = some (.int .i64 ((rd_T65 x3_1 x4_1).f1)) := hcc10 1 _ rfl; have hf10_0 : w11.frozen? ⟨go10, (x4_1 : Int).toNat * 2, none⟩ = false := hfr10 0; have hf10_1 : w11.frozen? ⟨go10, (x4_1 : Int).toNat * 2 + 1, none⟩ = false := hfr10 1; clear hcl10 hcc10 hfr10; (try clear hM10); replace p10 := eq_true p10; replace q10 := eq_true q10; have HX12 := am (show Kd.R k65 65 w11 w.heap.size (fun _ => True) (.slice (some ⟨go10, 0, none⟩) x3_1.length co10) x3_1 from Q51); obtain ⟨ce12, hcl12, hM12, hcc12, hfr12⟩ := Kd.R_elem HX12.out z65 (x4_1 : Int) (of_decide_eq_true Q8) (by have h_ : (x4_1 : Int) < ((x3_1.length : Int) : Int) := of_decide_eq_true Q8; first | exact h_ | (have e_ := (Kd.R_reads' HO_3.out).1; omega) | simpa using h_); obtain rfl := k65_openM hM12; have HP12 := Kd.R_seg HX12.out (x4_1 : Int) (of_decide_eq_true Q8) (by have h_ : (x4_1 : Int) < ((x3_1.length : Int) : Int) := of_decide_eq_true Q8; first | exact h_ | (have e_ := (Kd.R_reads' HO_3.out).1; omega) | simpa using h_) (seg := [.int .i64 t105, .int .i64 t106]) (j := 0) hcl12 hcc12 (show 2 ≤ 2 from by decide) (x' := (⟨t105, t106⟩ : S65)) (k65_mkM _ _ _ (⟨t105, t106⟩ : S65) ) (fun _ hk => hk); have hx12_0 := hcc12 0 _ rfl; (try simp only [show (k65).sz = 2 from rfl, Nat.mul_one, Nat.add_zero] at hx12_0); have hf12_0 := hfr12 0; (try simp only [show (k65).sz = 2 from rfl, Nat.mul_one, Nat.add_zero] at hf12_0); have hx12_1 := hcc12 1 _ rfl; (try simp only [show (k65).sz = 2 from rfl, Nat.mul_one, Nat.add_zero] at hx12_1); have hf12_1 := hfr12 1; (try simp only [show (k65).sz = 2 from rfl, Nat.mul_one, Nat.add_zero] at hf12_1); clear hcl12 hcc12 hfr12; (try clear hM12)) | ((with_reducible refine gate_store (t := 65) (p := 21) rfl ?_); refine store_event (t := 65) (p := 21) (v := ?vo_w13) (w1 := ((w11.setCell ⟨go10, (x4_1 : Int).toNat * 2, none⟩ (.int .i64 t105)).setCell ⟨go10, (x4_1 : Int).toNat * 2 + 1, none⟩ (.int .i64 t106))) ?hg ?ho ?hn ?hr ?_; (case ho => rfl); (case hg => rfl); (case hn => rfl); (case hr => first | (go_simp; done) | (go_simp; rfl)); intro w13 hw; have hg : w11.grownBy w13 (some go10) := (by rw [hw]; exact HP12.2); have hp_ : Kd.R k65 65 w13 w.heap.size (fun _ => True) (.slice (some ⟨go10, 0, none⟩) x3_1.length co10) y107 := (by rw [hw, Ny107.out]; exact HP12.1); clear HP12; replace HO_3 := am (hp_); replace HB := am ((by rw [hw]; exact below_set (below_set (HB.out) GB10.out) GB10.out : Below w.heap.size w w13)); clear hg hw hp_))
        go_roundg k1
        case measure => have := HK1.out; omega
        case rel => exact ⟨(y107), (wrap64 (x4_1 + 1)), Q10, H', ⟨Q57⟩, ⟨Q51⟩, ⟨Q1 HB⟩⟩
       ·rw [if_neg c9] at H
        exact absurd H (by simp)
      ·rw [if_neg c7] at H
       exact absurd H (by simp)
     ·rw [if_neg c6] at H
      have c6b0 := decide_eq_false c6; clear c6; obtain rfl := Option.some.inj H
      go_wp2
      go_ret
      exact ⟨_, Q9, Q51, Q1 HB⟩
  ·rw [if_neg c3] at H
   exact absurd H (by simp)
 ·rw [if_neg c2] at H
  exact absurd H (by simp)
/-! ### laws_toGraph: function 17 -/
def laws_toGraph.f (k : Nat) (a0_0 : Int) (l0_1 : List (S65)) : Option (Int × (List (S65))) := (laws_toIntA2S.f k l0_1).bind fun t104 => (some (a0_0, t104))
theorem laws_toGraph.mono : ∀ a0 a1 k, LeO (laws_toGraph.f k a0 a1) (laws_toGraph.f (k + 1) a0 a1) := by
 intro a0 a1 k
 unfold laws_toGraph.f
 repeat' first | (with_reducible first | exact laws_toIntA2S.mono _ _ | exact LeO.refl _ | exact LeO.none _ | refine LeO.ite ?_ ?_ | refine LeO.bind ?_ (fun _ => ?_))
set_option maxHeartbeats 8000000 in
set_option maxRecDepth 100000 in
theorem laws_toGraph.calls (k : Nat) (a0_0 : Int) (A0_1 : Option Addr) (c0_1 : Nat) (l0_1 : List (S65)) (r1 : Int) (r2 : List (S65)) (w : World) (hr0_1 : Kd.C k65 w A0_1 l0_1.length l0_1) (hc0_1 : l0_1.length ≤ c0_1) (h : laws_toGraph.f k a0_0 l0_1 = some (r1, r2)) :
  Calls Try.prog 17 #[.agg #[.int .i64 a0_0, .slice A0_1 l0_1.length c0_1]] w fun e w' => ∃ v1_ : Value, e = .returned (.agg #[.int .i64 r1, v1_]) ∧ Kd.R k65 65 w' w.heap.size (fun _ => True) v1_ r2 ∧ Below w.heap.size w w' := by
 have hu24 := Try.underlying24
 have hu29 := Try.underlying29
 have HR0_1 := Aside0.mk hr0_1
 have HC0_1 := Aside0.mk hc0_1
 clear hr0_1 hc0_1
 have HB := am (Below.refl w.heap.size w)
 have H : ((laws_toIntA2S.f k l0_1).bind fun t104 => (some (a0_0, t104))) = some (r1, r2) := h
 clear h
 replace H := (ob H)
 obtain ⟨t104, A20, H⟩ := H
 (try dsimp only at H)
 have A2 := Aside0.mk A20
 clear A20
 simp only [Option.some.injEq, Prod.mk.injEq] at H
 obtain ⟨rfl, rfl⟩ := H
 go_enter Try.func17, Try.ntmps17
 go_wp2_with (first | ((with_reducible refine gate_dst (N := 1) rfl ?_); refine box_event ?hg (N := 1) ?hd (cs := #[.int .i64 a0_0, .slice A0_1 l0_1.length c0_1]) (t := 24) ?hr ?_; (case hd => rfl); (case hg => rfl); (case hr => first | (go_simp; done) | (go_simp; rfl)); intro gb101 hg w3 hbox hb; have BK101 := am (hbox); have GW101 := am ((Q25 : w.heap.size ≤ gb101)); have GE101 := am ((Q25 : w.heap.size ≤ gb101)); replace HB := am (below_step (Q1 HB) hb); clear hb hbox hg) | ((with_reducible refine gate_dst (N := 2) rfl ?_); refine box_event ?hg (N := 2) ?hd (cs := #[.int .i64 0, .slice none 0 0]) (t := 29) ?hr ?_; (case hd => rfl); (case hg => rfl); (case hr => first | (go_simp; done) | (go_simp; rfl)); intro gb102 hg w4 hbox hb; have BK102 := am (hbox); have GW102 := am ((Q25 : w.heap.size ≤ gb102)); have GE102 := am ((Q25 : w.heap.size ≤ gb102)); replace HB := am (below_step (Q1 HB) hb); have NB101_102 := am ((Q41 : gb101 ≠ gb102)); have NB102_101 := am ((Q42 : gb102 ≠ gb101)); replace BK101 := am (blk_below (g := gb101) (o := .cells #[.int .i64 a0_0, .slice A0_1 l0_1.length c0_1] 24 (0, 0)) (Q0 BK101) hb); clear hb hbox hg) | ((with_reducible refine gate_dst (N := 3) rfl ?_); refine box_event ?hg (N := 3) ?hd (cs := #[.int .i64 0, .slice none 0 0]) (t := 29) ?hr ?_; (case hd => rfl); (case hg => rfl); (case hr => first | (go_simp; done) | (go_simp; rfl)); intro gb103 hg w5 hbox hb; have BK103 := am (hbox); have GW103 := am ((Q25 : w.heap.size ≤ gb103)); have GE103 := am ((Q25 : w.heap.size ≤ gb103)); replace HB := am (below_step (Q1 HB) hb); have NB101_103 := am ((Q41 : gb101 ≠ gb103)); have NB103_101 := am ((Q42 : gb103 ≠ gb101)); replace BK101 := am (blk_below (g := gb101) (o := .cells #[.int .i64 a0_0, .slice A0_1 l0_1.length c0_1] 24 (0, 0)) (Q0 BK101) hb); have NB102_103 := am ((Q28 : gb102 ≠ gb103)); have NB103_102 := am ((Q29 : gb103 ≠ gb102)); replace BK102 := am (blk_below (g := gb102) (o := .cells #[.int .i64 0, .slice none 0 0] 29 (0, 0)) (Q0 BK102) hb); clear hb hbox hg; have hnb6 := NB101_102.out; have hnc6 := NB102_101.out; have hnb7 := NB101_103.out; have hnc7 := NB103_101.out; have hcz8_0 : w5.cell? ⟨gb101, 0, none⟩ = some (.int .i64 a0_0) := (blk_cell BK101.out 0).trans rfl; have hcz8_1 : w5.cell? ⟨gb101, 1, none⟩ = some (.slice A0_1 l0_1.length c0_1) := (blk_cell BK101.out 1).trans rfl; have hfz8_0 := blk_frozen BK101.out 0; have hfz8_1 := blk_frozen BK101.out 1; have hnb9 := NB103_102.out; have hnc9 := NB102_103.out; have hcz10_0 : w5.cell? ⟨gb103, 0, none⟩ = some (.int .i64 0) := (blk_cell BK103.out 0).trans rfl; have hcz10_1 : w5.cell? ⟨gb103, 1, none⟩ = some (.slice none 0 0) := (blk_cell BK103.out 1).trans rfl; have hfz10_0 := blk_frozen BK103.out 0; have hfz10_1 := blk_frozen BK103.out 1) | ((with_reducible refine gate_callee (f := 54) rfl ?_); refine goesL_ (some 9) rfl rfl Try.func54 (by kernel_rfl) rfl #[.slice A0_1 l0_1.length c0_1] rfl Q4 ?_; (with_reducible refine (laws_toIntA2S.calls k _ _ l0_1 t104 _ ?side1 ?side2 A2.out).mono ?_); (case side1 => exact Kd.C_below HR0_1.out (Q6 HB GE103)); (case side2 => exact HC0_1.out); rintro e w11 ⟨v105, rfl, ho0, hb⟩; refine ⟨_, rfl, ?_⟩; have HO106 := am (Kd.R_lower ho0 (below_size (Q6 HB GE103))); replace BK101 := am (blk_below (g := gb101) (o := .cells #[.int .i64 a0_0, .slice A0_1 l0_1.length c0_1] 24 (0, 0)) (Q30 NB101_103 BK101) hb); replace BK102 := am (blk_below (g := gb102) (o := .cells #[.int .i64 0, .slice none 0 0] 29 (0, 0)) (Q30 NB102_103 BK102) hb); replace BK103 := am (blk_below (g := gb103) (o := .cells #[.int .i64 a0_0, .slice none 0 0] 29 (0, 0)) (by (with_reducible repeat (first | refine blk_drewN ?_ _ | refine blk_drew ?_ | refine blk_alloc ?_ _)); refine blk_put (cs := #[.int .i64 0, .slice none 0 0]) ?_ 0 _ rfl; (with_reducible repeat (first | refine blk_drewN ?_ _ | refine blk_drew ?_ | refine blk_alloc ?_ _)); exact BK103.out) hb); replace HB := am (below_step (Q6 HB GE103) hb); (try clear hb); (try clear hb2); (try clear hk); (try clear hi); (try clear ho0); obtain ⟨Ao12, co12, eo12⟩ := Kd.R_slice HO106.out; subst eo12; have hcz13_0 : w11.cell? ⟨gb103, 0, none⟩ = some (.int .i64 a0_0) := (blk_cell BK103.out 0).trans rfl; have hcz13_1 : w11.cell? ⟨gb103, 1, none⟩ = some (.slice none 0 0) := (blk_cell BK103.out 1).trans rfl; have hfz13_0 := blk_frozen BK103.out 0; have hfz13_1 := blk_frozen BK103.out 1; have hcz14_0 : w11.cell? ⟨gb102, 0, none⟩ = some (.int .i64 0) := (blk_cell BK102.out 0).trans rfl; have hcz14_1 : w11.cell? ⟨gb102, 1, none⟩ = some (.slice none 0 0) := (blk_cell BK102.out 1).trans rfl; have hfz14_0 := blk_frozen BK102.out 0; have hfz14_1 := blk_frozen BK102.out 1))
 refine bodyPost_ret (results_cell_row rfl _ _ gb102 29 #[.int .i64 a0_0, .slice Ao12 t104.length co12] (0, 0) _ rfl (Q22 NB102_103 BK102) Try.underlying29 rfl (by kernel_rfl)) rfl ?_
 exact ⟨_, Q9, by (with_reducible repeat (first | apply Kd.R_alloc | apply Kd.R_drewN | apply Kd.R_drew)); exact Kd.R_mono (Kd.R_far (p := ⟨gb102, 1, none⟩) (Kd.R_far (p := ⟨gb102, 0, none⟩) (Kd.R_far (p := ⟨gb103, 1, none⟩) (Kd.R_types (Kd.R_types HO106.out BK103.out (by decide)) BK102.out (by decide)) (fun _ hk => hk.1.2) (.slice Ao12 t104.length co12)) (fun _ hk => hk.2) (.int .i64 a0_0)) (fun _ hk => hk.2) (.slice Ao12 t104.length co12)) (fun _ hk => trivial), Q14 HB GE102 GE103⟩
/-! ### laws_eqIntA2: function 103 -/
def laws_eqIntA2.f (a0_0 : Int) (a0_1 : Int) (a1_0 : Int) (a1_1 : Int) : Option (Bool) := if a0_0 = a1_0 then (if a0_1 = a1_1 then (some true) else (some false)) else (some false)
set_option maxHeartbeats 8000000 in
set_option maxRecDepth 100000 in
theorem laws_eqIntA2.calls (a0_0 : Int) (a0_1 : Int) (a1_0 : Int) (a1_1 : Int) (r : Bool) (w : World) (h : laws_eqIntA2.f a0_0 a0_1 a1_0 a1_1 = some r) :
  Calls Try.prog 103 #[.agg #[.int .i64 a0_0, .int .i64 a0_1], .agg #[.int .i64 a1_0, .int .i64 a1_1]] w fun e w' => e = .returned (.bool r) ∧ Below w.heap.size w w' := by
 have hu65 := Try.underlying65
 have HB := am (Below.refl w.heap.size w)
 have H : (if a0_0 = a1_0 then (if a0_1 = a1_1 then (some true) else (some false)) else (some false)) = some r := h
 clear h
 have HU3 := Aside0.mk H
 clear H
 go_enter Try.func103, Try.ntmps103
 go_wp2_with (first | ((with_reducible refine gate_dst (N := 2) rfl ?_); refine box_event ?hg (N := 2) ?hd (cs := #[.int .i64 a0_0, .int .i64 a0_1]) (t := 65) ?hr ?_; (case hd => rfl); (case hg => rfl); (case hr => first | (go_simp; done) | (go_simp; rfl)); intro gb101 hg w4 hbox hb; have BK101 := am (hbox); have GW101 := am ((Q25 : w.heap.size ≤ gb101)); have GE101 := am ((Q25 : w.heap.size ≤ gb101)); replace HB := am (below_step (Q1 HB) hb); clear hb hbox hg) | ((with_reducible refine gate_dst (N := 3) rfl ?_); refine box_event ?hg (N := 3) ?hd (cs := #[.int .i64 a1_0, .int .i64 a1_1]) (t := 65) ?hr ?_; (case hd => rfl); (case hg => rfl); (case hr => first | (go_simp; done) | (go_simp; rfl)); intro gb102 hg w5 hbox hb; have BK102 := am (hbox); have GW102 := am ((Q25 : w.heap.size ≤ gb102)); have GE102 := am ((Q25 : w.heap.size ≤ gb102)); replace HB := am (below_step (Q1 HB) hb); have NB101_102 := am ((Q33 : gb101 ≠ gb102)); have NB102_101 := am ((Q34 : gb102 ≠ gb101)); replace BK101 := am (blk_below (g := gb101) (o := .cells #[.int .i64 a0_0, .int .i64 a0_1] 65 (0, 0)) (Q0 BK101) hb); clear hb hbox hg))
 repeat (go_quiet (first | ((with_reducible refine gate_dst (N := 2) rfl ?_); refine box_event ?hg (N := 2) ?hd (cs := #[.int .i64 a0_0, .int .i64 a0_1]) (t := 65) ?hr ?_; (case hd => rfl); (case hg => rfl); (case hr => first | (go_simp; done) | (go_simp; rfl)); intro gb101 hg w4 hbox hb; have n0_ := am (below_step (Q1 HB) hb); have n1_ := am (hbox); have n2_ := am ((Q25 : w.heap.size ≤ gb101)); have n3_ := am ((Q25 : w.heap.size ≤ gb101)); replace HB := n0_; have BK101 := n1_; have GW101 := n2_; have GE101 := n3_; clear n0_ n1_ n2_ n3_; clear hb hbox hg) | ((with_reducible refine gate_dst (N := 3) rfl ?_); refine box_event ?hg (N := 3) ?hd (cs := #[.int .i64 a1_0, .int .i64 a1_1]) (t := 65) ?hr ?_; (case hd => rfl); (case hg => rfl); (case hr => first | (go_simp; done) | (go_simp; rfl)); intro gb102 hg w5 hbox hb; have n0_ := am (blk_below (g := gb101) (o := .cells #[.int .i64 a0_0, .int .i64 a0_1] 65 (0, 0)) (Q0 BK101) hb); have n1_ := am (below_step (Q1 HB) hb); have n2_ := am (hbox); have n3_ := am ((Q25 : w.heap.size ≤ gb102)); have n4_ := am ((Q25 : w.heap.size ≤ gb102)); have n5_ := am ((Q33 : gb101 ≠ gb102)); have n6_ := am ((Q34 : gb102 ≠ gb101)); replace BK101 := n0_; replace HB := n1_; have BK102 := n2_; have GW102 := n3_; have GE102 := n4_; have NB101_102 := n5_; have NB102_101 := n6_; clear n0_ n1_ n2_ n3_ n4_ n5_ n6_; clear hb hbox hg)); try go_wp2_with (first | ((with_reducible refine gate_dst (N := 2) rfl ?_); refine box_event ?hg (N := 2) ?hd (cs := #[.int .i64 a0_0, .int .i64 a0_1]) (t := 65) ?hr ?_; (case hd => rfl); (case hg => rfl); (case hr => first | (go_simp; done) | (go_simp; rfl)); intro gb101 hg w4 hbox hb; have BK101 := am (hbox); have GW101 := am ((Q25 : w.heap.size ≤ gb101)); have GE101 := am ((Q25 : w.heap.size ≤ gb101)); replace HB := am (below_step (Q1 HB) hb); clear hb hbox hg) | ((with_reducible refine gate_dst (N := 3) rfl ?_); refine box_event ?hg (N := 3) ?hd (cs := #[.int .i64 a1_0, .int .i64 a1_1]) (t := 65) ?hr ?_; (case hd => rfl); (case hg => rfl); (case hr => first | (go_simp; done) | (go_simp; rfl)); intro gb102 hg w5 hbox hb; have BK102 := am (hbox); have GW102 := am ((Q25 : w.heap.size ≤ gb102)); have GE102 := am ((Q25 : w.heap.size ≤ gb102)); replace HB := am (below_step (Q1 HB) hb); have NB101_102 := am ((Q33 : gb101 ≠ gb102)); have NB102_101 := am ((Q34 : gb102 ≠ gb101)); replace BK101 := am (blk_below (g := gb101) (o := .cells #[.int .i64 a0_0, .int .i64 a0_1] 65 (0, 0)) (Q0 BK101) hb); clear hb hbox hg)))
 refine wp_loop_rounds 3 ?_
 (try simp only [Exit.then])
 rw [rounds_succ]
 have H := HU3.out
 clear HU3
 by_cases c6 : a0_0 = a1_0
 ·rw [if_pos c6] at H
  have c6b0 := beq_iff_eq.mpr c6; have c6b1 := bne_eq_false_iff_eq.mpr c6; clear c6; have HU7 := Aside0.mk H; clear H; have hnb8 := NB101_102.out; have hnc8 := NB102_101.out; have hcz9_0 : w5.cell? ⟨gb101, 0, none⟩ = some (.int .i64 a0_0) := (blk_cell BK101.out 0).trans rfl; have hcz9_1 : w5.cell? ⟨gb101, 1, none⟩ = some (.int .i64 a0_1) := (blk_cell BK101.out 1).trans rfl; have hfz9_0 := blk_frozen BK101.out 0; have hfz9_1 := blk_frozen BK101.out 1; have hcz10_0 : w5.cell? ⟨gb102, 0, none⟩ = some (.int .i64 a1_0) := (blk_cell BK102.out 0).trans rfl; have hcz10_1 : w5.cell? ⟨gb102, 1, none⟩ = some (.int .i64 a1_1) := (blk_cell BK102.out 1).trans rfl; have hfz10_0 := blk_frozen BK102.out 0; have hfz10_1 := blk_frozen BK102.out 1
  go_wp2
  repeat (go_quiet (fail); try go_wp2)
  (try simp only [Exit.then]); rw [rounds_succ]; have H := HU7.out; clear HU7
  by_cases c11 : a0_1 = a1_1
  ·rw [if_pos c11] at H
   have c11b0 := beq_iff_eq.mpr c11; have c11b1 := bne_eq_false_iff_eq.mpr c11; clear c11; have HU12 := Aside0.mk H; clear H; have hnb13 := NB101_102.out; have hnc13 := NB102_101.out; have hcz14_0 : w5.cell? ⟨gb101, 0, none⟩ = some (.int .i64 a0_0) := (blk_cell BK101.out 0).trans rfl; have hcz14_1 : w5.cell? ⟨gb101, 1, none⟩ = some (.int .i64 a0_1) := (blk_cell BK101.out 1).trans rfl; have hfz14_0 := blk_frozen BK101.out 0; have hfz14_1 := blk_frozen BK101.out 1; have hcz15_0 : w5.cell? ⟨gb102, 0, none⟩ = some (.int .i64 a1_0) := (blk_cell BK102.out 0).trans rfl; have hcz15_1 : w5.cell? ⟨gb102, 1, none⟩ = some (.int .i64 a1_1) := (blk_cell BK102.out 1).trans rfl; have hfz15_0 := blk_frozen BK102.out 0; have hfz15_1 := blk_frozen BK102.out 1
   go_wp2
   repeat (go_quiet (fail); try go_wp2)
   (try simp only [Exit.then]); rw [rounds_succ]; have H := HU12.out; clear HU12; obtain rfl := Option.some.inj H
   go_wp2
   repeat (go_quiet (fail); try go_wp2)
   go_ret
   exact ⟨Q9, Q1 HB⟩
  ·rw [if_neg c11] at H
   have c11b0 := beq_eq_false_iff_ne.mpr c11; have c11b1 := bne_iff_ne.mpr c11; obtain rfl := Option.some.inj H; have hnb16 := NB101_102.out; have hnc16 := NB102_101.out; have hcz17_0 : w5.cell? ⟨gb101, 0, none⟩ = some (.int .i64 a0_0) := (blk_cell BK101.out 0).trans rfl; have hcz17_1 : w5.cell? ⟨gb101, 1, none⟩ = some (.int .i64 a0_1) := (blk_cell BK101.out 1).trans rfl; have hfz17_0 := blk_frozen BK101.out 0; have hfz17_1 := blk_frozen BK101.out 1; have hcz18_0 : w5.cell? ⟨gb102, 0, none⟩ = some (.int .i64 a1_0) := (blk_cell BK102.out 0).trans rfl; have hcz18_1 : w5.cell? ⟨gb102, 1, none⟩ = some (.int .i64 a1_1) := (blk_cell BK102.out 1).trans rfl; have hfz18_0 := blk_frozen BK102.out 0; have hfz18_1 := blk_frozen BK102.out 1
   go_wp2
   repeat (go_quiet (fail); try go_wp2)
   go_ret
   exact ⟨Q9, Q1 HB⟩
 ·rw [if_neg c6] at H
  have c6b0 := beq_eq_false_iff_ne.mpr c6; have c6b1 := bne_iff_ne.mpr c6; obtain rfl := Option.some.inj H; have hnb19 := NB101_102.out; have hnc19 := NB102_101.out; have hcz20_0 : w5.cell? ⟨gb101, 0, none⟩ = some (.int .i64 a0_0) := (blk_cell BK101.out 0).trans rfl; have hcz20_1 : w5.cell? ⟨gb101, 1, none⟩ = some (.int .i64 a0_1) := (blk_cell BK101.out 1).trans rfl; have hfz20_0 := blk_frozen BK101.out 0; have hfz20_1 := blk_frozen BK101.out 1; have hcz21_0 : w5.cell? ⟨gb102, 0, none⟩ = some (.int .i64 a1_0) := (blk_cell BK102.out 0).trans rfl; have hcz21_1 : w5.cell? ⟨gb102, 1, none⟩ = some (.int .i64 a1_1) := (blk_cell BK102.out 1).trans rfl; have hfz21_0 := blk_frozen BK102.out 0; have hfz21_1 := blk_frozen BK102.out 1
  go_wp2
  repeat (go_quiet (fail); try go_wp2)
  go_ret
  exact ⟨Q9, Q1 HB⟩
/-! ### laws_eqIntA2S: function 57 -/
def laws_eqIntA2S.l0 : Nat → List (S65) → List (S65) → Int → Option (Bool)
 | 0, _, _, _ => none
 | k + 1, x0, x1, x5 => if x5 < (x0.length : Int) then (if 0 ≤ x5 then (if x5 < (x1.length : Int) then ((laws_eqIntA2.f ((rd_T65 x0 x5).f0) ((rd_T65 x0 x5).f1) ((rd_T65 x1 x5).f0) ((rd_T65 x1 x5).f1)).bind fun t103 => (if t103 = true then (laws_eqIntA2S.l0 k x0 x1 (wrap64 (x5 + 1))) else (some false))) else (none)) else (none)) else (some true)
def laws_eqIntA2S.f (k : Nat) (l0 : List (S65)) (l1 : List (S65)) : Option (Bool) := if (l0.length : Int) = (l1.length : Int) then (laws_eqIntA2S.l0 k l0 l1 0) else (some false)
theorem laws_eqIntA2S.mono_l : ∀ k, (∀ y0 y1 y2, LeO (laws_eqIntA2S.l0 k y0 y1 y2) (laws_eqIntA2S.l0 (k + 1) y0 y1 y2))
 | 0 => fun _ _ _ r h => by simp [laws_eqIntA2S.l0] at h
 | k + 1 => by
  have ih0 := laws_eqIntA2S.mono_l k
  all_goals
   intros
   first | unfold laws_eqIntA2S.l0
   repeat' first | (with_reducible first | exact ih0 _ _ _ | exact LeO.refl _ | exact LeO.none _ | refine LeO.ite ?_ ?_ | refine LeO.bind ?_ (fun _ => ?_))
theorem laws_eqIntA2S.mono : ∀ a0 a1 k, LeO (laws_eqIntA2S.f k a0 a1) (laws_eqIntA2S.f (k + 1) a0 a1) := by
 intro a0 a1 k
 have ih0 := laws_eqIntA2S.mono_l k
 unfold laws_eqIntA2S.f
 repeat' first | (with_reducible first | exact ih0 _ _ _ | exact LeO.refl _ | exact LeO.none _ | refine LeO.ite ?_ ?_ | refine LeO.bind ?_ (fun _ => ?_))
def laws_eqIntA2S.T6 : Bool × List (List Nat × List Nat) := (true, [([], []), ([], []), ([0, 1], [0, 1]), ([2], [2]), ([], []), ([], []), ([4, 5], [4, 5]), ([6], [6]), ([3, 7], [3, 7]), ([8], [8])])
def laws_eqIntA2S.B6 : List Nat := [0, 0, 3, 7, 0, 0, 48, 112, 255, 511]
theorem laws_eqIntA2S.tab6 : rtab .any (opsOf Try.f57 6) = laws_eqIntA2S.T6 := by kernel_rfl
theorem laws_eqIntA2S.bits6 : waitsOk laws_eqIntA2S.T6.2 laws_eqIntA2S.B6 = true := by kernel_rfl
set_option maxHeartbeats 8000000 in
set_option maxRecDepth 100000 in
theorem laws_eqIntA2S.calls (k : Nat) (A0 : Option Addr) (c0 : Nat) (l0 : List (S65)) (A1 : Option Addr) (c1 : Nat) (l1 : List (S65)) (r : Bool) (w : World) (hr0 : Kd.C k65 w A0 l0.length l0) (hc0 : l0.length ≤ c0) (hr1 : Kd.C k65 w A1 l1.length l1) (hc1 : l1.length ≤ c1) (h : laws_eqIntA2S.f k l0 l1 = some r) :
  Calls Try.prog 57 #[.slice A0 l0.length c0, .slice A1 l1.length c1] w fun e w' => e = .returned (.bool r) ∧ Below w.heap.size w w' := by
 have hu65 := Try.underlying65
 have HR0 := Aside0.mk hr0
 have HC0 := Aside0.mk hc0
 clear hr0 hc0
 have HR1 := Aside0.mk hr1
 have HC1 := Aside0.mk hc1
 clear hr1 hc1
 have HB := am (Below.refl w.heap.size w)
 have H : (if (l0.length : Int) = (l1.length : Int) then (laws_eqIntA2S.l0 k l0 l1 0) else (some false)) = some r := h
 clear h
 by_cases c3 : (l0.length : Int) = (l1.length : Int)
 ·rw [if_pos c3] at H
  have c3b0 := beq_iff_eq.mpr c3; have c3b1 := bne_eq_false_iff_eq.mpr c3; have c3b2 : (l0.length == l1.length) = true := by first | simpa using c3 | (simp at c3 ⊢; omega)
  clear c3; have H' := Aside0.mk H; clear H
  go_enter Try.func57, Try.ntmps57
  go_wp2
  go_loopg [5] k (fun kq v5 w' => ∃ (x5_1 : Int), v5 = .int .i64 x5_1 ∧ Aside0 (laws_eqIntA2S.l0 kq l0 l1 x5_1 = some r) ∧ Aside0 (kq ≤ k) ∧ Aside0 (Below w.heap.size w w'))
  case atStart => exact ⟨(0), Q10, H', ⟨Nat.le_refl _⟩, ⟨Q1 HB⟩⟩
  case round =>
   clear H'
   try clear c1
   try clear p2
   try clear c3
   try clear c3b0
   try clear c3b1
   try clear c3b2
   obtain ⟨x5_1, rfl, HA, HK1, HB⟩ := hrel
   cases gk with
   | zero => exact absurd HA.out (by simp [laws_eqIntA2S.l0])
   | succ k1 =>
    have H := HA.out; clear HA
    simp only [laws_eqIntA2S.l0] at H
    by_cases c4 : x5_1 < (l0.length : Int)
    ·rw [if_pos c4] at H
     have c4b0 := decide_eq_true c4; clear c4
     by_cases c5 : 0 ≤ x5_1
     ·rw [if_pos c5] at H
      have c5b0 := decide_eq_true c5; clear c5
      by_cases c6 : x5_1 < (l1.length : Int)
      ·rw [if_pos c6] at H
       have c6b0 : decide (x5_1 < (l1.length : Int)) = true := decide_eq_true c6; clear c6; replace H := (ob H); obtain ⟨t103, A70, H⟩ := H; (try dsimp only at H); have A7 := Aside0.mk A70; clear A70; have HU8 := Aside0.mk H; clear H
       try go_wp2
       replace HB := am (below_drew1 HB.out); have p101 : 0 ≤ (x5_1 : Int) := of_decide_eq_true Q8; have q101 : x5_1 < (l0.length : Int) := of_decide_eq_true Q8; obtain ⟨ad101, e101, hx101_0, hx101_1⟩ := at_T65 HR0.out x5_1 p101 q101; have hw101_1 := hx101_1; have hw101_0 := hx101_0
       cases e101
       replace hx101_0 := (HB.out.cell (World.block_lt_of_cell? w _ hx101_0)).trans hx101_0; replace hx101_1 := (HB.out.cell (World.block_lt_of_cell? w _ hx101_1)).trans hx101_1; replace p101 := eq_true p101; replace q101 := eq_true q101; have p102 : 0 ≤ (x5_1 : Int) := of_decide_eq_true Q8; have q102 : x5_1 < (l1.length : Int) := of_decide_eq_true Q8; obtain ⟨ad102, e102, hx102_0, hx102_1⟩ := at_T65 HR1.out x5_1 p102 q102; have hw102_1 := hx102_1; have hw102_0 := hx102_0
       cases e102
       replace hx102_0 := (HB.out.cell (World.block_lt_of_cell? w _ hx102_0)).trans hx102_0; replace hx102_1 := (HB.out.cell (World.block_lt_of_cell? w _ hx102_1)).trans hx102_1; replace p102 := eq_true p102; replace q102 := eq_true q102; refine start_ (n := 10) (S := fun w' => w'.cell? (ad101.add ((x5_1).toNat * 2)) = some (.int .i64 ((rd_T65 l0 x5_1).f0)) ∧ w'.cell? ⟨(ad101.add ((x5_1).toNat * 2)).block, (ad101.add ((x5_1).toNat * 2)).off + 1, none⟩ = some (.int .i64 ((rd_T65 l0 x5_1).f1)) ∧ w'.cell? (ad102.add ((x5_1).toNat * 2)) = some (.int .i64 ((rd_T65 l1 x5_1).f0)) ∧ w'.cell? ⟨(ad102.add ((x5_1).toNat * 2)).block, (ad102.add ((x5_1).toNat * 2)).off + 1, none⟩ = some (.int .i64 ((rd_T65 l1 x5_1).f1))) (ds := []) #[false, false, false, false, false, false, false, false, false, false] (by kernel_rfl) rfl rfl ⟨((HB.out.cell (World.block_lt_of_cell? w _ hw101_0)).trans hw101_0), ((HB.out.cell (World.block_lt_of_cell? w _ hw101_1)).trans hw101_1), ((HB.out.cell (World.block_lt_of_cell? w _ hw102_0)).trans hw102_0), ((HB.out.cell (World.block_lt_of_cell? w _ hw102_1)).trans hw102_1)⟩ (fun hHeld => ?_); refine with_tabW laws_eqIntA2S.tab6 laws_eqIntA2S.bits6 (fun HT_ HW_ => ?_); generalize wr.drew = w9 at HB hx101_0 hx101_1 hx102_0 hx102_1 hHeld ⊢; refine pq 0 17 rfl rfl HT_ ?_; refine pq 1 18 rfl rfl HT_ ?_; refine pq 2 19 rfl rfl HT_ ?_; refine pq 4 21 rfl rfl HT_ ?_; refine pq 5 22 rfl rfl HT_ ?_; refine pq 6 23 rfl rfl HT_ ?_; refine tq4 3 20 rfl rfl HT_ HW_ hHeld ?_; refine tq4 7 24 rfl rfl HT_ HW_ hHeld ?_; refine oq 8 25 rfl rfl HT_ (fun K hK => ?_); refine goes_ Try.func103 (by kernel_rfl) rfl #[.agg #[.int .i64 ((rd_T65 l0 x5_1).f0), .int .i64 ((rd_T65 l0 x5_1).f1)], .agg #[.int .i64 ((rd_T65 l1 x5_1).f0), .int .i64 ((rd_T65 l1 x5_1).f1)]] (by rfl) rfl rfl Q4 ?_
       with_reducible refine (laws_eqIntA2.calls ((rd_T65 l0 x5_1).f0) ((rd_T65 l0 x5_1).f1) ((rd_T65 l1 x5_1).f0) ((rd_T65 l1 x5_1).f1) t103 _ A7.out).mono ?_
       rintro e w10 ⟨rfl, hb⟩; refine ⟨_, rfl, ?_⟩; replace HB := am (below_step (Q1 HB) hb); (try clear hb); (try clear hb2); (try clear hk); (try clear hi); refine hK.out _ _ ⟨((HB.out.cell (World.block_lt_of_cell? w _ hw101_0)).trans hw101_0), ((HB.out.cell (World.block_lt_of_cell? w _ hw101_1)).trans hw101_1), ((HB.out.cell (World.block_lt_of_cell? w _ hw102_0)).trans hw102_0), ((HB.out.cell (World.block_lt_of_cell? w _ hw102_1)).trans hw102_1)⟩ (fun hHeld => ?_); clear hK K; refine norm_ (a' := ?_) ?_ ?_
       rotate_left
       ·show Act.put _ (some 25) _ = _
        simp only [Act.put, List.setIfInBounds_toArray, List.set_cons_zero, List.set_cons_succ, i64_w, i32_w]
        rfl
       refine pq 9 26 rfl rfl HT_ ?_; refine done_ (done_of HT_.out (by kernel_rfl)) ?_
       go_upto_if 26 with (fail)
       have H := HU8.out; clear HU8
       by_cases c11 : t103 = true
       ·subst c11
        have H1 : (laws_eqIntA2S.l0 k1 l0 l1 (wrap64 (x5_1 + 1))) = some r := by rw [if_pos rfl] at H; exact H
        clear H; have H := H1; clear H1; have H' := Aside0.mk H; clear H
        go_wp2
        go_roundg k1
        case measure => have := HK1.out; omega
        case rel => exact ⟨(wrap64 (x5_1 + 1)), Q10, H', ⟨Q57⟩, ⟨Q1 HB⟩⟩
       ·replace c11 := Bool.eq_false_iff.mpr c11
        subst c11; have H1 : (some false) = some r := by rw [if_neg (show ¬ (false = true) by decide)] at H; exact H
        clear H; have H := H1; clear H1; obtain rfl := Option.some.inj H
        go_wp2
        go_ret
        exact ⟨Q9, Q1 HB⟩
      ·rw [if_neg c6] at H
       exact absurd H (by simp)
     ·rw [if_neg c5] at H
      exact absurd H (by simp)
    ·rw [if_neg c4] at H
     have c4b0 := decide_eq_false c4; clear c4; obtain rfl := Option.some.inj H
     go_wp2
     go_ret
     exact ⟨Q9, Q1 HB⟩
 ·rw [if_neg c3] at H
  have c3b0 := beq_eq_false_iff_ne.mpr c3; have c3b1 := bne_iff_ne.mpr c3; have c3b2 : (l0.length == l1.length) = false := by first | simpa using c3 | (simp at c3 ⊢; omega)
  obtain rfl := Option.some.inj H
  go_enter Try.func57, Try.ntmps57
  go_wp2
  go_ret
  exact ⟨Q9, Q1 HB⟩
/-! ### laws_eqGraph: function 20 -/
def laws_eqGraph.f (k : Nat) (a0_0 : Int) (l0_1 : List (S65)) (a1_0 : Int) (l1_1 : List (S65)) : Option (Bool) := if a0_0 = a1_0 then ((laws_eqIntA2S.f k l0_1 l1_1).bind fun t103 => (if t103 = true then (some true) else (some false))) else (some false)
theorem laws_eqGraph.mono : ∀ a0 a1 a2 a3 k, LeO (laws_eqGraph.f k a0 a1 a2 a3) (laws_eqGraph.f (k + 1) a0 a1 a2 a3) := by
 intro a0 a1 a2 a3 k
 unfold laws_eqGraph.f
 repeat' first | (with_reducible first | exact laws_eqIntA2S.mono _ _ _ | exact LeO.refl _ | exact LeO.none _ | refine LeO.ite ?_ ?_ | refine LeO.bind ?_ (fun _ => ?_))
set_option maxHeartbeats 8000000 in
set_option maxRecDepth 100000 in
theorem laws_eqGraph.calls (k : Nat) (a0_0 : Int) (A0_1 : Option Addr) (c0_1 : Nat) (l0_1 : List (S65)) (a1_0 : Int) (A1_1 : Option Addr) (c1_1 : Nat) (l1_1 : List (S65)) (r : Bool) (w : World) (hr0_1 : Kd.C k65 w A0_1 l0_1.length l0_1) (hc0_1 : l0_1.length ≤ c0_1) (hr1_1 : Kd.C k65 w A1_1 l1_1.length l1_1) (hc1_1 : l1_1.length ≤ c1_1) (h : laws_eqGraph.f k a0_0 l0_1 a1_0 l1_1 = some r) :
  Calls Try.prog 20 #[.agg #[.int .i64 a0_0, .slice A0_1 l0_1.length c0_1], .agg #[.int .i64 a1_0, .slice A1_1 l1_1.length c1_1]] w fun e w' => e = .returned (.bool r) ∧ Below w.heap.size w w' := by
 have hu29 := Try.underlying29
 have HR0_1 := Aside0.mk hr0_1
 have HC0_1 := Aside0.mk hc0_1
 clear hr0_1 hc0_1
 have HR1_1 := Aside0.mk hr1_1
 have HC1_1 := Aside0.mk hc1_1
 clear hr1_1 hc1_1
 have HB := am (Below.refl w.heap.size w)
 have H : (if a0_0 = a1_0 then ((laws_eqIntA2S.f k l0_1 l1_1).bind fun t103 => (if t103 = true then (some true) else (some false))) else (some false)) = some r := h
 clear h
 have HU3 := Aside0.mk H
 clear H
 go_enter Try.func20, Try.ntmps20
 go_upto_if 9 with (first | ((with_reducible refine gate_dst (N := 2) rfl ?_); refine box_event ?hg (N := 2) ?hd (cs := #[.int .i64 a0_0, .slice A0_1 l0_1.length c0_1]) (t := 29) ?hr ?_; (case hd => rfl); (case hg => rfl); (case hr => first | (go_simp; done) | (go_simp; rfl)); intro gb101 hg w4 hbox hb; have BK101 := am (hbox); have GW101 := am ((Q25 : w.heap.size ≤ gb101)); have GE101 := am ((Q25 : w.heap.size ≤ gb101)); replace HB := am (below_step (Q1 HB) hb); clear hb hbox hg) | ((with_reducible refine gate_dst (N := 3) rfl ?_); refine box_event ?hg (N := 3) ?hd (cs := #[.int .i64 a1_0, .slice A1_1 l1_1.length c1_1]) (t := 29) ?hr ?_; (case hd => rfl); (case hg => rfl); (case hr => first | (go_simp; done) | (go_simp; rfl)); intro gb102 hg w5 hbox hb; have BK102 := am (hbox); have GW102 := am ((Q25 : w.heap.size ≤ gb102)); have GE102 := am ((Q25 : w.heap.size ≤ gb102)); replace HB := am (below_step (Q1 HB) hb); have NB101_102 := am ((Q26 : gb101 ≠ gb102)); have NB102_101 := am ((Q27 : gb102 ≠ gb101)); replace BK101 := am (blk_below (g := gb101) (o := .cells #[.int .i64 a0_0, .slice A0_1 l0_1.length c0_1] 29 (0, 0)) (Q0 BK101) hb); clear hb hbox hg; have hnb6 := NB101_102.out; have hnc6 := NB102_101.out; have hcz7_0 : w5.cell? ⟨gb101, 0, none⟩ = some (.int .i64 a0_0) := (blk_cell BK101.out 0).trans rfl; have hcz7_1 : w5.cell? ⟨gb101, 1, none⟩ = some (.slice A0_1 l0_1.length c0_1) := (blk_cell BK101.out 1).trans rfl; have hfz7_0 := blk_frozen BK101.out 0; have hfz7_1 := blk_frozen BK101.out 1; have hcz8_0 : w5.cell? ⟨gb102, 0, none⟩ = some (.int .i64 a1_0) := (blk_cell BK102.out 0).trans rfl; have hcz8_1 : w5.cell? ⟨gb102, 1, none⟩ = some (.slice A1_1 l1_1.length c1_1) := (blk_cell BK102.out 1).trans rfl; have hfz8_0 := blk_frozen BK102.out 0; have hfz8_1 := blk_frozen BK102.out 1))
 (try simp only [Act.put, List.setIfInBounds_toArray, List.set_cons_zero, List.set_cons_succ])
 have H := HU3.out
 clear HU3
 by_cases c9 : a0_0 = a1_0
 ·rw [if_pos c9] at H
  have c9b0 := beq_iff_eq.mpr c9; have c9b1 := bne_eq_false_iff_eq.mpr c9; clear c9
  (first | rw [c9b0] | (simp only [i64_w, i32_w]; rw [c9b0]) | rw [c9b1] | skip)
  replace H := (ob H); obtain ⟨t103, A100, H⟩ := H; (try dsimp only at H); have A10 := Aside0.mk A100; clear A100; have HU11 := Aside0.mk H; clear H; have hnb12 := NB101_102.out; have hnc12 := NB102_101.out; have hcz13_0 : w5.cell? ⟨gb101, 0, none⟩ = some (.int .i64 a0_0) := (blk_cell BK101.out 0).trans rfl; have hcz13_1 : w5.cell? ⟨gb101, 1, none⟩ = some (.slice A0_1 l0_1.length c0_1) := (blk_cell BK101.out 1).trans rfl; have hfz13_0 := blk_frozen BK101.out 0; have hfz13_1 := blk_frozen BK101.out 1; have hcz14_0 : w5.cell? ⟨gb102, 0, none⟩ = some (.int .i64 a1_0) := (blk_cell BK102.out 0).trans rfl; have hcz14_1 : w5.cell? ⟨gb102, 1, none⟩ = some (.slice A1_1 l1_1.length c1_1) := (blk_cell BK102.out 1).trans rfl; have hfz14_0 := blk_frozen BK102.out 0; have hfz14_1 := blk_frozen BK102.out 1
  go_upto_if 15 with (first | ((with_reducible refine gate_callee (f := 57) rfl ?_); refine goesL_ (some 14) rfl rfl Try.func57 (by kernel_rfl) rfl #[.slice A0_1 l0_1.length c0_1, .slice A1_1 l1_1.length c1_1] rfl Q4 ?_; (with_reducible refine (laws_eqIntA2S.calls k _ _ l0_1 _ _ l1_1 t103 _ ?side1 ?side2 ?side3 ?side4 A10.out).mono ?_); (case side1 => exact (Q7 HR0_1 HB)); (case side2 => exact HC0_1.out); (case side3 => exact (Q7 HR1_1 HB)); (case side4 => exact HC1_1.out); rintro e w15 ⟨rfl, hb⟩; refine ⟨_, rfl, ?_⟩; replace BK101 := am (blk_below (g := gb101) (o := .cells #[.int .i64 a0_0, .slice A0_1 l0_1.length c0_1] 29 (0, 0)) (Q0 BK101) hb); replace BK102 := am (blk_below (g := gb102) (o := .cells #[.int .i64 a1_0, .slice A1_1 l1_1.length c1_1] 29 (0, 0)) (Q0 BK102) hb); replace HB := am (below_step (Q1 HB) hb); (try clear hb); (try clear hb2); (try clear hk); (try clear hi)))
  (try simp only [Act.put, List.setIfInBounds_toArray, List.set_cons_zero, List.set_cons_succ]); have H := HU11.out; clear HU11
  by_cases c16 : t103 = true
  ·subst c16
   have H1 : (some true) = some r := by rw [if_pos rfl] at H; exact H
   clear H; have H := H1; clear H1; obtain rfl := Option.some.inj H
   go_wp2
   go_ret
   exact ⟨Q9, Q1 HB⟩
  ·replace c16 := Bool.eq_false_iff.mpr c16
   subst c16; have H1 : (some false) = some r := by rw [if_neg (show ¬ (false = true) by decide)] at H; exact H
   clear H; have H := H1; clear H1; obtain rfl := Option.some.inj H
   go_wp2
   go_ret
   exact ⟨Q9, Q1 HB⟩
 ·rw [if_neg c9] at H
  have c9b0 := beq_eq_false_iff_ne.mpr c9; have c9b1 := bne_iff_ne.mpr c9
  (first | rw [c9b0] | (simp only [i64_w, i32_w]; rw [c9b0]) | rw [c9b1] | skip)
  obtain rfl := Option.some.inj H
  go_wp2
  go_ret
  exact ⟨Q9, Q1 HB⟩
/-! ### laws_markIntA2S: function 65 -/
def laws_markIntA2S.l0 : Nat → List (S65) → Int → Int → Option (Int × (List (S65)))
 | 0, _, _, _ => none
 | k + 1, x0, x1, x5 => if x5 < (x0.length : Int) then (if 0 ≤ x5 then ((some (x0.set (x5 : Int).toNat (⟨x1, (rd_T65 x0 x5).f1⟩ : S65) : List (S65))).bind fun y101 => (laws_markIntA2S.l0 k (y101.set (x5 : Int).toNat (⟨(rd_T65 y101 x5).f0, wrap64 (x1 + 1)⟩ : S65)) (wrap64 ((wrap64 (x1 + 1)) + 1)) (wrap64 (x5 + 1)))) else (none)) else (some (x1, x0))
def laws_markIntA2S.f (k : Nat) (l0 : List (S65)) (a1 : Int) : Option (Int × (List (S65))) := laws_markIntA2S.l0 k l0 a1 0
theorem laws_markIntA2S.mono_l : ∀ k, (∀ y0 y1 y2, LeO (laws_markIntA2S.l0 k y0 y1 y2) (laws_markIntA2S.l0 (k + 1) y0 y1 y2))
 | 0 => fun _ _ _ r h => by simp [laws_markIntA2S.l0] at h
 | k + 1 => by
  have ih0 := laws_markIntA2S.mono_l k
  all_goals
   intros
   first | unfold laws_markIntA2S.l0
   repeat' first | (with_reducible first | exact ih0 _ _ _ | exact LeO.refl _ | exact LeO.none _ | refine LeO.ite ?_ ?_ | refine LeO.bind ?_ (fun _ => ?_))
theorem laws_markIntA2S.mono : ∀ a0 a1 k, LeO (laws_markIntA2S.f k a0 a1) (laws_markIntA2S.f (k + 1) a0 a1) := by
 intro a0 a1 k
 have ih0 := laws_markIntA2S.mono_l k
 unfold laws_markIntA2S.f
 repeat' first | (with_reducible first | exact ih0 _ _ _ | exact LeO.refl _ | exact LeO.none _ | refine LeO.ite ?_ ?_ | refine LeO.bind ?_ (fun _ => ?_))
set_option maxHeartbeats 8000000 in
set_option maxRecDepth 100000 in
theorem laws_markIntA2S.calls (k : Nat) (P0_ : Nat → Prop) (u9000_ : Value) (l0 : List (S65)) (a1 : Int) (r1 : Int) (r2 : List (S65)) (w0 w : World) (hB : Below w0.heap.size w0 w) (ho0 : Kd.R k65 65 w w0.heap.size P0_ u9000_ l0) (h : laws_markIntA2S.f k l0 a1 = some (r1, r2)) :
  Calls Try.prog 65 #[u9000_, .int .i64 a1] w fun e w' => e = .returned (.int .i64 r1) ∧ Kd.R k65 65 w' w0.heap.size (fun k_ => (P0_ k_ ∨ w.heap.size ≤ k_)) u9000_ r2 ∧ Below w0.heap.size w0 w' ∧ Kept w w' (fun k_ => P0_ k_) := by
 have HO0 := am (show Kd.R k65 65 w w0.heap.size (fun k_ => (P0_ k_ ∨ w.heap.size ≤ k_)) u9000_ l0 from Kd.R_mono ho0 (fun k_ hk => (.inl hk)))
 have HK := am (Kept.refl w (fun k_ => P0_ k_))
 have HW0 := Aside0.mk hB.size
 have HB := Aside0.mk hB
 clear hB
 have H : (laws_markIntA2S.l0 k l0 a1 0) = some (r1, r2) := h
 clear h
 have H' := Aside0.mk H
 clear H
 go_enter Try.func65, Try.ntmps65
 go_wp2
 go_loopg [1, 5] k (fun kq v1 v5 w' => ∃ (x0_1 : List (S65)) (x1_1 : Int) (x5_1 : Int), v1 = .int .i64 x1_1 ∧ v5 = .int .i64 x5_1 ∧ Aside0 (laws_markIntA2S.l0 kq x0_1 x1_1 x5_1 = some (r1, r2)) ∧ Aside0 (kq ≤ k) ∧ Aside0 (Kd.R k65 65 w' w0.heap.size (fun k_ => (P0_ k_ ∨ w.heap.size ≤ k_)) u9000_ x0_1) ∧ Aside0 (Kept w w' (fun k_ => P0_ k_)) ∧ Aside0 (Below w0.heap.size w0 w'))
 case atStart => exact ⟨(l0), (a1), (0), Q10, Q10, H', ⟨Nat.le_refl _⟩, ⟨Q3 HO0⟩, ⟨Q20 HK⟩, ⟨Q1 HB⟩⟩
 case round =>
  clear H'
  try clear p2
  obtain ⟨x0_1, x1_1, x5_1, rfl, rfl, HA, HK1, HO_0, HK, HB⟩ := hrel
  cases gk with
  | zero => exact absurd HA.out (by simp [laws_markIntA2S.l0])
  | succ k1 =>
   have H := HA.out; clear HA
   simp only [laws_markIntA2S.l0] at H
   by_cases c3 : x5_1 < (x0_1.length : Int)
   ·rw [if_pos c3] at H
    have c3b0 : decide (x5_1 < (x0_1.length : Int)) = true := decide_eq_true c3; clear c3; have HU4 := Aside0.mk H; clear H; obtain ⟨Ao5, co5, eo5⟩ := Kd.R_slice HO_0.out; subst eo5
    go_wp2
    refine wp_loop_rounds 3 ?_; (try simp only [Exit.then]); rw [rounds_succ]; have H := HU4.out; clear HU4
    by_cases c6 : 0 ≤ x5_1
    ·rw [if_pos c6] at H
     have c6b0 := decide_eq_true c6; clear c6; obtain ⟨y101, hy101⟩ : ∃ y_ : List (S65), y_ = (x0_1.set (x5_1 : Int).toNat (⟨x1_1, (rd_T65 x0_1 x5_1).f1⟩ : S65)) := ⟨_, rfl⟩; replace H : (laws_markIntA2S.l0 k1 (y101.set (x5_1 : Int).toNat (⟨(rd_T65 y101 x5_1).f0, wrap64 (x1_1 + 1)⟩ : S65)) (wrap64 ((wrap64 (x1_1 + 1)) + 1)) (wrap64 (x5_1 + 1))) = some (r1, r2) := RH hy101 H; have Ny101 := Aside0.mk hy101; clear hy101; have HU8 := Aside0.mk H; clear H; have p7 : 0 ≤ (x5_1 : Int) := of_decide_eq_true Q8; have q7 : (x5_1 : Int) < ((x0_1.length : Int) : Int) := of_decide_eq_true Q8; obtain ⟨go7, co7, eo7, gb7, gl7, cl7, HG7⟩ := Kd.R_form HO_0.out (by omega)
     (first | cases eo7 | (injection eo7 with ea_ en_ ec_; (first | subst ea_ | (injection ea_ with ea_; subst ea_)); subst ec_; clear en_))
     have GB7 := Aside0.mk gb7; have GG7 := Aside0.mk HG7; clear gb7 gl7 HG7; have HMgo7 := am (show (P0_ go7 ∨ w.heap.size ≤ go7) from (HO_0.out.1 _ rfl)); obtain ⟨ce7, hcl7, hM7, hcc7, hfr7⟩ := Kd.R_elem HO_0.out z65 (x5_1 : Int) p7 q7; obtain rfl := k65_openM hM7; have hx7_0 : wr.cell? ⟨go7, (x5_1 : Int).toNat * 2, none⟩ = some (.int .i64 ((rd_T65 x0_1 x5_1).f0)) := hcc7 0 _ rfl; have hx7_1 : wr.cell? ⟨go7, (x5_1 : Int).toNat * 2 + 1, none⟩ = some (.int .i64 ((rd_T65 x0_1 x5_1).f1)) := hcc7 1 _ rfl; have hf7_0 : wr.frozen? ⟨go7, (x5_1 : Int).toNat * 2, none⟩ = false := hfr7 0; have hf7_1 : wr.frozen? ⟨go7, (x5_1 : Int).toNat * 2 + 1, none⟩ = false := hfr7 1; clear hcl7 hcc7 hfr7; (try clear hM7); replace p7 := eq_true p7; replace q7 := eq_true q7; have HX9 := am (show Kd.R k65 65 wr w0.heap.size (fun k_ => (P0_ k_ ∨ w.heap.size ≤ k_)) (.slice (some ⟨go7, 0, none⟩) x0_1.length co5) x0_1 from Q52); obtain ⟨ce9, hcl9, hM9, hcc9, hfr9⟩ := Kd.R_elem HX9.out z65 (x5_1 : Int) (of_decide_eq_true Q8) (by have h_ : (x5_1 : Int) < ((x0_1.length : Int) : Int) := of_decide_eq_true Q8; first | exact h_ | (have e_ := (Kd.R_reads' HO_0.out).1; omega) | simpa using h_); obtain rfl := k65_openM hM9; have HP9 := Kd.R_seg HX9.out (x5_1 : Int) (of_decide_eq_true Q8) (by have h_ : (x5_1 : Int) < ((x0_1.length : Int) : Int) := of_decide_eq_true Q8; first | exact h_ | (have e_ := (Kd.R_reads' HO_0.out).1; omega) | simpa using h_) (seg := [.int .i64 x1_1]) (j := 0) hcl9 hcc9 (show 1 ≤ 2 from by decide) (x' := (⟨x1_1, (rd_T65 x0_1 x5_1).f1⟩ : S65)) (k65_mkM _ _ _ (⟨x1_1, (rd_T65 x0_1 x5_1).f1⟩ : S65) ) (fun _ hk => hk); have hx9_0 := hcc9 0 _ rfl; (try simp only [show (k65).sz = 2 from rfl, Nat.mul_one, Nat.add_zero] at hx9_0); have hf9_0 := hfr9 0; (try simp only [show (k65).sz = 2 from rfl, Nat.mul_one, Nat.add_zero] at hf9_0); clear hcl9 hcc9 hfr9; (try clear hM9)
     go_wp2_with (first | ((with_reducible refine gate_store (t := 3) (p := 22) rfl ?_); refine store_event (t := 3) (p := 22) (v := ?vo_w10) (w1 := (wr.setCell ⟨go7, (x5_1 : Int).toNat * 2, none⟩ (.int .i64 x1_1))) ?hg ?ho ?hn ?hr ?_; (case ho => rfl); (case hg => rfl); (case hn => rfl); (case hr => first | (go_simp; done) | (go_simp; rfl)); intro w10 hw; have hg : wr.grownBy w10 (some go7) := (by rw [hw]; exact HP9.2); have hp_ : Kd.R k65 65 w10 w0.heap.size (fun k_ => (P0_ k_ ∨ w.heap.size ≤ k_)) (.slice (some ⟨go7, 0, none⟩) x0_1.length co5) y101 := (by rw [hw, Ny101.out]; exact HP9.1); clear HP9; replace HB := am ((by rw [hw]; exact below_set (HB.out) GB7.out : Below w0.heap.size w0 w10)); replace HK := am (Kept.of_grown (S := (fun k_ => P0_ k_)) hg (Q20 HK) (fun k_ e_ => (HO_0.out.1 k_ e_))); replace HO_0 := am (hp_); clear hg hw hp_))
     (try simp only [Exit.then]); rw [rounds_succ]; have H := HU8.out; clear HU8; obtain ⟨y102, hy102⟩ : ∃ y_ : List (S65), y_ = (y101.set (x5_1 : Int).toNat (⟨(rd_T65 y101 x5_1).f0, wrap64 (x1_1 + 1)⟩ : S65)) := ⟨_, rfl⟩; replace H : (laws_markIntA2S.l0 k1 y102 (wrap64 ((wrap64 (x1_1 + 1)) + 1)) (wrap64 (x5_1 + 1))) = some (r1, r2) := RH hy102 H; have Ny102 := Aside0.mk hy102; clear hy102; have HU12 := Aside0.mk H; clear H; have p11 : 0 ≤ (x5_1 : Int) := of_decide_eq_true Q8; have q11 : (x5_1 : Int) < ((x0_1.length : Int) : Int) := of_decide_eq_true Q8; obtain ⟨ce11, hcl11, hM11, hcc11, hfr11⟩ := Kd.R_elem HO_0.out z65 (x5_1 : Int) p11 q11; obtain rfl := k65_openM hM11; have hx11_0 : w10.cell? ⟨go7, (x5_1 : Int).toNat * 2, none⟩ = some (.int .i64 ((rd_T65 y101 x5_1).f0)) := hcc11 0 _ rfl; have hx11_1 : w10.cell? ⟨go7, (x5_1 : Int).toNat * 2 + 1, none⟩ = some (.int .i64 ((rd_T65 y101 x5_1).f1)) := hcc11 1 _ rfl; have hf11_0 : w10.frozen? ⟨go7, (x5_1 : Int).toNat * 2, none⟩ = false := hfr11 0; have hf11_1 : w10.frozen? ⟨go7, (x5_1 : Int).toNat * 2 + 1, none⟩ = false := hfr11 1; clear hcl11 hcc11 hfr11; (try clear hM11); replace p11 := eq_true p11; replace q11 := eq_true q11; have HX13 := am (show Kd.R k65 65 w10 w0.heap.size (fun k_ => (P0_ k_ ∨ w.heap.size ≤ k_)) (.slice (some ⟨go7, 0, none⟩) x0_1.length co5) y101 from Q52); obtain ⟨ce13, hcl13, hM13, hcc13, hfr13⟩ := Kd.R_elem HX13.out z65 (x5_1 : Int) (of_decide_eq_true Q8) (by have h_ : (x5_1 : Int) < ((x0_1.length : Int) : Int) := of_decide_eq_true Q8; first | exact h_ | (have e_ := (Kd.R_reads' HO_0.out).1; omega) | simpa using h_); obtain rfl := k65_openM hM13; have HP13 := Kd.R_seg HX13.out (x5_1 : Int) (of_decide_eq_true Q8) (by have h_ : (x5_1 : Int) < ((x0_1.length : Int) : Int) := of_decide_eq_true Q8; first | exact h_ | (have e_ := (Kd.R_reads' HO_0.out).1; omega) | simpa using h_) (seg := [.int .i64 (wrap64 (x1_1 + 1))]) (j := 1) hcl13 hcc13 (show 2 ≤ 2 from by decide) (x' := (⟨(rd_T65 y101 x5_1).f0, wrap64 (x1_1 + 1)⟩ : S65)) (k65_mkM _ _ _ (⟨(rd_T65 y101 x5_1).f0, wrap64 (x1_1 + 1)⟩ : S65) ) (fun _ hk => hk); have hx13_1 := hcc13 1 _ rfl; (try simp only [show (k65).sz = 2 from rfl, Nat.mul_one, Nat.add_zero] at hx13_1); have hf13_1 := hfr13 1; (try simp only [show (k65).sz = 2 from rfl, Nat.mul_one, Nat.add_zero] at hf13_1); clear hcl13 hcc13 hfr13; (try clear hM13)
     go_wp2_with (first | ((with_reducible refine gate_store (t := 3) (p := 22) rfl ?_); refine store_event (t := 3) (p := 22) (v := ?vo_w14) (w1 := (w10.setCell ⟨go7, (x5_1 : Int).toNat * 2 + 1, none⟩ (.int .i64 (wrap64 (x1_1 + 1))))) ?hg ?ho ?hn ?hr ?_; (case ho => rfl); (case hg => rfl); (case hn => rfl); (case hr => first | (go_simp; done) | (go_simp; rfl)); intro w14 hw; have hg : w10.grownBy w14 (some go7) := (by rw [hw]; exact HP13.2); have hp_ : Kd.R k65 65 w14 w0.heap.size (fun k_ => (P0_ k_ ∨ w.heap.size ≤ k_)) (.slice (some ⟨go7, 0, none⟩) x0_1.length co5) y102 := (by rw [hw, Ny102.out]; exact HP13.1); clear HP13; replace HB := am ((by rw [hw]; exact below_set (HB.out) GB7.out : Below w0.heap.size w0 w14)); replace HK := am (Kept.of_grown (S := (fun k_ => P0_ k_)) hg (Q20 HK) (fun k_ e_ => (HO_0.out.1 k_ e_))); replace HO_0 := am (hp_); clear hg hw hp_))
     (try simp only [Exit.then]); rw [rounds_succ]; have H := HU12.out; clear HU12; have H' := Aside0.mk H; clear H
     go_wp2
     go_roundg k1
     case measure => have := HK1.out; omega
     case rel => exact ⟨(y102), (wrap64 ((wrap64 (x1_1 + 1)) + 1)), (wrap64 (x5_1 + 1)), Q10, Q10, H', ⟨Q57⟩, ⟨Q52⟩, ⟨Q20 HK⟩, ⟨Q1 HB⟩⟩
    ·rw [if_neg c6] at H
     exact absurd H (by simp)
   ·rw [if_neg c3] at H
    have c3b0 : decide (x5_1 < (x0_1.length : Int)) = false := decide_eq_false c3; clear c3
    simp only [Option.some.injEq, Prod.mk.injEq] at H
    obtain ⟨rfl, rfl⟩ := H; obtain ⟨Ao15, co15, eo15⟩ := Kd.R_slice HO_0.out; subst eo15
    go_wp2
    go_ret
    exact ⟨Q9, Q52, Q1 HB, Q20 HK⟩
/-! ### laws_markGraph: function 24 -/
def laws_markGraph.f (k : Nat) (a0_0 : Int) (l0_1 : List (S65)) (a1 : Int) : Option (Int × (List (S65))) := (laws_markIntA2S.f k l0_1 a1).bind fun bt102 => (some (bt102.1, bt102.2))
theorem laws_markGraph.mono : ∀ a0 a1 a2 k, LeO (laws_markGraph.f k a0 a1 a2) (laws_markGraph.f (k + 1) a0 a1 a2) := by
 intro a0 a1 a2 k
 unfold laws_markGraph.f
 repeat' first | (with_reducible first | exact laws_markIntA2S.mono _ _ _ | exact LeO.refl _ | exact LeO.none _ | refine LeO.ite ?_ ?_ | refine LeO.bind ?_ (fun _ => ?_))
set_option maxHeartbeats 8000000 in
set_option maxRecDepth 100000 in
theorem laws_markGraph.calls (k : Nat) (a0_0 : Int) (P0_1_ : Nat → Prop) (u9000_ : Value) (l0_1 : List (S65)) (a1 : Int) (r1 : Int) (r2 : List (S65)) (w0 w : World) (hB : Below w0.heap.size w0 w) (ho0_1 : Kd.R k65 65 w w0.heap.size P0_1_ u9000_ l0_1) (h : laws_markGraph.f k a0_0 l0_1 a1 = some (r1, r2)) :
  Calls Try.prog 24 #[.agg #[.int .i64 a0_0, u9000_], .int .i64 a1] w fun e w' => e = .returned (.int .i64 r1) ∧ Kd.R k65 65 w' w0.heap.size (fun k_ => (P0_1_ k_ ∨ w.heap.size ≤ k_)) u9000_ r2 ∧ Below w0.heap.size w0 w' ∧ Kept w w' (fun k_ => P0_1_ k_) := by
 have hu29 := Try.underlying29
 have HO0_1 := am (show Kd.R k65 65 w w0.heap.size (fun k_ => (P0_1_ k_ ∨ w.heap.size ≤ k_)) u9000_ l0_1 from Kd.R_mono ho0_1 (fun k_ hk => (.inl hk)))
 have HK := am (Kept.refl w (fun k_ => P0_1_ k_))
 have HW0 := Aside0.mk hB.size
 have HB := Aside0.mk hB
 clear hB
 have H : ((laws_markIntA2S.f k l0_1 a1).bind fun bt102 => (some (bt102.1, bt102.2))) = some (r1, r2) := h
 clear h
 replace H := (ob H)
 obtain ⟨⟨t102, t103⟩, A30, H⟩ := H
 (try dsimp only at H)
 have A3 := Aside0.mk A30
 clear A30
 simp only [Option.some.injEq, Prod.mk.injEq] at H
 obtain ⟨rfl, rfl⟩ := H
 obtain ⟨Ao4, co4, eo4⟩ := Kd.R_slice HO0_1.out
 subst eo4
 go_enter Try.func24, Try.ntmps24
 go_wp2_with (first | ((with_reducible refine gate_dst (N := 2) rfl ?_); refine box_event ?hg (N := 2) ?hd (cs := #[.int .i64 a0_0, .slice Ao4 l0_1.length co4]) (t := 29) ?hr ?_; (case hd => rfl); (case hg => rfl); (case hr => first | (go_simp; done) | (go_simp; rfl)); intro gb101 hg w5 hbox hb; replace HO0_1 := am (Kd.R_below (Q3 HO0_1) hb); have BK101 := am (hbox); have GW101 := am ((by rw [hg]; exact (by first | exact HK.out.1 | exact (show Kept w _ (fun k_ => P0_1_ k_) from Q20 HK).1) : w.heap.size ≤ gb101)); replace HK := am (Kept.below (S := (fun k_ => P0_1_ k_)) (Q20 HK) hb); have GE101 := am ((Q25 : w0.heap.size ≤ gb101)); replace HB := am (below_step (Q1 HB) hb); clear hb hbox hg; have hcz6_0 : w5.cell? ⟨gb101, 0, none⟩ = some (.int .i64 a0_0) := (blk_cell BK101.out 0).trans rfl; have hcz6_1 : w5.cell? ⟨gb101, 1, none⟩ = some (.slice Ao4 l0_1.length co4) := (blk_cell BK101.out 1).trans rfl; have hfz6_0 := blk_frozen BK101.out 0; have hfz6_1 := blk_frozen BK101.out 1) | ((with_reducible refine gate_callee (f := 65) rfl ?_); refine goesL_ (some 8) rfl rfl Try.func65 (by kernel_rfl) rfl #[.slice Ao4 l0_1.length co4, .int .i64 a1] rfl Q4 ?_; (with_reducible refine (laws_markIntA2S.calls k (fun k_ => some k_ = (.slice Ao4 l0_1.length co4 : Value).ownBlock) (.slice Ao4 l0_1.length co4) l0_1 a1 t102 t103 w0 _ ?side1 ?side2 A3.out).mono ?_); (case side1 => exact (Q1 HB)); (case side2 => exact Kd.R_tight rfl HO0_1.out); rintro e w7 ⟨rfl, hy0, hb, hkp⟩; refine ⟨_, rfl, ?_⟩; replace BK101 := am (blk_kept (Q32 BK101) hkp (fun hs_ => (fun e_ => (Kd.R_ne HO0_1.out BK101.out (by decide)) e_) hs_)); replace HK := am (Kept.then_ (S := (fun k_ => P0_1_ k_)) (by repeat (first | (with_reducible first | exact HK.out | apply Kept.alloc | apply Kept.drewN | apply Kept.drew | refine Kept.setCell ?_ (.inr GW101.out) _) | exact HK.out)) hkp (fun k_ hs_ => (fun e_ => (HO0_1.out.1 k_ e_.symm)) hs_)); replace HO0_1 := am (Kd.R_reok rfl hy0 (fun k_ e_ => HO0_1.out.1 k_ e_)); replace HB := am (hb); (try clear hb); (try clear hkp); (try clear hy0)))
 go_ret
 exact ⟨Q9, Q3 HO0_1, Q1 HB, by repeat (first | (with_reducible first | exact HK.out | apply Kept.alloc | apply Kept.drewN | apply Kept.drew | refine Kept.setCell ?_ (.inr GW101.out) _) | exact HK.out)⟩
/-! ### laws_heldIntA2S: function 66 -/
def laws_heldIntA2S.l0 : Nat → List (S65) → Int → Int → Option (Int)
 | 0, _, _, _ => none
 | k + 1, x0, x1, x5 => if x5 < (x0.length : Int) then (if 0 ≤ x5 then (if ((rd_T65 x0 x5).f0) = x1 then (if ((rd_T65 x0 x5).f1) = (wrap64 (x1 + 1)) then (laws_heldIntA2S.l0 k x0 (wrap64 ((wrap64 (x1 + 1)) + 1)) (wrap64 (x5 + 1))) else (some (-1))) else (some (-1))) else (none)) else (some x1)
def laws_heldIntA2S.f (k : Nat) (l0 : List (S65)) (a1 : Int) : Option (Int) := laws_heldIntA2S.l0 k l0 a1 0
theorem laws_heldIntA2S.mono_l : ∀ k, (∀ y0 y1 y2, LeO (laws_heldIntA2S.l0 k y0 y1 y2) (laws_heldIntA2S.l0 (k + 1) y0 y1 y2))
 | 0 => fun _ _ _ r h => by simp [laws_heldIntA2S.l0] at h
 | k + 1 => by
  have ih0 := laws_heldIntA2S.mono_l k
  all_goals
   intros
   first | unfold laws_heldIntA2S.l0
   repeat' first | (with_reducible first | exact ih0 _ _ _ | exact LeO.refl _ | exact LeO.none _ | refine LeO.ite ?_ ?_ | refine LeO.bind ?_ (fun _ => ?_))
theorem laws_heldIntA2S.mono : ∀ a0 a1 k, LeO (laws_heldIntA2S.f k a0 a1) (laws_heldIntA2S.f (k + 1) a0 a1) := by
 intro a0 a1 k
 have ih0 := laws_heldIntA2S.mono_l k
 unfold laws_heldIntA2S.f
 repeat' first | (with_reducible first | exact ih0 _ _ _ | exact LeO.refl _ | exact LeO.none _ | refine LeO.ite ?_ ?_ | refine LeO.bind ?_ (fun _ => ?_))
set_option maxHeartbeats 8000000 in
set_option maxRecDepth 100000 in
theorem laws_heldIntA2S.calls (k : Nat) (A0 : Option Addr) (c0 : Nat) (l0 : List (S65)) (a1 : Int) (r : Int) (w : World) (hr0 : Kd.C k65 w A0 l0.length l0) (hc0 : l0.length ≤ c0) (h : laws_heldIntA2S.f k l0 a1 = some r) :
  Calls Try.prog 66 #[.slice A0 l0.length c0, .int .i64 a1] w fun e w' => e = .returned (.int .i64 r) ∧ Drawn0 w w' := by
 have HR0 := Aside0.mk hr0
 have HC0 := Aside0.mk hc0
 clear hr0 hc0
 have H : (laws_heldIntA2S.l0 k l0 a1 0) = some r := h
 clear h
 have H' := Aside0.mk H
 clear H
 go_enter Try.func66, Try.ntmps66
 go_wp2
 go_loopg [1, 5] k (fun kq v1 v5 w' => ∃ (x1_1 : Int) (x5_1 : Int), v1 = .int .i64 x1_1 ∧ v5 = .int .i64 x5_1 ∧ Aside0 (laws_heldIntA2S.l0 kq l0 x1_1 x5_1 = some r) ∧ Aside0 (kq ≤ k) ∧ Drawn0 w w')
 case atStart => exact ⟨(a1), (0), Q10, Q10, H', ⟨Nat.le_refl _⟩, Q13⟩
 case round =>
  clear H'
  try clear p2
  obtain ⟨x1_1, x5_1, rfl, rfl, HA, HK1, ⟨m1, rfl⟩⟩ := hrel
  cases gk with
  | zero => exact absurd HA.out (by simp [laws_heldIntA2S.l0])
  | succ k1 =>
   have H := HA.out; clear HA
   simp only [laws_heldIntA2S.l0] at H
   by_cases c3 : x5_1 < (l0.length : Int)
   ·rw [if_pos c3] at H
    have c3b0 : decide (x5_1 < (l0.length : Int)) = true := decide_eq_true c3; clear c3; have HU4 := Aside0.mk H; clear H
    go_wp2
    refine wp_loop_rounds 3 ?_; (try simp only [Exit.then]); rw [rounds_succ]; have H := HU4.out; clear HU4
    by_cases c5 : 0 ≤ x5_1
    ·rw [if_pos c5] at H
     have c5b0 := decide_eq_true c5; clear c5; have HU6 := Aside0.mk H; clear H; have p101 : 0 ≤ (x5_1 : Int) := of_decide_eq_true Q8; have q101 : x5_1 < (l0.length : Int) := of_decide_eq_true Q8; obtain ⟨ad101, e101, hx101_0, hx101_1⟩ := at_T65 HR0.out x5_1 p101 q101
     cases e101
     replace p101 := eq_true p101; replace q101 := eq_true q101
     go_upto_if 24 with (fail)
     have H := HU6.out; clear HU6
     by_cases c7 : ((rd_T65 l0 x5_1).f0) = x1_1
     ·rw [if_pos c7] at H
      have c7b0 := beq_iff_eq.mpr c7; have c7b1 := bne_eq_false_iff_eq.mpr c7; clear c7
      (first | rw [c7b0] | (simp only [i64_w, i32_w]; rw [c7b0]) | rw [c7b1] | skip)
      have HU8 := Aside0.mk H; clear H
      go_wp2
      (try simp only [Exit.then]); rw [rounds_succ]; have H := HU8.out; clear HU8; have HU9 := Aside0.mk H; clear H; have p102 : 0 ≤ (x5_1 : Int) := of_decide_eq_true Q8; have q102 : x5_1 < (l0.length : Int) := of_decide_eq_true Q8; obtain ⟨ad102, e102, hx102_0, hx102_1⟩ := at_T65 HR0.out x5_1 p102 q102; obtain rfl : ad101 = ad102 := (by injection e102); replace p102 := eq_true p102; replace q102 := eq_true q102
      go_upto_if 24 with (fail)
      have H := HU9.out; clear HU9
      by_cases c10 : ((rd_T65 l0 x5_1).f1) = (wrap64 (x1_1 + 1))
      ·rw [if_pos c10] at H
       have c10b0 := beq_iff_eq.mpr c10; have c10b1 := bne_eq_false_iff_eq.mpr c10; clear c10
       (first | rw [c10b0] | (simp only [i64_w, i32_w]; rw [c10b0]) | rw [c10b1] | skip)
       have HU11 := Aside0.mk H; clear H
       go_wp2
       (try simp only [Exit.then]); rw [rounds_succ]; have H := HU11.out; clear HU11; have H' := Aside0.mk H; clear H
       go_wp2
       go_roundg k1
       case measure => have := HK1.out; omega
       case rel => exact ⟨(wrap64 ((wrap64 (x1_1 + 1)) + 1)), (wrap64 (x5_1 + 1)), Q10, Q10, H', ⟨Q57⟩, Q13⟩
      ·rw [if_neg c10] at H
       have c10b0 := beq_eq_false_iff_ne.mpr c10; have c10b1 := bne_iff_ne.mpr c10
       (first | rw [c10b0] | (simp only [i64_w, i32_w]; rw [c10b0]) | rw [c10b1] | skip)
       obtain rfl := Option.some.inj H
       go_wp2
       go_ret
       exact ⟨Q10, Q13⟩
     ·rw [if_neg c7] at H
      have c7b0 := beq_eq_false_iff_ne.mpr c7; have c7b1 := bne_iff_ne.mpr c7
      (first | rw [c7b0] | (simp only [i64_w, i32_w]; rw [c7b0]) | rw [c7b1] | skip)
      obtain rfl := Option.some.inj H
      go_wp2
      go_ret
      exact ⟨Q10, Q13⟩
    ·rw [if_neg c5] at H
     exact absurd H (by simp)
   ·rw [if_neg c3] at H
    have c3b0 : decide (x5_1 < (l0.length : Int)) = false := decide_eq_false c3; clear c3; obtain rfl := Option.some.inj H
    go_wp2
    go_ret
    exact ⟨Q10, Q13⟩
/-! ### laws_heldGraph: function 25 -/
def laws_heldGraph.f (k : Nat) (a0_0 : Int) (l0_1 : List (S65)) (a1 : Int) : Option (Int) := (laws_heldIntA2S.f k l0_1 a1).bind fun t102 => (if t102 < 0 then (some (-1)) else (some t102))
theorem laws_heldGraph.mono : ∀ a0 a1 a2 k, LeO (laws_heldGraph.f k a0 a1 a2) (laws_heldGraph.f (k + 1) a0 a1 a2) := by
 intro a0 a1 a2 k
 unfold laws_heldGraph.f
 repeat' first | (with_reducible first | exact laws_heldIntA2S.mono _ _ _ | exact LeO.refl _ | exact LeO.none _ | refine LeO.ite ?_ ?_ | refine LeO.bind ?_ (fun _ => ?_))
set_option maxHeartbeats 8000000 in
set_option maxRecDepth 100000 in
theorem laws_heldGraph.calls (k : Nat) (a0_0 : Int) (A0_1 : Option Addr) (c0_1 : Nat) (l0_1 : List (S65)) (a1 : Int) (r : Int) (w : World) (hr0_1 : Kd.C k65 w A0_1 l0_1.length l0_1) (hc0_1 : l0_1.length ≤ c0_1) (h : laws_heldGraph.f k a0_0 l0_1 a1 = some r) :
  Calls Try.prog 25 #[.agg #[.int .i64 a0_0, .slice A0_1 l0_1.length c0_1], .int .i64 a1] w fun e w' => e = .returned (.int .i64 r) ∧ Below w.heap.size w w' := by
 have hu29 := Try.underlying29
 have HR0_1 := Aside0.mk hr0_1
 have HC0_1 := Aside0.mk hc0_1
 clear hr0_1 hc0_1
 have HB := am (Below.refl w.heap.size w)
 have H : ((laws_heldIntA2S.f k l0_1 a1).bind fun t102 => (if t102 < 0 then (some (-1)) else (some t102))) = some r := h
 clear h
 replace H := (ob H)
 obtain ⟨t102, A30, H⟩ := H
 (try dsimp only at H)
 have A3 := Aside0.mk A30
 clear A30
 have HU4 := Aside0.mk H
 clear H
 go_enter Try.func25, Try.ntmps25
 go_upto_if 10 with (first | ((with_reducible refine gate_dst (N := 2) rfl ?_); refine box_event ?hg (N := 2) ?hd (cs := #[.int .i64 a0_0, .slice A0_1 l0_1.length c0_1]) (t := 29) ?hr ?_; (case hd => rfl); (case hg => rfl); (case hr => first | (go_simp; done) | (go_simp; rfl)); intro gb101 hg w5 hbox hb; have BK101 := am (hbox); have GW101 := am ((Q25 : w.heap.size ≤ gb101)); have GE101 := am ((Q25 : w.heap.size ≤ gb101)); replace HB := am (below_step (Q1 HB) hb); clear hb hbox hg; have hcz6_0 : w5.cell? ⟨gb101, 0, none⟩ = some (.int .i64 a0_0) := (blk_cell BK101.out 0).trans rfl; have hcz6_1 : w5.cell? ⟨gb101, 1, none⟩ = some (.slice A0_1 l0_1.length c0_1) := (blk_cell BK101.out 1).trans rfl; have hfz6_0 := blk_frozen BK101.out 0; have hfz6_1 := blk_frozen BK101.out 1) | ((with_reducible refine gate_callee (f := 66) rfl ?_); refine goesL_ (some 8) rfl rfl Try.func66 (by kernel_rfl) rfl #[.slice A0_1 l0_1.length c0_1, .int .i64 a1] rfl Q4 ?_; (with_reducible refine (laws_heldIntA2S.calls k _ _ l0_1 a1 t102 _ ?side1 ?side2 A3.out).mono ?_); (case side1 => exact (Q7 HR0_1 HB)); (case side2 => exact HC0_1.out); rintro e w' ⟨rfl, ⟨nd, rfl⟩⟩; refine ⟨_, rfl, ?_⟩))
 (try simp only [Act.put, List.setIfInBounds_toArray, List.set_cons_zero, List.set_cons_succ])
 have H := HU4.out
 clear HU4
 by_cases c7 : t102 < 0
 ·rw [if_pos c7] at H
  have c7b0 : decide (t102 < 0) = true := decide_eq_true c7; clear c7
  (first | rw [c7b0] | (simp only [i64_w, i32_w]; rw [c7b0]) | skip)
  obtain rfl := Option.some.inj H
  go_wp2
  go_ret
  exact ⟨Q9, Q1 HB⟩
 ·rw [if_neg c7] at H
  have c7b0 : decide (t102 < 0) = false := decide_eq_false c7; clear c7
  (first | rw [c7b0] | (simp only [i64_w, i32_w]; rw [c7b0]) | skip)
  obtain rfl := Option.some.inj H
  go_wp2
  go_ret
  exact ⟨Q9, Q1 HB⟩
theorem eqA65 (d : Nat) (w : World) (x0 y0 : Int) (x1 y1 : Int) :
  (Op.equalIn (d + 2) 65 (.agg #[.int .i64 x0, .int .i64 x1]) (.agg #[.int .i64 y0, .int .i64 y1])).run Try.prog w = .ok (x0 == y0 && (x1 == y1)) w := by
 have hi : ∃ i, Try.prog.info? 3 = some i := by
  have h : (Try.prog.info? 3).isSome = true := by kernel_rfl
  exact Option.isSome_iff_exists.1 h
 obtain ⟨i, hi⟩ := hi
 have hc : Try.prog.cellsOf 3 = 1 := by kernel_rfl
 rw [run_equalIn_array (P := Try.prog) w (d + 1) _ _ Try.underlying65 hi, hc]
 have pa : ∀ a b : Int, (part 3 (#[.int .i64 a, .int .i64 b] : Array Value) (0 * 1)).run Try.prog w = .ok (.int .i64 a) w := fun a b => by go_simp
 have pb : ∀ a b : Int, (part 3 (#[.int .i64 a, .int .i64 b] : Array Value) (1 * 1)).run Try.prog w = .ok (.int .i64 b) w := fun a b => by go_simp
 have pe : ∀ a b : Int, (Op.equalIn (d + 1) 3 (.int .i64 a) (.int .i64 b)).run Try.prog w = .ok (a == b) w := fun a b => by go_simp
 show (Op.eqItems (d + 1) 3 1 _ _ [0, 1]).run Try.prog w = _
 simp only [Op.eqItems, Sem.run_bind, pa, pb, pe, Result.andThen_ok]
 cases hx : (x0 == y0) <;> cases hy : (x1 == y1) <;> simp [pa, pb, pe, hy]
/-! ### spec_l1In: function 95 -/
def spec_l1In.f (a0 : Int) (a1 : Int) (a2 : Int) : Option (Bool) := if a0 ≥ a1 then (some (decide (a0 ≤ a2))) else (some false)
set_option maxHeartbeats 8000000 in
set_option maxRecDepth 100000 in
theorem spec_l1In.calls (a0 : Int) (a1 : Int) (a2 : Int) (r : Bool) (w : World) (h : spec_l1In.f a0 a1 a2 = some r) :
  Calls Try.prog 95 #[.int .i64 a0, .int .i64 a1, .int .i64 a2] w fun e w' => e = .returned (.bool r) ∧ Drawn0 w w' := by
 have H : (if a0 ≥ a1 then (some (decide (a0 ≤ a2))) else (some false)) = some r := h
 clear h
 by_cases c4 : a0 ≥ a1
 ·rw [if_pos c4] at H
  have c4b0 : decide (a1 ≤ a0) = true := decide_eq_true c4; clear c4; obtain rfl := Option.some.inj H
  go_enter Try.func95, Try.ntmps95
  go_wp2
  go_ret
  exact ⟨Q10, Q13⟩
 ·rw [if_neg c4] at H
  have c4b0 : decide (a1 ≤ a0) = false := decide_eq_false c4; clear c4; obtain rfl := Option.some.inj H
  go_enter Try.func95, Try.ntmps95
  go_wp2
  go_ret
  exact ⟨Q10, Q13⟩
/-! ### spec_l2Before: function 96 -/
def spec_l2Before.f (a0_0 : Int) (a0_1 : Int) (a1_0 : Int) (a1_1 : Int) : Option (Bool) := if a0_0 < a1_0 then (some true) else (if a0_0 = a1_0 then (some (decide (a0_1 < a1_1))) else (some false))
set_option maxHeartbeats 8000000 in
set_option maxRecDepth 100000 in
theorem spec_l2Before.calls (a0_0 : Int) (a0_1 : Int) (a1_0 : Int) (a1_1 : Int) (r : Bool) (w : World) (h : spec_l2Before.f a0_0 a0_1 a1_0 a1_1 = some r) :
  Calls Try.prog 96 #[.agg #[.int .i64 a0_0, .int .i64 a0_1], .agg #[.int .i64 a1_0, .int .i64 a1_1]] w fun e w' => e = .returned (.bool r) ∧ Below w.heap.size w w' := by
 have hu65 := Try.underlying65
 have HB := am (Below.refl w.heap.size w)
 have H : (if a0_0 < a1_0 then (some true) else (if a0_0 = a1_0 then (some (decide (a0_1 < a1_1))) else (some false))) = some r := h
 clear h
 have HU3 := Aside0.mk H
 clear H
 go_enter Try.func96, Try.ntmps96
 go_upto_region 1 with (first | ((with_reducible refine gate_dst (N := 2) rfl ?_); refine box_event ?hg (N := 2) ?hd (cs := #[.int .i64 a0_0, .int .i64 a0_1]) (t := 65) ?hr ?_; (case hd => rfl); (case hg => rfl); (case hr => first | (go_simp; done) | (go_simp; rfl)); intro gb101 hg w4 hbox hb; have BK101 := am (hbox); have GW101 := am ((Q25 : w.heap.size ≤ gb101)); have GE101 := am ((Q25 : w.heap.size ≤ gb101)); replace HB := am (below_step (Q1 HB) hb); clear hb hbox hg) | ((with_reducible refine gate_dst (N := 3) rfl ?_); refine box_event ?hg (N := 3) ?hd (cs := #[.int .i64 a1_0, .int .i64 a1_1]) (t := 65) ?hr ?_; (case hd => rfl); (case hg => rfl); (case hr => first | (go_simp; done) | (go_simp; rfl)); intro gb102 hg w5 hbox hb; have BK102 := am (hbox); have GW102 := am ((Q25 : w.heap.size ≤ gb102)); have GE102 := am ((Q25 : w.heap.size ≤ gb102)); replace HB := am (below_step (Q1 HB) hb); have NB101_102 := am ((Q33 : gb101 ≠ gb102)); have NB102_101 := am ((Q34 : gb102 ≠ gb101)); replace BK101 := am (blk_below (g := gb101) (o := .cells #[.int .i64 a0_0, .int .i64 a0_1] 65 (0, 0)) (Q0 BK101) hb); clear hb hbox hg))
 (try simp only [Act.put, List.setIfInBounds_toArray, List.set_cons_zero, List.set_cons_succ])
 have H := HU3.out
 clear HU3
 by_cases c6 : a0_0 < a1_0
 ·rw [if_pos c6] at H
  have c6b0 := decide_eq_true c6; clear c6; obtain rfl := Option.some.inj H; have hnb7 := NB101_102.out; have hnc7 := NB102_101.out; have hcz8_0 : w5.cell? ⟨gb101, 0, none⟩ = some (.int .i64 a0_0) := (blk_cell BK101.out 0).trans rfl; have hcz8_1 : w5.cell? ⟨gb101, 1, none⟩ = some (.int .i64 a0_1) := (blk_cell BK101.out 1).trans rfl; have hfz8_0 := blk_frozen BK101.out 0; have hfz8_1 := blk_frozen BK101.out 1; have hcz9_0 : w5.cell? ⟨gb102, 0, none⟩ = some (.int .i64 a1_0) := (blk_cell BK102.out 0).trans rfl; have hcz9_1 : w5.cell? ⟨gb102, 1, none⟩ = some (.int .i64 a1_1) := (blk_cell BK102.out 1).trans rfl; have hfz9_0 := blk_frozen BK102.out 0; have hfz9_1 := blk_frozen BK102.out 1
  go_wp2
  go_ret
  exact ⟨Q9, Q1 HB⟩
 ·rw [if_neg c6] at H
  have c6b0 := decide_eq_false c6; clear c6
  by_cases c10 : a0_0 = a1_0
  ·rw [if_pos c10] at H
   have c10b0 := beq_iff_eq.mpr c10; have c10b1 := bne_eq_false_iff_eq.mpr c10; clear c10; obtain rfl := Option.some.inj H; have hnb11 := NB101_102.out; have hnc11 := NB102_101.out; have hcz12_0 : w5.cell? ⟨gb101, 0, none⟩ = some (.int .i64 a0_0) := (blk_cell BK101.out 0).trans rfl; have hcz12_1 : w5.cell? ⟨gb101, 1, none⟩ = some (.int .i64 a0_1) := (blk_cell BK101.out 1).trans rfl; have hfz12_0 := blk_frozen BK101.out 0; have hfz12_1 := blk_frozen BK101.out 1; have hcz13_0 : w5.cell? ⟨gb102, 0, none⟩ = some (.int .i64 a1_0) := (blk_cell BK102.out 0).trans rfl; have hcz13_1 : w5.cell? ⟨gb102, 1, none⟩ = some (.int .i64 a1_1) := (blk_cell BK102.out 1).trans rfl; have hfz13_0 := blk_frozen BK102.out 0; have hfz13_1 := blk_frozen BK102.out 1
   go_wp2
   go_ret
   exact ⟨Q9, Q1 HB⟩
  ·rw [if_neg c10] at H
   have c10b0 := beq_eq_false_iff_ne.mpr c10; have c10b1 := bne_iff_ne.mpr c10; obtain rfl := Option.some.inj H; have hnb14 := NB101_102.out; have hnc14 := NB102_101.out; have hcz15_0 : w5.cell? ⟨gb101, 0, none⟩ = some (.int .i64 a0_0) := (blk_cell BK101.out 0).trans rfl; have hcz15_1 : w5.cell? ⟨gb101, 1, none⟩ = some (.int .i64 a0_1) := (blk_cell BK101.out 1).trans rfl; have hfz15_0 := blk_frozen BK101.out 0; have hfz15_1 := blk_frozen BK101.out 1; have hcz16_0 : w5.cell? ⟨gb102, 0, none⟩ = some (.int .i64 a1_0) := (blk_cell BK102.out 0).trans rfl; have hcz16_1 : w5.cell? ⟨gb102, 1, none⟩ = some (.int .i64 a1_1) := (blk_cell BK102.out 1).trans rfl; have hfz16_0 := blk_frozen BK102.out 0; have hfz16_1 := blk_frozen BK102.out 1
   go_wp2
   go_ret
   exact ⟨Q9, Q1 HB⟩
/-! ### spec_l2Node: function 58 -/
def spec_l2Node.f (a0_0 : Int) (l0_1 : List (S65)) (a1 : Int) : Option (Bool) := (spec_l1In.f a1 0 (wrap64 (a0_0 - 1))).bind fun t102 => (some t102)
set_option maxHeartbeats 8000000 in
set_option maxRecDepth 100000 in
theorem spec_l2Node.calls (a0_0 : Int) (A0_1 : Option Addr) (c0_1 : Nat) (l0_1 : List (S65)) (a1 : Int) (r : Bool) (w : World) (hr0_1 : Kd.C k65 w A0_1 l0_1.length l0_1) (hc0_1 : l0_1.length ≤ c0_1) (h : spec_l2Node.f a0_0 l0_1 a1 = some r) :
  Calls Try.prog 58 #[.agg #[.int .i64 a0_0, .slice A0_1 l0_1.length c0_1], .int .i64 a1] w fun e w' => e = .returned (.bool r) ∧ Below w.heap.size w w' := by
 have hu29 := Try.underlying29
 have HR0_1 := Aside0.mk hr0_1
 have HC0_1 := Aside0.mk hc0_1
 clear hr0_1 hc0_1
 have HB := am (Below.refl w.heap.size w)
 have H : ((spec_l1In.f a1 0 (wrap64 (a0_0 - 1))).bind fun t102 => (some t102)) = some r := h
 clear h
 replace H := (ob H)
 obtain ⟨t102, A30, H⟩ := H
 (try dsimp only at H)
 have A3 := Aside0.mk A30
 clear A30
 obtain rfl := Option.some.inj H
 go_enter Try.func58, Try.ntmps58
 go_wp2_with (first | ((with_reducible refine gate_dst (N := 2) rfl ?_); refine box_event ?hg (N := 2) ?hd (cs := #[.int .i64 a0_0, .slice A0_1 l0_1.length c0_1]) (t := 29) ?hr ?_; (case hd => rfl); (case hg => rfl); (case hr => first | (go_simp; done) | (go_simp; rfl)); intro gb101 hg w4 hbox hb; have BK101 := am (hbox); have GW101 := am ((Q25 : w.heap.size ≤ gb101)); have GE101 := am ((Q25 : w.heap.size ≤ gb101)); replace HB := am (below_step (Q1 HB) hb); clear hb hbox hg; have hcz5_0 : w4.cell? ⟨gb101, 0, none⟩ = some (.int .i64 a0_0) := (blk_cell BK101.out 0).trans rfl; have hcz5_1 : w4.cell? ⟨gb101, 1, none⟩ = some (.slice A0_1 l0_1.length c0_1) := (blk_cell BK101.out 1).trans rfl; have hfz5_0 := blk_frozen BK101.out 0; have hfz5_1 := blk_frozen BK101.out 1) | ((with_reducible refine gate_callee (f := 95) rfl ?_); refine goesL_ (some 9) rfl rfl Try.func95 (by kernel_rfl) rfl #[.int .i64 a1, .int .i64 0, .int .i64 (wrap64 (a0_0 - 1))] rfl Q4 ?_; (with_reducible refine (spec_l1In.calls a1 0 (wrap64 (a0_0 - 1)) t102 _ A3.out).mono ?_); rintro e w' ⟨rfl, ⟨nd, rfl⟩⟩; refine ⟨_, rfl, ?_⟩))
 go_ret
 exact ⟨Q9, Q1 HB⟩
/-! ### spec_l1Least: function 59 -/
def spec_l1Least.f (a0 : Int) (a1 : Int) : Option (Int) := if a0 < a1 then (some a0) else (some a1)
set_option maxHeartbeats 8000000 in
set_option maxRecDepth 100000 in
theorem spec_l1Least.calls (a0 : Int) (a1 : Int) (r : Int) (w : World) (h : spec_l1Least.f a0 a1 = some r) :
  Calls Try.prog 59 #[.int .i64 a0, .int .i64 a1] w fun e w' => e = .returned (.int .i64 r) ∧ Drawn0 w w' := by
 have H : (if a0 < a1 then (some a0) else (some a1)) = some r := h
 clear h
 by_cases c3 : a0 < a1
 ·rw [if_pos c3] at H
  have c3b0 : decide (a0 < a1) = true := decide_eq_true c3; clear c3; obtain rfl := Option.some.inj H
  go_enter Try.func59, Try.ntmps59
  go_wp2
  go_ret
  exact ⟨Q10, Q13⟩
 ·rw [if_neg c3] at H
  have c3b0 : decide (a0 < a1) = false := decide_eq_false c3; clear c3; obtain rfl := Option.some.inj H
  go_enter Try.func59, Try.ntmps59
  go_wp2
  go_ret
  exact ⟨Q10, Q13⟩
/-! ### spec_l1Most: function 60 -/
def spec_l1Most.f (a0 : Int) (a1 : Int) : Option (Int) := if a0 > a1 then (some a0) else (some a1)
set_option maxHeartbeats 8000000 in
set_option maxRecDepth 100000 in
theorem spec_l1Most.calls (a0 : Int) (a1 : Int) (r : Int) (w : World) (h : spec_l1Most.f a0 a1 = some r) :
  Calls Try.prog 60 #[.int .i64 a0, .int .i64 a1] w fun e w' => e = .returned (.int .i64 r) ∧ Drawn0 w w' := by
 have H : (if a0 > a1 then (some a0) else (some a1)) = some r := h
 clear h
 by_cases c3 : a0 > a1
 ·rw [if_pos c3] at H
  have c3b0 : decide (a1 < a0) = true := decide_eq_true c3; clear c3; obtain rfl := Option.some.inj H
  go_enter Try.func60, Try.ntmps60
  go_wp2
  go_ret
  exact ⟨Q10, Q13⟩
 ·rw [if_neg c3] at H
  have c3b0 : decide (a1 < a0) = false := decide_eq_false c3; clear c3; obtain rfl := Option.some.inj H
  go_enter Try.func60, Try.ntmps60
  go_wp2
  go_ret
  exact ⟨Q10, Q13⟩
/-! ### spec_l2Good: function 52 -/
def spec_l2Good.l0 : Nat → Int → Int → List (S65) → Option (Bool)
 | 0, _, _, _ => none
 | k + 1, x3, x102000, x102001 => if x3 < (x102001.length : Int) then (if 0 ≤ x3 then ((spec_l1In.f ((rd_T65 x102001 x3).f0) 0 (wrap64 (x102000 - 1))).bind fun t105 => (if t105 = true then ((spec_l1In.f ((rd_T65 x102001 x3).f1) 0 (wrap64 (x102000 - 1))).bind fun t106 => (if t106 = true then (if ((rd_T65 x102001 x3).f0) ≥ ((rd_T65 x102001 x3).f1) then (some false) else (if x3 > 0 then (if 0 ≤ (wrap64 (x3 - 1)) then (if (wrap64 (x3 - 1)) < (x102001.length : Int) then ((spec_l2Before.f ((rd_T65 x102001 (wrap64 (x3 - 1))).f0) ((rd_T65 x102001 (wrap64 (x3 - 1))).f1) ((rd_T65 x102001 x3).f0) ((rd_T65 x102001 x3).f1)).bind fun t108 => (if t108 = true then (spec_l2Good.l0 k (wrap64 (x3 + 1)) x102000 x102001) else (some false))) else (none)) else (none)) else (spec_l2Good.l0 k (wrap64 (x3 + 1)) x102000 x102001))) else (some false))) else (some false))) else (none)) else ((spec_l1In.f x102000 0 8).bind fun t102 => (some t102))
def spec_l2Good.f (k : Nat) (a0_0 : Int) (l0_1 : List (S65)) : Option (Bool) := spec_l2Good.l0 k 0 a0_0 l0_1
theorem spec_l2Good.mono_l : ∀ k, (∀ y0 y1 y2, LeO (spec_l2Good.l0 k y0 y1 y2) (spec_l2Good.l0 (k + 1) y0 y1 y2))
 | 0 => fun _ _ _ r h => by simp [spec_l2Good.l0] at h
 | k + 1 => by
  have ih0 := spec_l2Good.mono_l k
  all_goals
   intros
   first | unfold spec_l2Good.l0
   repeat' first | (with_reducible first | exact ih0 _ _ _ | exact LeO.refl _ | exact LeO.none _ | refine LeO.ite ?_ ?_ | refine LeO.bind ?_ (fun _ => ?_))
theorem spec_l2Good.mono : ∀ a0 a1 k, LeO (spec_l2Good.f k a0 a1) (spec_l2Good.f (k + 1) a0 a1) := by
 intro a0 a1 k
 have ih0 := spec_l2Good.mono_l k
 unfold spec_l2Good.f
 repeat' first | (with_reducible first | exact ih0 _ _ _ | exact LeO.refl _ | exact LeO.none _ | refine LeO.ite ?_ ?_ | refine LeO.bind ?_ (fun _ => ?_))
def spec_l2Good.T5 : Bool × List (List Nat × List Nat) := (true, [([], []), ([0], [0]), ([], []), ([2], [2]), ([3], [3]), ([1, 4], [1, 4]), ([5], [5]), ([6, 5], [6]), ([7], [7]), ([8, 7], [7, 8]), ([7], [7]), ([10, 7], [7, 10]), ([11, 7], [7, 11]), ([9, 12, 7, 7], [7, 9, 12]), ([13, 7], [7, 13]), ([7, 14], [7, 14]), ([15, 13], [15]), ([16], [16]), ([17, 16], [16, 17]), ([16], [16]), ([19, 16], [16, 19]), ([18, 20, 16], [16, 18, 20]), ([16, 21], [16, 21]), ([22, 16], [22]), ([23], [23]), ([24, 23], [23, 24]), ([25, 23, 23], [23, 25]), ([26], [26]), ([27, 26], [26, 27]), ([26], [26]), ([29, 26], [26, 29]), ([28, 30, 26], [26, 28, 30]), ([31, 26], [26, 31]), ([26], [26]), ([32, 33, 26, 26], [26, 32, 33]), ([34, 26], [26, 34]), ([26, 35, 23], [23, 26, 35]), ([23, 36], [23, 36])])
def spec_l2Good.B5 : List Nat := [0, 1, 0, 4, 12, 31, 63, 127, 255, 511, 255, 1279, 3327, 8191, 16383, 32767, 65535, 131071, 262143, 131071, 655359, 2097151, 4194303, 8388607, 16777215, 33554431, 67108863, 134217727, 268435455, 134217727, 671088639, 2147483647, 4294967295, 134217727, 17179869183, 34359738367, 68719476735, 137438953471]
theorem spec_l2Good.tab5 : rtab .any (opsOf Try.f52 5) = spec_l2Good.T5 := by kernel_rfl
theorem spec_l2Good.bits5 : waitsOk spec_l2Good.T5.2 spec_l2Good.B5 = true := by kernel_rfl
set_option maxHeartbeats 8000000 in
set_option maxRecDepth 100000 in
theorem spec_l2Good.calls (k : Nat) (a0_0 : Int) (A0_1 : Option Addr) (c0_1 : Nat) (l0_1 : List (S65)) (r : Bool) (w : World) (hr0_1 : Kd.C k65 w A0_1 l0_1.length l0_1) (hc0_1 : l0_1.length ≤ c0_1) (h : spec_l2Good.f k a0_0 l0_1 = some r) :
  Calls Try.prog 52 #[.agg #[.int .i64 a0_0, .slice A0_1 l0_1.length c0_1]] w fun e w' => e = .returned (.bool r) ∧ Below w.heap.size w w' := by
 have hu29 := Try.underlying29
 have hu65 := Try.underlying65
 have HR0_1 := Aside0.mk hr0_1
 have HC0_1 := Aside0.mk hc0_1
 clear hr0_1 hc0_1
 have HB := am (Below.refl w.heap.size w)
 have H : (spec_l2Good.l0 k 0 a0_0 l0_1) = some r := h
 clear h
 have H' := Aside0.mk H
 clear H
 go_enter Try.func52, Try.ntmps52
 go_wp2_with (first | ((with_reducible refine gate_dst (N := 1) rfl ?_); refine box_event ?hg (N := 1) ?hd (cs := #[.int .i64 a0_0, .slice A0_1 l0_1.length c0_1]) (t := 29) ?hr ?_; (case hd => rfl); (case hg => rfl); (case hr => first | (go_simp; done) | (go_simp; rfl)); intro gb101 hg w2 hbox hb; have BK101 := am (hbox); have GW101 := am ((Q25 : w.heap.size ≤ gb101)); have GE101 := am ((Q25 : w.heap.size ≤ gb101)); replace HB := am (below_step (Q1 HB) hb); clear hb hbox hg))
 go_loopg [3] k (fun kq v3 w' => ∃ (x3_1 : Int), v3 = .int .i64 x3_1 ∧ Aside0 (spec_l2Good.l0 kq x3_1 a0_0 l0_1 = some r) ∧ Aside0 (kq ≤ k) ∧ Aside0 (w'.heap[gb101]? = some (.cells #[.int .i64 a0_0, (.slice A0_1 l0_1.length c0_1)] 29 (0, 0))) ∧ Aside0 (Below w.heap.size w w'))
 case atStart => exact ⟨(0), Q10, H', ⟨Nat.le_refl _⟩, ⟨Q0 BK101⟩, ⟨Q1 HB⟩⟩
 case round =>
  clear H'
  try clear p2
  obtain ⟨x3_1, rfl, HA, HK1, BK101, HB⟩ := hrel
  cases gk with
  | zero => exact absurd HA.out (by simp [spec_l2Good.l0])
  | succ k1 =>
   have H := HA.out; clear HA
   simp only [spec_l2Good.l0] at H
   by_cases c3 : x3_1 < (l0_1.length : Int)
   ·rw [if_pos c3] at H
    have c3b0 := decide_eq_true c3; clear c3
    by_cases c4 : 0 ≤ x3_1
    ·rw [if_pos c4] at H
     have c4b0 := decide_eq_true c4; clear c4; replace H := (ob H); obtain ⟨t105, A50, H⟩ := H; (try dsimp only at H); have A5 := Aside0.mk A50; clear A50
     by_cases c6 : t105 = true
     ·subst c6
      have H1 : ((spec_l1In.f ((rd_T65 l0_1 x3_1).f1) 0 (wrap64 (a0_0 - 1))).bind fun t106 => (if t106 = true then (if ((rd_T65 l0_1 x3_1).f0) ≥ ((rd_T65 l0_1 x3_1).f1) then (some false) else (if x3_1 > 0 then (if 0 ≤ (wrap64 (x3_1 - 1)) then (if (wrap64 (x3_1 - 1)) < (l0_1.length : Int) then ((spec_l2Before.f ((rd_T65 l0_1 (wrap64 (x3_1 - 1))).f0) ((rd_T65 l0_1 (wrap64 (x3_1 - 1))).f1) ((rd_T65 l0_1 x3_1).f0) ((rd_T65 l0_1 x3_1).f1)).bind fun t108 => (if t108 = true then (spec_l2Good.l0 k1 (wrap64 (x3_1 + 1)) a0_0 l0_1) else (some false))) else (none)) else (none)) else (spec_l2Good.l0 k1 (wrap64 (x3_1 + 1)) a0_0 l0_1))) else (some false))) = some r := by rw [if_pos rfl] at H; exact H
      clear H; have H := H1; clear H1; replace H := (ob H); obtain ⟨t106, A70, H⟩ := H; (try dsimp only at H); have A7 := Aside0.mk A70; clear A70
      by_cases c8 : t106 = true
      ·subst c8
       have H1 : (if ((rd_T65 l0_1 x3_1).f0) ≥ ((rd_T65 l0_1 x3_1).f1) then (some false) else (if x3_1 > 0 then (if 0 ≤ (wrap64 (x3_1 - 1)) then (if (wrap64 (x3_1 - 1)) < (l0_1.length : Int) then ((spec_l2Before.f ((rd_T65 l0_1 (wrap64 (x3_1 - 1))).f0) ((rd_T65 l0_1 (wrap64 (x3_1 - 1))).f1) ((rd_T65 l0_1 x3_1).f0) ((rd_T65 l0_1 x3_1).f1)).bind fun t108 => (if t108 = true then (spec_l2Good.l0 k1 (wrap64 (x3_1 + 1)) a0_0 l0_1) else (some false))) else (none)) else (none)) else (spec_l2Good.l0 k1 (wrap64 (x3_1 + 1)) a0_0 l0_1))) = some r := by rw [if_pos rfl] at H; exact H
       clear H; have H := H1; clear H1
       by_cases c9 : ((rd_T65 l0_1 x3_1).f0) ≥ ((rd_T65 l0_1 x3_1).f1)
       ·rw [if_pos c9] at H
        have c9b0 : decide (((rd_T65 l0_1 x3_1).f1) ≤ ((rd_T65 l0_1 x3_1).f0)) = true := decide_eq_true c9; clear c9; have HU10 := Aside0.mk H; clear H; have hcz11_0 : wr.cell? ⟨gb101, 0, none⟩ = some (.int .i64 a0_0) := (blk_cell BK101.out 0).trans rfl; have hcz11_1 : wr.cell? ⟨gb101, 1, none⟩ = some (.slice A0_1 l0_1.length c0_1) := (blk_cell BK101.out 1).trans rfl; have hfz11_0 := blk_frozen BK101.out 0; have hfz11_1 := blk_frozen BK101.out 1; have p103 : 0 ≤ (x3_1 : Int) := of_decide_eq_true Q8; have q103 : x3_1 < (l0_1.length : Int) := of_decide_eq_true Q8; obtain ⟨ad103, e103, hx103_0, hx103_1⟩ := at_T65 HR0_1.out x3_1 p103 q103
        cases e103
        replace hx103_0 := (HB.out.cell (World.block_lt_of_cell? w _ hx103_0)).trans hx103_0; replace hx103_1 := (HB.out.cell (World.block_lt_of_cell? w _ hx103_1)).trans hx103_1; replace p103 := eq_true p103; replace q103 := eq_true q103
        try go_wp2_with (first | ((with_reducible refine gate_dst (N := 4) rfl ?_); refine box_event ?hg (N := 4) ?hd (cs := #[.int .i64 0, .int .i64 0]) (t := 65) ?hr ?_; (case hd => rfl); (case hg => rfl); (case hr => first | (go_simp; done) | (go_simp; rfl)); intro gb104 hg w12 hbox hb; have BK104 := am (hbox); have GW104 := am ((Q25 : w.heap.size ≤ gb104)); have GE104 := am ((Q25 : w.heap.size ≤ gb104)); replace HB := am (below_step (Q1 HB) hb); have NB101_104 := am ((Q37 : gb101 ≠ gb104)); have NB104_101 := am ((Q38 : gb104 ≠ gb101)); replace BK101 := am (blk_below (g := gb101) (o := .cells #[.int .i64 a0_0, .slice (some ad103) l0_1.length c0_1] 29 (0, 0)) (Q0 BK101) hb); clear hb hbox hg; have hnb13 := NB104_101.out; have hnc13 := NB101_104.out; have hcz14_0 : w12.cell? ⟨gb104, 0, none⟩ = some (.int .i64 0) := (blk_cell BK104.out 0).trans rfl; have hcz14_1 : w12.cell? ⟨gb104, 1, none⟩ = some (.int .i64 0) := (blk_cell BK104.out 1).trans rfl; have hfz14_0 := blk_frozen BK104.out 0; have hfz14_1 := blk_frozen BK104.out 1))
        have n0_ : Aside0 (((w12.setCell ⟨gb104, 0, none⟩ (.int .i64 ((rd_T65 l0_1 x3_1).f0))).setCell ⟨gb104, 1, none⟩ (.int .i64 ((rd_T65 l0_1 x3_1).f1))).heap[gb101]? = some (.cells #[.int .i64 a0_0, .slice (some ad103) l0_1.length c0_1] 29 (0, 0))) := ⟨Q5 NB101_104 BK101⟩; have n1_ : Aside0 (((w12.setCell ⟨gb104, 0, none⟩ (.int .i64 ((rd_T65 l0_1 x3_1).f0))).setCell ⟨gb104, 1, none⟩ (.int .i64 ((rd_T65 l0_1 x3_1).f1))).heap[gb104]? = some (.cells #[.int .i64 ((rd_T65 l0_1 x3_1).f0), .int .i64 ((rd_T65 l0_1 x3_1).f1)] 65 (0, 0))) := ⟨Q31 BK104⟩; have n2_ : Aside0 (Below w.heap.size w ((w12.setCell ⟨gb104, 0, none⟩ (.int .i64 ((rd_T65 l0_1 x3_1).f0))).setCell ⟨gb104, 1, none⟩ (.int .i64 ((rd_T65 l0_1 x3_1).f1)))) := ⟨Q6 HB GE104⟩; (try clear BK101); (try clear BK104); (try clear HB); generalize ((w12.setCell ⟨gb104, 0, none⟩ (.int .i64 ((rd_T65 l0_1 x3_1).f0))).setCell ⟨gb104, 1, none⟩ (.int .i64 ((rd_T65 l0_1 x3_1).f1))) = w15 at n0_ n1_ n2_ ⊢; have BK101 := n0_; have BK104 := n1_; have HB := n2_; clear n0_ n1_ n2_; replace BK101 := am (blk_drew BK101.out); replace BK104 := am (blk_drew BK104.out); replace HB := am (below_drew1 HB.out); refine start_ (n := 38) (S := fun w' => w'.cell? ⟨gb104, 0, none⟩ = some (.int .i64 ((rd_T65 l0_1 x3_1).f0)) ∧ w'.cell? ⟨gb104, 1, none⟩ = some (.int .i64 ((rd_T65 l0_1 x3_1).f1)) ∧ w'.cell? ⟨gb101, 0, none⟩ = some (.int .i64 a0_0) ∧ w'.cell? ⟨gb101, 1, none⟩ = some (.slice (some ad103) l0_1.length c0_1)) (ds := []) #[false, false, false, false, false, false, false, false, false, false, false, false, false, false, false, false, false, false, false, false, false, false, false, false, false, false, false, false, false, false, false, false, false, false, false, false, false, false] (by kernel_rfl) rfl rfl ⟨(blk_cell BK104.out 0).trans rfl, (blk_cell BK104.out 1).trans rfl, (blk_cell BK101.out 0).trans rfl, (blk_cell BK101.out 1).trans rfl⟩ (fun hHeld => ?_); refine with_tabW spec_l2Good.tab5 spec_l2Good.bits5 (fun HT_ HW_ => ?_); generalize w15.drew = w16 at BK101 BK104 HB hHeld ⊢; refine pq 0 17 rfl rfl HT_ ?_; refine pq 2 19 rfl rfl HT_ ?_; refine tq4 1 18 rfl rfl HT_ HW_ hHeld ?_; refine tq4 3 20 rfl rfl HT_ HW_ hHeld ?_; refine pq 4 21 rfl rfl HT_ ?_; refine oq 5 22 rfl rfl HT_ (fun K hK => ?_); refine goes_ Try.func95 (by kernel_rfl) rfl #[.int .i64 ((rd_T65 l0_1 x3_1).f0), .int .i64 0, .int .i64 (wrap64 (a0_0 - 1))] (by rfl) rfl rfl Q4 ?_
        with_reducible refine (spec_l1In.calls ((rd_T65 l0_1 x3_1).f0) 0 (wrap64 (a0_0 - 1)) true _ A5.out).mono ?_
        rintro e w' ⟨rfl, ⟨nd, rfl⟩⟩; refine ⟨_, rfl, ?_⟩; refine hK.out _ _ ⟨(blk_cell BK104.out 0).trans rfl, (blk_cell BK104.out 1).trans rfl, (blk_cell BK101.out 0).trans rfl, (blk_cell BK101.out 1).trans rfl⟩ (fun hHeld => ?_); clear hK K; refine norm_ (a' := ?_) ?_ ?_
        rotate_left
        ·show Act.put _ (some 22) _ = _
         simp only [Act.put, List.setIfInBounds_toArray, List.set_cons_zero, List.set_cons_succ, i64_w, i32_w]
         rfl
        refine pq 6 23 rfl rfl HT_ ?_; refine pq 7 24 rfl rfl HT_ ?_; refine pq 8 25 rfl rfl HT_ ?_; refine pq 10 27 rfl rfl HT_ ?_; refine tq4 9 26 rfl rfl HT_ HW_ hHeld ?_; refine tq4 11 28 rfl rfl HT_ HW_ hHeld ?_; refine pq 12 29 rfl rfl HT_ ?_; refine oq 13 30 rfl rfl HT_ (fun K hK => ?_); refine goes_ Try.func95 (by kernel_rfl) rfl #[.int .i64 ((rd_T65 l0_1 x3_1).f1), .int .i64 0, .int .i64 (wrap64 (a0_0 - 1))] (by rfl) rfl rfl Q4 ?_
        with_reducible refine (spec_l1In.calls ((rd_T65 l0_1 x3_1).f1) 0 (wrap64 (a0_0 - 1)) true _ A7.out).mono ?_
        rintro e w' ⟨rfl, ⟨nd, rfl⟩⟩; refine ⟨_, rfl, ?_⟩; refine hK.out _ _ ⟨(blk_cell BK104.out 0).trans rfl, (blk_cell BK104.out 1).trans rfl, (blk_cell BK101.out 0).trans rfl, (blk_cell BK101.out 1).trans rfl⟩ (fun hHeld => ?_); clear hK K; refine norm_ (a' := ?_) ?_ ?_
        rotate_left
        ·show Act.put _ (some 30) _ = _
         simp only [Act.put, List.setIfInBounds_toArray, List.set_cons_zero, List.set_cons_succ, i64_w, i32_w]
         rfl
        refine pq 14 31 rfl rfl HT_ ?_; refine pq 15 32 rfl rfl HT_ ?_; refine pq 16 33 rfl rfl HT_ ?_; refine pq 17 34 rfl rfl HT_ ?_; refine pq 19 36 rfl rfl HT_ ?_; refine tq4 18 35 rfl rfl HT_ HW_ hHeld ?_; refine tq4 20 37 rfl rfl HT_ HW_ hHeld ?_; refine pq 21 38 rfl rfl HT_ ?_; refine pq 22 39 rfl rfl HT_ ?_; refine pq 23 40 rfl rfl HT_ ?_; refine pu 24 41 rfl rfl HT_ ?_; refine pu 25 42 rfl rfl HT_ ?_; refine pu 26 43 rfl rfl HT_ ?_; refine pu 27 44 rfl rfl HT_ ?_; refine pu 28 45 rfl rfl HT_ ?_; refine pu 29 46 rfl rfl HT_ ?_; refine pu 30 47 rfl rfl HT_ ?_; refine pu 31 48 rfl rfl HT_ ?_; refine pu 32 49 rfl rfl HT_ ?_; refine pu 33 50 rfl rfl HT_ ?_; refine pu 34 51 rfl rfl HT_ ?_; refine pu 35 52 rfl rfl HT_ ?_; refine pu 36 53 rfl rfl HT_ ?_; refine pq 37 54 rfl rfl HT_ ?_; refine done_ (done_of HT_.out (by kernel_rfl)) ?_
        go_upto_if 54 with (fail)
        have H := HU10.out; clear HU10; obtain rfl := Option.some.inj H
        go_wp2
        go_ret
        exact ⟨Q9, Q1 HB⟩
       ·rw [if_neg c9] at H
        have c9b0 : decide (((rd_T65 l0_1 x3_1).f1) ≤ ((rd_T65 l0_1 x3_1).f0)) = false := decide_eq_false c9; clear c9
        by_cases c17 : x3_1 > 0
        ·rw [if_pos c17] at H
         have c17b0 : decide (0 < x3_1) = true := decide_eq_true c17; clear c17; obtain ⟨ji18, hji18⟩ : ∃ j_ : Int, (wrap64 (x3_1 - 1)) = j_ := ⟨_, rfl⟩; replace H : (if 0 ≤ (ji18) then (if (ji18) < (l0_1.length : Int) then ((spec_l2Before.f ((rd_T65 l0_1 (ji18)).f0) ((rd_T65 l0_1 (ji18)).f1) ((rd_T65 l0_1 x3_1).f0) ((rd_T65 l0_1 x3_1).f1)).bind fun t108 => (if t108 = true then (spec_l2Good.l0 k1 (wrap64 (x3_1 + 1)) a0_0 l0_1) else (some false))) else (none)) else (none)) = some r := by first | (rw [hji18] at H; exact H) | (simp only [hji18] at H ⊢; exact H)
         (try rw [hji18] at A5); (try rw [hji18] at A7); have hji18w : (IntKind.i64.wrap (x3_1 - 1)) = ji18 := (i64_w _).trans hji18
         by_cases c19 : 0 ≤ (ji18)
         ·rw [if_pos c19] at H
          have c19b0 := decide_eq_true c19; clear c19
          by_cases c20 : (ji18) < (l0_1.length : Int)
          ·rw [if_pos c20] at H
           have c20b0 := decide_eq_true c20; clear c20; replace H := (ob H); obtain ⟨t108, A210, H⟩ := H; (try dsimp only at H); have A21 := Aside0.mk A210; clear A210; have HU22 := Aside0.mk H; clear H; have hcz23_0 : wr.cell? ⟨gb101, 0, none⟩ = some (.int .i64 a0_0) := (blk_cell BK101.out 0).trans rfl; have hcz23_1 : wr.cell? ⟨gb101, 1, none⟩ = some (.slice A0_1 l0_1.length c0_1) := (blk_cell BK101.out 1).trans rfl; have hfz23_0 := blk_frozen BK101.out 0; have hfz23_1 := blk_frozen BK101.out 1; have p103 : 0 ≤ (x3_1 : Int) := of_decide_eq_true Q8; have q103 : x3_1 < (l0_1.length : Int) := of_decide_eq_true Q8; obtain ⟨ad103, e103, hx103_0, hx103_1⟩ := at_T65 HR0_1.out x3_1 p103 q103
           cases e103
           replace hx103_0 := (HB.out.cell (World.block_lt_of_cell? w _ hx103_0)).trans hx103_0; replace hx103_1 := (HB.out.cell (World.block_lt_of_cell? w _ hx103_1)).trans hx103_1; replace p103 := eq_true p103; replace q103 := eq_true q103
           try go_wp2_with (first | ((with_reducible refine gate_dst (N := 4) rfl ?_); refine box_event ?hg (N := 4) ?hd (cs := #[.int .i64 0, .int .i64 0]) (t := 65) ?hr ?_; (case hd => rfl); (case hg => rfl); (case hr => first | (go_simp; done) | (go_simp; rfl)); intro gb104 hg w24 hbox hb; have BK104 := am (hbox); have GW104 := am ((Q25 : w.heap.size ≤ gb104)); have GE104 := am ((Q25 : w.heap.size ≤ gb104)); replace HB := am (below_step (Q1 HB) hb); have NB101_104 := am ((Q37 : gb101 ≠ gb104)); have NB104_101 := am ((Q38 : gb104 ≠ gb101)); replace BK101 := am (blk_below (g := gb101) (o := .cells #[.int .i64 a0_0, .slice (some ad103) l0_1.length c0_1] 29 (0, 0)) (Q0 BK101) hb); clear hb hbox hg; have hnb25 := NB104_101.out; have hnc25 := NB101_104.out; have hcz26_0 : w24.cell? ⟨gb104, 0, none⟩ = some (.int .i64 0) := (blk_cell BK104.out 0).trans rfl; have hcz26_1 : w24.cell? ⟨gb104, 1, none⟩ = some (.int .i64 0) := (blk_cell BK104.out 1).trans rfl; have hfz26_0 := blk_frozen BK104.out 0; have hfz26_1 := blk_frozen BK104.out 1))
           have n0_ : Aside0 (((w24.setCell ⟨gb104, 0, none⟩ (.int .i64 ((rd_T65 l0_1 x3_1).f0))).setCell ⟨gb104, 1, none⟩ (.int .i64 ((rd_T65 l0_1 x3_1).f1))).heap[gb101]? = some (.cells #[.int .i64 a0_0, .slice (some ad103) l0_1.length c0_1] 29 (0, 0))) := ⟨Q5 NB101_104 BK101⟩; have n1_ : Aside0 (((w24.setCell ⟨gb104, 0, none⟩ (.int .i64 ((rd_T65 l0_1 x3_1).f0))).setCell ⟨gb104, 1, none⟩ (.int .i64 ((rd_T65 l0_1 x3_1).f1))).heap[gb104]? = some (.cells #[.int .i64 ((rd_T65 l0_1 x3_1).f0), .int .i64 ((rd_T65 l0_1 x3_1).f1)] 65 (0, 0))) := ⟨Q31 BK104⟩; have n2_ : Aside0 (Below w.heap.size w ((w24.setCell ⟨gb104, 0, none⟩ (.int .i64 ((rd_T65 l0_1 x3_1).f0))).setCell ⟨gb104, 1, none⟩ (.int .i64 ((rd_T65 l0_1 x3_1).f1)))) := ⟨Q6 HB GE104⟩; (try clear BK101); (try clear BK104); (try clear HB); generalize ((w24.setCell ⟨gb104, 0, none⟩ (.int .i64 ((rd_T65 l0_1 x3_1).f0))).setCell ⟨gb104, 1, none⟩ (.int .i64 ((rd_T65 l0_1 x3_1).f1))) = w27 at n0_ n1_ n2_ ⊢; have BK101 := n0_; have BK104 := n1_; have HB := n2_; clear n0_ n1_ n2_; replace BK101 := am (blk_drew BK101.out); replace BK104 := am (blk_drew BK104.out); replace HB := am (below_drew1 HB.out); have p107 : 0 ≤ ((ji18) : Int) := of_decide_eq_true Q8; have q107 : (ji18) < (l0_1.length : Int) := of_decide_eq_true Q8; obtain ⟨ad107, e107, hx107_0, hx107_1⟩ := at_T65 HR0_1.out (ji18) p107 q107; have hw107_1 := hx107_1; have hw107_0 := hx107_0; obtain rfl : ad103 = ad107 := (by injection e107); replace hx107_0 := (HB.out.cell (World.block_lt_of_cell? w _ hx107_0)).trans hx107_0; replace hx107_1 := (HB.out.cell (World.block_lt_of_cell? w _ hx107_1)).trans hx107_1; replace p107 := eq_true p107; replace q107 := eq_true q107; refine start_ (n := 38) (S := fun w' => w'.cell? ⟨gb104, 0, none⟩ = some (.int .i64 ((rd_T65 l0_1 x3_1).f0)) ∧ w'.cell? ⟨gb104, 1, none⟩ = some (.int .i64 ((rd_T65 l0_1 x3_1).f1)) ∧ w'.cell? ⟨gb101, 0, none⟩ = some (.int .i64 a0_0) ∧ w'.cell? ⟨gb101, 1, none⟩ = some (.slice (some ad103) l0_1.length c0_1) ∧ w'.cell? (ad103.add (((ji18)).toNat * 2)) = some (.int .i64 ((rd_T65 l0_1 (ji18)).f0)) ∧ w'.cell? ⟨(ad103.add (((ji18)).toNat * 2)).block, (ad103.add (((ji18)).toNat * 2)).off + 1, none⟩ = some (.int .i64 ((rd_T65 l0_1 (ji18)).f1))) (ds := []) #[false, false, false, false, false, false, false, false, false, false, false, false, false, false, false, false, false, false, false, false, false, false, false, false, false, false, false, false, false, false, false, false, false, false, false, false, false, false] (by kernel_rfl) rfl rfl ⟨(blk_cell BK104.out 0).trans rfl, (blk_cell BK104.out 1).trans rfl, (blk_cell BK101.out 0).trans rfl, (blk_cell BK101.out 1).trans rfl, ((HB.out.cell (World.block_lt_of_cell? w _ hw107_0)).trans hw107_0), ((HB.out.cell (World.block_lt_of_cell? w _ hw107_1)).trans hw107_1)⟩ (fun hHeld => ?_); refine with_tabW spec_l2Good.tab5 spec_l2Good.bits5 (fun HT_ HW_ => ?_); generalize w27.drew = w28 at BK101 BK104 HB hx107_0 hx107_1 hHeld ⊢; refine pq 0 17 rfl rfl HT_ ?_; refine pq 2 19 rfl rfl HT_ ?_; refine tq6 1 18 rfl rfl HT_ HW_ hHeld ?_; refine tq6 3 20 rfl rfl HT_ HW_ hHeld ?_; refine pq 4 21 rfl rfl HT_ ?_; refine oq 5 22 rfl rfl HT_ (fun K hK => ?_); refine goes_ Try.func95 (by kernel_rfl) rfl #[.int .i64 ((rd_T65 l0_1 x3_1).f0), .int .i64 0, .int .i64 (wrap64 (a0_0 - 1))] (by rfl) rfl rfl Q4 ?_
           with_reducible refine (spec_l1In.calls ((rd_T65 l0_1 x3_1).f0) 0 (wrap64 (a0_0 - 1)) true _ A5.out).mono ?_
           rintro e w' ⟨rfl, ⟨nd, rfl⟩⟩; refine ⟨_, rfl, ?_⟩; refine hK.out _ _ ⟨(blk_cell BK104.out 0).trans rfl, (blk_cell BK104.out 1).trans rfl, (blk_cell BK101.out 0).trans rfl, (blk_cell BK101.out 1).trans rfl, ((HB.out.cell (World.block_lt_of_cell? w _ hw107_0)).trans hw107_0), ((HB.out.cell (World.block_lt_of_cell? w _ hw107_1)).trans hw107_1)⟩ (fun hHeld => ?_); clear hK K; refine norm_ (a' := ?_) ?_ ?_
           rotate_left
           ·show Act.put _ (some 22) _ = _
            simp only [Act.put, List.setIfInBounds_toArray, List.set_cons_zero, List.set_cons_succ, i64_w, i32_w]
            rfl
           refine pq 6 23 rfl rfl HT_ ?_; refine pq 7 24 rfl rfl HT_ ?_; refine pq 8 25 rfl rfl HT_ ?_; refine pq 10 27 rfl rfl HT_ ?_; refine tq6 9 26 rfl rfl HT_ HW_ hHeld ?_; refine tq6 11 28 rfl rfl HT_ HW_ hHeld ?_; refine pq 12 29 rfl rfl HT_ ?_; refine oq 13 30 rfl rfl HT_ (fun K hK => ?_); refine goes_ Try.func95 (by kernel_rfl) rfl #[.int .i64 ((rd_T65 l0_1 x3_1).f1), .int .i64 0, .int .i64 (wrap64 (a0_0 - 1))] (by rfl) rfl rfl Q4 ?_
           with_reducible refine (spec_l1In.calls ((rd_T65 l0_1 x3_1).f1) 0 (wrap64 (a0_0 - 1)) true _ A7.out).mono ?_
           rintro e w' ⟨rfl, ⟨nd, rfl⟩⟩; refine ⟨_, rfl, ?_⟩; refine hK.out _ _ ⟨(blk_cell BK104.out 0).trans rfl, (blk_cell BK104.out 1).trans rfl, (blk_cell BK101.out 0).trans rfl, (blk_cell BK101.out 1).trans rfl, ((HB.out.cell (World.block_lt_of_cell? w _ hw107_0)).trans hw107_0), ((HB.out.cell (World.block_lt_of_cell? w _ hw107_1)).trans hw107_1)⟩ (fun hHeld => ?_); clear hK K; refine norm_ (a' := ?_) ?_ ?_
           rotate_left
           ·show Act.put _ (some 30) _ = _
            simp only [Act.put, List.setIfInBounds_toArray, List.set_cons_zero, List.set_cons_succ, i64_w, i32_w]
            rfl
           refine pq 14 31 rfl rfl HT_ ?_; refine pq 15 32 rfl rfl HT_ ?_; refine pq 16 33 rfl rfl HT_ ?_; refine pq 17 34 rfl rfl HT_ ?_; refine pq 19 36 rfl rfl HT_ ?_; refine tq6 18 35 rfl rfl HT_ HW_ hHeld ?_; refine tq6 20 37 rfl rfl HT_ HW_ hHeld ?_; refine pq 21 38 rfl rfl HT_ ?_; refine pq 22 39 rfl rfl HT_ ?_; refine pq 23 40 rfl rfl HT_ ?_; refine pq 24 41 rfl rfl HT_ ?_; refine pq 25 42 rfl rfl HT_ ?_; refine pq 26 43 rfl rfl HT_ ?_; refine pq 27 44 rfl rfl HT_ ?_; refine pq 29 46 rfl rfl HT_ ?_; refine pq 30 47 rfl rfl HT_ ?_; refine tq6 28 45 rfl rfl HT_ HW_ hHeld ?_; refine pq 31 48 rfl rfl HT_ ?_; refine tq6 32 49 rfl rfl HT_ HW_ hHeld ?_; refine tq6 33 50 rfl rfl HT_ HW_ hHeld ?_; refine oq 34 51 rfl rfl HT_ (fun K hK => ?_); refine goes_ Try.func96 (by kernel_rfl) rfl #[.agg #[.int .i64 ((rd_T65 l0_1 (ji18)).f0), .int .i64 ((rd_T65 l0_1 (ji18)).f1)], .agg #[.int .i64 ((rd_T65 l0_1 x3_1).f0), .int .i64 ((rd_T65 l0_1 x3_1).f1)]] (by rfl) rfl rfl (by (try simp only [List.map_toArray, List.map_cons, List.map_nil]); first | done | (simp only [hji18]; rfl) | rfl | (simp only [List.length_drop, List.length_take]; rfl)) ?_
           with_reducible refine (spec_l2Before.calls ((rd_T65 l0_1 (ji18)).f0) ((rd_T65 l0_1 (ji18)).f1) ((rd_T65 l0_1 x3_1).f0) ((rd_T65 l0_1 x3_1).f1) t108 _ A21.out).mono ?_
           rintro e w29 ⟨rfl, hb⟩; refine ⟨_, rfl, ?_⟩; replace BK101 := am (blk_below (g := gb101) (o := .cells #[.int .i64 a0_0, .slice (some ad103) l0_1.length c0_1] 29 (0, 0)) (Q0 BK101) hb); replace BK104 := am (blk_below (g := gb104) (o := .cells #[.int .i64 ((rd_T65 l0_1 x3_1).f0), .int .i64 ((rd_T65 l0_1 x3_1).f1)] 65 (0, 0)) (Q0 BK104) hb); replace HB := am (below_step (Q1 HB) hb); (try clear hb); (try clear hb2); (try clear hk); (try clear hi); refine hK.out _ _ ⟨(blk_cell BK104.out 0).trans rfl, (blk_cell BK104.out 1).trans rfl, (blk_cell BK101.out 0).trans rfl, (blk_cell BK101.out 1).trans rfl, ((HB.out.cell (World.block_lt_of_cell? w _ hw107_0)).trans hw107_0), ((HB.out.cell (World.block_lt_of_cell? w _ hw107_1)).trans hw107_1)⟩ (fun hHeld => ?_); clear hK K; refine norm_ (a' := ?_) ?_ ?_
           rotate_left
           ·show Act.put _ (some 51) _ = _
            simp only [Act.put, List.setIfInBounds_toArray, List.set_cons_zero, List.set_cons_succ, i64_w, i32_w]
            rfl
           refine pq 35 52 rfl rfl HT_ ?_; refine pq 36 53 rfl rfl HT_ ?_; refine pq 37 54 rfl rfl HT_ ?_; refine done_ (done_of HT_.out (by kernel_rfl)) ?_
           go_upto_if 54 with (fail)
           have H := HU22.out; clear HU22
           by_cases c30 : t108 = true
           ·subst c30
            have H1 : (spec_l2Good.l0 k1 (wrap64 (x3_1 + 1)) a0_0 l0_1) = some r := by rw [if_pos rfl] at H; exact H
            clear H; have H := H1; clear H1; have H' := Aside0.mk H; clear H
            go_wp2
            go_roundg k1
            case measure => have := HK1.out; omega
            case rel => exact ⟨(wrap64 (x3_1 + 1)), Q10, H', ⟨Q57⟩, ⟨Q0 BK101⟩, ⟨Q1 HB⟩⟩
           ·replace c30 := Bool.eq_false_iff.mpr c30
            subst c30; have H1 : (some false) = some r := by rw [if_neg (show ¬ (false = true) by decide)] at H; exact H
            clear H; have H := H1; clear H1; obtain rfl := Option.some.inj H
            go_wp2
            go_ret
            exact ⟨by first | rfl | (simp [errW_none, errW_some] <;> rfl) | (simp only [← hji18]; first | rfl | (simp [errW_none, errW_some] <;> rfl)) | (simp [*, errW_none, errW_some] <;> rfl), Q1 HB⟩
          ·rw [if_neg c20] at H
           exact absurd H (by simp)
         ·rw [if_neg c19] at H
          exact absurd H (by simp)
        ·rw [if_neg c17] at H
         have c17b0 : decide (0 < x3_1) = false := decide_eq_false c17; clear c17; have HU31 := Aside0.mk H; clear H; have hcz32_0 : wr.cell? ⟨gb101, 0, none⟩ = some (.int .i64 a0_0) := (blk_cell BK101.out 0).trans rfl; have hcz32_1 : wr.cell? ⟨gb101, 1, none⟩ = some (.slice A0_1 l0_1.length c0_1) := (blk_cell BK101.out 1).trans rfl; have hfz32_0 := blk_frozen BK101.out 0; have hfz32_1 := blk_frozen BK101.out 1; have p103 : 0 ≤ (x3_1 : Int) := of_decide_eq_true Q8; have q103 : x3_1 < (l0_1.length : Int) := of_decide_eq_true Q8; obtain ⟨ad103, e103, hx103_0, hx103_1⟩ := at_T65 HR0_1.out x3_1 p103 q103
         cases e103
         replace hx103_0 := (HB.out.cell (World.block_lt_of_cell? w _ hx103_0)).trans hx103_0; replace hx103_1 := (HB.out.cell (World.block_lt_of_cell? w _ hx103_1)).trans hx103_1; replace p103 := eq_true p103; replace q103 := eq_true q103
         try go_wp2_with (first | ((with_reducible refine gate_dst (N := 4) rfl ?_); refine box_event ?hg (N := 4) ?hd (cs := #[.int .i64 0, .int .i64 0]) (t := 65) ?hr ?_; (case hd => rfl); (case hg => rfl); (case hr => first | (go_simp; done) | (go_simp; rfl)); intro gb104 hg w33 hbox hb; have BK104 := am (hbox); have GW104 := am ((Q25 : w.heap.size ≤ gb104)); have GE104 := am ((Q25 : w.heap.size ≤ gb104)); replace HB := am (below_step (Q1 HB) hb); have NB101_104 := am ((Q37 : gb101 ≠ gb104)); have NB104_101 := am ((Q38 : gb104 ≠ gb101)); replace BK101 := am (blk_below (g := gb101) (o := .cells #[.int .i64 a0_0, .slice (some ad103) l0_1.length c0_1] 29 (0, 0)) (Q0 BK101) hb); clear hb hbox hg; have hnb34 := NB104_101.out; have hnc34 := NB101_104.out; have hcz35_0 : w33.cell? ⟨gb104, 0, none⟩ = some (.int .i64 0) := (blk_cell BK104.out 0).trans rfl; have hcz35_1 : w33.cell? ⟨gb104, 1, none⟩ = some (.int .i64 0) := (blk_cell BK104.out 1).trans rfl; have hfz35_0 := blk_frozen BK104.out 0; have hfz35_1 := blk_frozen BK104.out 1))
         have n0_ : Aside0 (((w33.setCell ⟨gb104, 0, none⟩ (.int .i64 ((rd_T65 l0_1 x3_1).f0))).setCell ⟨gb104, 1, none⟩ (.int .i64 ((rd_T65 l0_1 x3_1).f1))).heap[gb101]? = some (.cells #[.int .i64 a0_0, .slice (some ad103) l0_1.length c0_1] 29 (0, 0))) := ⟨Q5 NB101_104 BK101⟩; have n1_ : Aside0 (((w33.setCell ⟨gb104, 0, none⟩ (.int .i64 ((rd_T65 l0_1 x3_1).f0))).setCell ⟨gb104, 1, none⟩ (.int .i64 ((rd_T65 l0_1 x3_1).f1))).heap[gb104]? = some (.cells #[.int .i64 ((rd_T65 l0_1 x3_1).f0), .int .i64 ((rd_T65 l0_1 x3_1).f1)] 65 (0, 0))) := ⟨Q31 BK104⟩; have n2_ : Aside0 (Below w.heap.size w ((w33.setCell ⟨gb104, 0, none⟩ (.int .i64 ((rd_T65 l0_1 x3_1).f0))).setCell ⟨gb104, 1, none⟩ (.int .i64 ((rd_T65 l0_1 x3_1).f1)))) := ⟨Q6 HB GE104⟩; (try clear BK101); (try clear BK104); (try clear HB); generalize ((w33.setCell ⟨gb104, 0, none⟩ (.int .i64 ((rd_T65 l0_1 x3_1).f0))).setCell ⟨gb104, 1, none⟩ (.int .i64 ((rd_T65 l0_1 x3_1).f1))) = w36 at n0_ n1_ n2_ ⊢; have BK101 := n0_; have BK104 := n1_; have HB := n2_; clear n0_ n1_ n2_; replace BK101 := am (blk_drew BK101.out); replace BK104 := am (blk_drew BK104.out); replace HB := am (below_drew1 HB.out); refine start_ (n := 38) (S := fun w' => w'.cell? ⟨gb104, 0, none⟩ = some (.int .i64 ((rd_T65 l0_1 x3_1).f0)) ∧ w'.cell? ⟨gb104, 1, none⟩ = some (.int .i64 ((rd_T65 l0_1 x3_1).f1)) ∧ w'.cell? ⟨gb101, 0, none⟩ = some (.int .i64 a0_0) ∧ w'.cell? ⟨gb101, 1, none⟩ = some (.slice (some ad103) l0_1.length c0_1)) (ds := []) #[false, false, false, false, false, false, false, false, false, false, false, false, false, false, false, false, false, false, false, false, false, false, false, false, false, false, false, false, false, false, false, false, false, false, false, false, false, false] (by kernel_rfl) rfl rfl ⟨(blk_cell BK104.out 0).trans rfl, (blk_cell BK104.out 1).trans rfl, (blk_cell BK101.out 0).trans rfl, (blk_cell BK101.out 1).trans rfl⟩ (fun hHeld => ?_); refine with_tabW spec_l2Good.tab5 spec_l2Good.bits5 (fun HT_ HW_ => ?_); generalize w36.drew = w37 at BK101 BK104 HB hHeld ⊢; refine pq 0 17 rfl rfl HT_ ?_; refine pq 2 19 rfl rfl HT_ ?_; refine tq4 1 18 rfl rfl HT_ HW_ hHeld ?_; refine tq4 3 20 rfl rfl HT_ HW_ hHeld ?_; refine pq 4 21 rfl rfl HT_ ?_; refine oq 5 22 rfl rfl HT_ (fun K hK => ?_); refine goes_ Try.func95 (by kernel_rfl) rfl #[.int .i64 ((rd_T65 l0_1 x3_1).f0), .int .i64 0, .int .i64 (wrap64 (a0_0 - 1))] (by rfl) rfl rfl Q4 ?_
         with_reducible refine (spec_l1In.calls ((rd_T65 l0_1 x3_1).f0) 0 (wrap64 (a0_0 - 1)) true _ A5.out).mono ?_
         rintro e w' ⟨rfl, ⟨nd, rfl⟩⟩; refine ⟨_, rfl, ?_⟩; refine hK.out _ _ ⟨(blk_cell BK104.out 0).trans rfl, (blk_cell BK104.out 1).trans rfl, (blk_cell BK101.out 0).trans rfl, (blk_cell BK101.out 1).trans rfl⟩ (fun hHeld => ?_); clear hK K; refine norm_ (a' := ?_) ?_ ?_
         rotate_left
         ·show Act.put _ (some 22) _ = _
          simp only [Act.put, List.setIfInBounds_toArray, List.set_cons_zero, List.set_cons_succ, i64_w, i32_w]
          rfl
         refine pq 6 23 rfl rfl HT_ ?_; refine pq 7 24 rfl rfl HT_ ?_; refine pq 8 25 rfl rfl HT_ ?_; refine pq 10 27 rfl rfl HT_ ?_; refine tq4 9 26 rfl rfl HT_ HW_ hHeld ?_; refine tq4 11 28 rfl rfl HT_ HW_ hHeld ?_; refine pq 12 29 rfl rfl HT_ ?_; refine oq 13 30 rfl rfl HT_ (fun K hK => ?_); refine goes_ Try.func95 (by kernel_rfl) rfl #[.int .i64 ((rd_T65 l0_1 x3_1).f1), .int .i64 0, .int .i64 (wrap64 (a0_0 - 1))] (by rfl) rfl rfl Q4 ?_
         with_reducible refine (spec_l1In.calls ((rd_T65 l0_1 x3_1).f1) 0 (wrap64 (a0_0 - 1)) true _ A7.out).mono ?_
         rintro e w' ⟨rfl, ⟨nd, rfl⟩⟩; refine ⟨_, rfl, ?_⟩; refine hK.out _ _ ⟨(blk_cell BK104.out 0).trans rfl, (blk_cell BK104.out 1).trans rfl, (blk_cell BK101.out 0).trans rfl, (blk_cell BK101.out 1).trans rfl⟩ (fun hHeld => ?_); clear hK K; refine norm_ (a' := ?_) ?_ ?_
         rotate_left
         ·show Act.put _ (some 30) _ = _
          simp only [Act.put, List.setIfInBounds_toArray, List.set_cons_zero, List.set_cons_succ, i64_w, i32_w]
          rfl
         refine pq 14 31 rfl rfl HT_ ?_; refine pq 15 32 rfl rfl HT_ ?_; refine pq 16 33 rfl rfl HT_ ?_; refine pq 17 34 rfl rfl HT_ ?_; refine pq 19 36 rfl rfl HT_ ?_; refine tq4 18 35 rfl rfl HT_ HW_ hHeld ?_; refine tq4 20 37 rfl rfl HT_ HW_ hHeld ?_; refine pq 21 38 rfl rfl HT_ ?_; refine pq 22 39 rfl rfl HT_ ?_; refine pq 23 40 rfl rfl HT_ ?_; refine pq 24 41 rfl rfl HT_ ?_; refine pq 25 42 rfl rfl HT_ ?_; refine pq 26 43 rfl rfl HT_ ?_; refine pu 27 44 rfl rfl HT_ ?_; refine pu 28 45 rfl rfl HT_ ?_; refine pu 29 46 rfl rfl HT_ ?_; refine pu 30 47 rfl rfl HT_ ?_; refine pu 31 48 rfl rfl HT_ ?_; refine pu 32 49 rfl rfl HT_ ?_; refine pu 33 50 rfl rfl HT_ ?_; refine pu 34 51 rfl rfl HT_ ?_; refine pu 35 52 rfl rfl HT_ ?_; refine pq 36 53 rfl rfl HT_ ?_; refine pq 37 54 rfl rfl HT_ ?_; refine done_ (done_of HT_.out (by kernel_rfl)) ?_
         go_upto_if 54 with (fail)
         have H := HU31.out; clear HU31; have H' := Aside0.mk H; clear H
         go_wp2
         go_roundg k1
         case measure => have := HK1.out; omega
         case rel => exact ⟨(wrap64 (x3_1 + 1)), Q10, H', ⟨Q57⟩, ⟨Q0 BK101⟩, ⟨Q1 HB⟩⟩
      ·replace c8 := Bool.eq_false_iff.mpr c8
       subst c8; have H1 : (some false) = some r := by rw [if_neg (show ¬ (false = true) by decide)] at H; exact H
       clear H; have H := H1; clear H1; have HU38 := Aside0.mk H; clear H; have hcz39_0 : wr.cell? ⟨gb101, 0, none⟩ = some (.int .i64 a0_0) := (blk_cell BK101.out 0).trans rfl; have hcz39_1 : wr.cell? ⟨gb101, 1, none⟩ = some (.slice A0_1 l0_1.length c0_1) := (blk_cell BK101.out 1).trans rfl; have hfz39_0 := blk_frozen BK101.out 0; have hfz39_1 := blk_frozen BK101.out 1; have p103 : 0 ≤ (x3_1 : Int) := of_decide_eq_true Q8; have q103 : x3_1 < (l0_1.length : Int) := of_decide_eq_true Q8; obtain ⟨ad103, e103, hx103_0, hx103_1⟩ := at_T65 HR0_1.out x3_1 p103 q103
       cases e103
       replace hx103_0 := (HB.out.cell (World.block_lt_of_cell? w _ hx103_0)).trans hx103_0; replace hx103_1 := (HB.out.cell (World.block_lt_of_cell? w _ hx103_1)).trans hx103_1; replace p103 := eq_true p103; replace q103 := eq_true q103
       try go_wp2_with (first | ((with_reducible refine gate_dst (N := 4) rfl ?_); refine box_event ?hg (N := 4) ?hd (cs := #[.int .i64 0, .int .i64 0]) (t := 65) ?hr ?_; (case hd => rfl); (case hg => rfl); (case hr => first | (go_simp; done) | (go_simp; rfl)); intro gb104 hg w40 hbox hb; have BK104 := am (hbox); have GW104 := am ((Q25 : w.heap.size ≤ gb104)); have GE104 := am ((Q25 : w.heap.size ≤ gb104)); replace HB := am (below_step (Q1 HB) hb); have NB101_104 := am ((Q37 : gb101 ≠ gb104)); have NB104_101 := am ((Q38 : gb104 ≠ gb101)); replace BK101 := am (blk_below (g := gb101) (o := .cells #[.int .i64 a0_0, .slice (some ad103) l0_1.length c0_1] 29 (0, 0)) (Q0 BK101) hb); clear hb hbox hg; have hnb41 := NB104_101.out; have hnc41 := NB101_104.out; have hcz42_0 : w40.cell? ⟨gb104, 0, none⟩ = some (.int .i64 0) := (blk_cell BK104.out 0).trans rfl; have hcz42_1 : w40.cell? ⟨gb104, 1, none⟩ = some (.int .i64 0) := (blk_cell BK104.out 1).trans rfl; have hfz42_0 := blk_frozen BK104.out 0; have hfz42_1 := blk_frozen BK104.out 1))
       have n0_ : Aside0 (((w40.setCell ⟨gb104, 0, none⟩ (.int .i64 ((rd_T65 l0_1 x3_1).f0))).setCell ⟨gb104, 1, none⟩ (.int .i64 ((rd_T65 l0_1 x3_1).f1))).heap[gb101]? = some (.cells #[.int .i64 a0_0, .slice (some ad103) l0_1.length c0_1] 29 (0, 0))) := ⟨Q5 NB101_104 BK101⟩; have n1_ : Aside0 (((w40.setCell ⟨gb104, 0, none⟩ (.int .i64 ((rd_T65 l0_1 x3_1).f0))).setCell ⟨gb104, 1, none⟩ (.int .i64 ((rd_T65 l0_1 x3_1).f1))).heap[gb104]? = some (.cells #[.int .i64 ((rd_T65 l0_1 x3_1).f0), .int .i64 ((rd_T65 l0_1 x3_1).f1)] 65 (0, 0))) := ⟨Q31 BK104⟩; have n2_ : Aside0 (Below w.heap.size w ((w40.setCell ⟨gb104, 0, none⟩ (.int .i64 ((rd_T65 l0_1 x3_1).f0))).setCell ⟨gb104, 1, none⟩ (.int .i64 ((rd_T65 l0_1 x3_1).f1)))) := ⟨Q6 HB GE104⟩; (try clear BK101); (try clear BK104); (try clear HB); generalize ((w40.setCell ⟨gb104, 0, none⟩ (.int .i64 ((rd_T65 l0_1 x3_1).f0))).setCell ⟨gb104, 1, none⟩ (.int .i64 ((rd_T65 l0_1 x3_1).f1))) = w43 at n0_ n1_ n2_ ⊢; have BK101 := n0_; have BK104 := n1_; have HB := n2_; clear n0_ n1_ n2_; replace BK101 := am (blk_drew BK101.out); replace BK104 := am (blk_drew BK104.out); replace HB := am (below_drew1 HB.out); refine start_ (n := 38) (S := fun w' => w'.cell? ⟨gb104, 0, none⟩ = some (.int .i64 ((rd_T65 l0_1 x3_1).f0)) ∧ w'.cell? ⟨gb104, 1, none⟩ = some (.int .i64 ((rd_T65 l0_1 x3_1).f1)) ∧ w'.cell? ⟨gb101, 0, none⟩ = some (.int .i64 a0_0) ∧ w'.cell? ⟨gb101, 1, none⟩ = some (.slice (some ad103) l0_1.length c0_1)) (ds := []) #[false, false, false, false, false, false, false, false, false, false, false, false, false, false, false, false, false, false, false, false, false, false, false, false, false, false, false, false, false, false, false, false, false, false, false, false, false, false] (by kernel_rfl) rfl rfl ⟨(blk_cell BK104.out 0).trans rfl, (blk_cell BK104.out 1).trans rfl, (blk_cell BK101.out 0).trans rfl, (blk_cell BK101.out 1).trans rfl⟩ (fun hHeld => ?_); refine with_tabW spec_l2Good.tab5 spec_l2Good.bits5 (fun HT_ HW_ => ?_); generalize w43.drew = w44 at BK101 BK104 HB hHeld ⊢; refine pq 0 17 rfl rfl HT_ ?_; refine pq 2 19 rfl rfl HT_ ?_; refine tq4 1 18 rfl rfl HT_ HW_ hHeld ?_; refine tq4 3 20 rfl rfl HT_ HW_ hHeld ?_; refine pq 4 21 rfl rfl HT_ ?_; refine oq 5 22 rfl rfl HT_ (fun K hK => ?_); refine goes_ Try.func95 (by kernel_rfl) rfl #[.int .i64 ((rd_T65 l0_1 x3_1).f0), .int .i64 0, .int .i64 (wrap64 (a0_0 - 1))] (by rfl) rfl rfl Q4 ?_
       with_reducible refine (spec_l1In.calls ((rd_T65 l0_1 x3_1).f0) 0 (wrap64 (a0_0 - 1)) true _ A5.out).mono ?_
       rintro e w' ⟨rfl, ⟨nd, rfl⟩⟩; refine ⟨_, rfl, ?_⟩; refine hK.out _ _ ⟨(blk_cell BK104.out 0).trans rfl, (blk_cell BK104.out 1).trans rfl, (blk_cell BK101.out 0).trans rfl, (blk_cell BK101.out 1).trans rfl⟩ (fun hHeld => ?_); clear hK K; refine norm_ (a' := ?_) ?_ ?_
       rotate_left
       ·show Act.put _ (some 22) _ = _
        simp only [Act.put, List.setIfInBounds_toArray, List.set_cons_zero, List.set_cons_succ, i64_w, i32_w]
        rfl
       refine pq 6 23 rfl rfl HT_ ?_; refine pq 7 24 rfl rfl HT_ ?_; refine pq 8 25 rfl rfl HT_ ?_; refine pq 10 27 rfl rfl HT_ ?_; refine tq4 9 26 rfl rfl HT_ HW_ hHeld ?_; refine tq4 11 28 rfl rfl HT_ HW_ hHeld ?_; refine pq 12 29 rfl rfl HT_ ?_; refine oq 13 30 rfl rfl HT_ (fun K hK => ?_); refine goes_ Try.func95 (by kernel_rfl) rfl #[.int .i64 ((rd_T65 l0_1 x3_1).f1), .int .i64 0, .int .i64 (wrap64 (a0_0 - 1))] (by rfl) rfl rfl Q4 ?_
       with_reducible refine (spec_l1In.calls ((rd_T65 l0_1 x3_1).f1) 0 (wrap64 (a0_0 - 1)) false _ A7.out).mono ?_
       rintro e w' ⟨rfl, ⟨nd, rfl⟩⟩; refine ⟨_, rfl, ?_⟩; refine hK.out _ _ ⟨(blk_cell BK104.out 0).trans rfl, (blk_cell BK104.out 1).trans rfl, (blk_cell BK101.out 0).trans rfl, (blk_cell BK101.out 1).trans rfl⟩ (fun hHeld => ?_); clear hK K; refine norm_ (a' := ?_) ?_ ?_
       rotate_left
       ·show Act.put _ (some 30) _ = _
        simp only [Act.put, List.setIfInBounds_toArray, List.set_cons_zero, List.set_cons_succ, i64_w, i32_w]
        rfl
       refine pq 14 31 rfl rfl HT_ ?_; refine pq 15 32 rfl rfl HT_ ?_; refine pq 16 33 rfl rfl HT_ ?_; refine pu 17 34 rfl rfl HT_ ?_; refine pu 18 35 rfl rfl HT_ ?_; refine pu 19 36 rfl rfl HT_ ?_; refine pu 20 37 rfl rfl HT_ ?_; refine pu 21 38 rfl rfl HT_ ?_; refine pq 22 39 rfl rfl HT_ ?_; refine pq 23 40 rfl rfl HT_ ?_; refine pu 24 41 rfl rfl HT_ ?_; refine pu 25 42 rfl rfl HT_ ?_; refine pu 26 43 rfl rfl HT_ ?_; refine pu 27 44 rfl rfl HT_ ?_; refine pu 28 45 rfl rfl HT_ ?_; refine pu 29 46 rfl rfl HT_ ?_; refine pu 30 47 rfl rfl HT_ ?_; refine pu 31 48 rfl rfl HT_ ?_; refine pu 32 49 rfl rfl HT_ ?_; refine pu 33 50 rfl rfl HT_ ?_; refine pu 34 51 rfl rfl HT_ ?_; refine pu 35 52 rfl rfl HT_ ?_; refine pu 36 53 rfl rfl HT_ ?_; refine pq 37 54 rfl rfl HT_ ?_; refine done_ (done_of HT_.out (by kernel_rfl)) ?_
       go_upto_if 54 with (fail)
       have H := HU38.out; clear HU38; obtain rfl := Option.some.inj H
       go_wp2
       go_ret
       exact ⟨Q9, Q1 HB⟩
     ·replace c6 := Bool.eq_false_iff.mpr c6
      subst c6; have H1 : (some false) = some r := by rw [if_neg (show ¬ (false = true) by decide)] at H; exact H
      clear H; have H := H1; clear H1; have HU45 := Aside0.mk H; clear H; have hcz46_0 : wr.cell? ⟨gb101, 0, none⟩ = some (.int .i64 a0_0) := (blk_cell BK101.out 0).trans rfl; have hcz46_1 : wr.cell? ⟨gb101, 1, none⟩ = some (.slice A0_1 l0_1.length c0_1) := (blk_cell BK101.out 1).trans rfl; have hfz46_0 := blk_frozen BK101.out 0; have hfz46_1 := blk_frozen BK101.out 1; have p103 : 0 ≤ (x3_1 : Int) := of_decide_eq_true Q8; have q103 : x3_1 < (l0_1.length : Int) := of_decide_eq_true Q8; obtain ⟨ad103, e103, hx103_0, hx103_1⟩ := at_T65 HR0_1.out x3_1 p103 q103
      cases e103
      replace hx103_0 := (HB.out.cell (World.block_lt_of_cell? w _ hx103_0)).trans hx103_0; replace hx103_1 := (HB.out.cell (World.block_lt_of_cell? w _ hx103_1)).trans hx103_1; replace p103 := eq_true p103; replace q103 := eq_true q103
      try go_wp2_with (first | ((with_reducible refine gate_dst (N := 4) rfl ?_); refine box_event ?hg (N := 4) ?hd (cs := #[.int .i64 0, .int .i64 0]) (t := 65) ?hr ?_; (case hd => rfl); (case hg => rfl); (case hr => first | (go_simp; done) | (go_simp; rfl)); intro gb104 hg w47 hbox hb; have BK104 := am (hbox); have GW104 := am ((Q25 : w.heap.size ≤ gb104)); have GE104 := am ((Q25 : w.heap.size ≤ gb104)); replace HB := am (below_step (Q1 HB) hb); have NB101_104 := am ((Q37 : gb101 ≠ gb104)); have NB104_101 := am ((Q38 : gb104 ≠ gb101)); replace BK101 := am (blk_below (g := gb101) (o := .cells #[.int .i64 a0_0, .slice (some ad103) l0_1.length c0_1] 29 (0, 0)) (Q0 BK101) hb); clear hb hbox hg; have hnb48 := NB104_101.out; have hnc48 := NB101_104.out; have hcz49_0 : w47.cell? ⟨gb104, 0, none⟩ = some (.int .i64 0) := (blk_cell BK104.out 0).trans rfl; have hcz49_1 : w47.cell? ⟨gb104, 1, none⟩ = some (.int .i64 0) := (blk_cell BK104.out 1).trans rfl; have hfz49_0 := blk_frozen BK104.out 0; have hfz49_1 := blk_frozen BK104.out 1))
      have n0_ : Aside0 (((w47.setCell ⟨gb104, 0, none⟩ (.int .i64 ((rd_T65 l0_1 x3_1).f0))).setCell ⟨gb104, 1, none⟩ (.int .i64 ((rd_T65 l0_1 x3_1).f1))).heap[gb101]? = some (.cells #[.int .i64 a0_0, .slice (some ad103) l0_1.length c0_1] 29 (0, 0))) := ⟨Q5 NB101_104 BK101⟩; have n1_ : Aside0 (((w47.setCell ⟨gb104, 0, none⟩ (.int .i64 ((rd_T65 l0_1 x3_1).f0))).setCell ⟨gb104, 1, none⟩ (.int .i64 ((rd_T65 l0_1 x3_1).f1))).heap[gb104]? = some (.cells #[.int .i64 ((rd_T65 l0_1 x3_1).f0), .int .i64 ((rd_T65 l0_1 x3_1).f1)] 65 (0, 0))) := ⟨Q31 BK104⟩; have n2_ : Aside0 (Below w.heap.size w ((w47.setCell ⟨gb104, 0, none⟩ (.int .i64 ((rd_T65 l0_1 x3_1).f0))).setCell ⟨gb104, 1, none⟩ (.int .i64 ((rd_T65 l0_1 x3_1).f1)))) := ⟨Q6 HB GE104⟩; (try clear BK101); (try clear BK104); (try clear HB); generalize ((w47.setCell ⟨gb104, 0, none⟩ (.int .i64 ((rd_T65 l0_1 x3_1).f0))).setCell ⟨gb104, 1, none⟩ (.int .i64 ((rd_T65 l0_1 x3_1).f1))) = w50 at n0_ n1_ n2_ ⊢; have BK101 := n0_; have BK104 := n1_; have HB := n2_; clear n0_ n1_ n2_; replace BK101 := am (blk_drew BK101.out); replace BK104 := am (blk_drew BK104.out); replace HB := am (below_drew1 HB.out); refine start_ (n := 38) (S := fun w' => w'.cell? ⟨gb104, 0, none⟩ = some (.int .i64 ((rd_T65 l0_1 x3_1).f0)) ∧ w'.cell? ⟨gb104, 1, none⟩ = some (.int .i64 ((rd_T65 l0_1 x3_1).f1)) ∧ w'.cell? ⟨gb101, 0, none⟩ = some (.int .i64 a0_0) ∧ w'.cell? ⟨gb101, 1, none⟩ = some (.slice (some ad103) l0_1.length c0_1)) (ds := []) #[false, false, false, false, false, false, false, false, false, false, false, false, false, false, false, false, false, false, false, false, false, false, false, false, false, false, false, false, false, false, false, false, false, false, false, false, false, false] (by kernel_rfl) rfl rfl ⟨(blk_cell BK104.out 0).trans rfl, (blk_cell BK104.out 1).trans rfl, (blk_cell BK101.out 0).trans rfl, (blk_cell BK101.out 1).trans rfl⟩ (fun hHeld => ?_); refine with_tabW spec_l2Good.tab5 spec_l2Good.bits5 (fun HT_ HW_ => ?_); generalize w50.drew = w51 at BK101 BK104 HB hHeld ⊢; refine pq 0 17 rfl rfl HT_ ?_; refine pq 2 19 rfl rfl HT_ ?_; refine tq4 1 18 rfl rfl HT_ HW_ hHeld ?_; refine tq4 3 20 rfl rfl HT_ HW_ hHeld ?_; refine pq 4 21 rfl rfl HT_ ?_; refine oq 5 22 rfl rfl HT_ (fun K hK => ?_); refine goes_ Try.func95 (by kernel_rfl) rfl #[.int .i64 ((rd_T65 l0_1 x3_1).f0), .int .i64 0, .int .i64 (wrap64 (a0_0 - 1))] (by rfl) rfl rfl Q4 ?_
      with_reducible refine (spec_l1In.calls ((rd_T65 l0_1 x3_1).f0) 0 (wrap64 (a0_0 - 1)) false _ A5.out).mono ?_
      rintro e w' ⟨rfl, ⟨nd, rfl⟩⟩; refine ⟨_, rfl, ?_⟩; refine hK.out _ _ ⟨(blk_cell BK104.out 0).trans rfl, (blk_cell BK104.out 1).trans rfl, (blk_cell BK101.out 0).trans rfl, (blk_cell BK101.out 1).trans rfl⟩ (fun hHeld => ?_); clear hK K; refine norm_ (a' := ?_) ?_ ?_
      rotate_left
      ·show Act.put _ (some 22) _ = _
       simp only [Act.put, List.setIfInBounds_toArray, List.set_cons_zero, List.set_cons_succ, i64_w, i32_w]
       rfl
      refine pq 6 23 rfl rfl HT_ ?_; refine pq 7 24 rfl rfl HT_ ?_; refine pu 8 25 rfl rfl HT_ ?_; refine pu 9 26 rfl rfl HT_ ?_; refine pu 10 27 rfl rfl HT_ ?_; refine pu 11 28 rfl rfl HT_ ?_; refine pu 12 29 rfl rfl HT_ ?_; refine pu 13 30 rfl rfl HT_ ?_; refine pu 14 31 rfl rfl HT_ ?_; refine pq 15 32 rfl rfl HT_ ?_; refine pq 16 33 rfl rfl HT_ ?_; refine pu 17 34 rfl rfl HT_ ?_; refine pu 18 35 rfl rfl HT_ ?_; refine pu 19 36 rfl rfl HT_ ?_; refine pu 20 37 rfl rfl HT_ ?_; refine pu 21 38 rfl rfl HT_ ?_; refine pq 22 39 rfl rfl HT_ ?_; refine pq 23 40 rfl rfl HT_ ?_; refine pu 24 41 rfl rfl HT_ ?_; refine pu 25 42 rfl rfl HT_ ?_; refine pu 26 43 rfl rfl HT_ ?_; refine pu 27 44 rfl rfl HT_ ?_; refine pu 28 45 rfl rfl HT_ ?_; refine pu 29 46 rfl rfl HT_ ?_; refine pu 30 47 rfl rfl HT_ ?_; refine pu 31 48 rfl rfl HT_ ?_; refine pu 32 49 rfl rfl HT_ ?_; refine pu 33 50 rfl rfl HT_ ?_; refine pu 34 51 rfl rfl HT_ ?_; refine pu 35 52 rfl rfl HT_ ?_; refine pu 36 53 rfl rfl HT_ ?_; refine pq 37 54 rfl rfl HT_ ?_; refine done_ (done_of HT_.out (by kernel_rfl)) ?_
      go_upto_if 54 with (fail)
      have H := HU45.out; clear HU45; obtain rfl := Option.some.inj H
      go_wp2
      go_ret
      exact ⟨Q9, Q1 HB⟩
    ·rw [if_neg c4] at H
     exact absurd H (by simp)
   ·rw [if_neg c3] at H
    have c3b0 := decide_eq_false c3; clear c3; replace H := (ob H); obtain ⟨t102, A520, H⟩ := H; (try dsimp only at H); have A52 := Aside0.mk A520; clear A520; obtain rfl := Option.some.inj H; have hcz53_0 : wr.cell? ⟨gb101, 0, none⟩ = some (.int .i64 a0_0) := (blk_cell BK101.out 0).trans rfl; have hcz53_1 : wr.cell? ⟨gb101, 1, none⟩ = some (.slice A0_1 l0_1.length c0_1) := (blk_cell BK101.out 1).trans rfl; have hfz53_0 := blk_frozen BK101.out 0; have hfz53_1 := blk_frozen BK101.out 1
    go_wp2_with (first | ((with_reducible refine gate_callee (f := 95) rfl ?_); refine goesL_ (some 57) rfl rfl Try.func95 (by kernel_rfl) rfl #[.int .i64 a0_0, .int .i64 0, .int .i64 8] rfl Q4 ?_; (with_reducible refine (spec_l1In.calls a0_0 0 8 t102 _ A52.out).mono ?_); rintro e w' ⟨rfl, ⟨nd, rfl⟩⟩; refine ⟨_, rfl, ?_⟩))
    go_ret
    exact ⟨Q9, Q1 HB⟩
end Go.Proofs.Yteepmbpmhaaonaa.P
