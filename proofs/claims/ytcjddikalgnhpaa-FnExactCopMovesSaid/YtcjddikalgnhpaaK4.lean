/- Functions of the program as Lean functions, that each call comes to what they say, and what holds of them; part 4 of 9; no conditions beyond those that each theorem names. -/
import Derived.Test.YtcjddikalgnhpaaK1
import Derived.Test.YtcjddikalgnhpaaK3
namespace Go.Proofs.Ytcjddikalgnhpaa.P
open Go.RowKit Go.Proofs.YtcjddikalgnhpaaW.PrintWords Go.Proofs.YtcjddikalgnhpaaW.PrintLast Go.Proofs.YtcjddikalgnhpaaW.PrintMore
attribute [local go_sem] max2_int min2_int max_two min_two max_three min_three max_four min_four   -- for this text's walks alone
set_option linter.unusedVariables false
set_option linter.unusedSimpArgs false
/-! ### spec_l2Good: function 120 -/
def spec_l2Good.l0 : Nat → Int → Int → List (S71) → Option (Bool)
 | 0, _, _, _ => none
 | k + 1, x3, x102000, x102001 => if x3 < (x102001.length : Int) then (if 0 ≤ x3 then ((spec_l1In.f ((rd_T71 x102001 x3).f0) 0 (wrap64 (x102000 - 1))).bind fun t105 => (if t105 = true then ((spec_l1In.f ((rd_T71 x102001 x3).f1) 0 (wrap64 (x102000 - 1))).bind fun t106 => (if t106 = true then (if ((rd_T71 x102001 x3).f0) ≥ ((rd_T71 x102001 x3).f1) then (some false) else (if x3 > 0 then (if 0 ≤ (wrap64 (x3 - 1)) then (if (wrap64 (x3 - 1)) < (x102001.length : Int) then ((spec_l2Before.f ((rd_T71 x102001 (wrap64 (x3 - 1))).f0) ((rd_T71 x102001 (wrap64 (x3 - 1))).f1) ((rd_T71 x102001 x3).f0) ((rd_T71 x102001 x3).f1)).bind fun t108 => (if t108 = true then (spec_l2Good.l0 k (wrap64 (x3 + 1)) x102000 x102001) else (some false))) else (none)) else (none)) else (spec_l2Good.l0 k (wrap64 (x3 + 1)) x102000 x102001))) else (some false))) else (some false))) else (none)) else ((spec_l1In.f x102000 0 8).bind fun t102 => (some t102))
def spec_l2Good.f (k : Nat) (a0_0 : Int) (l0_1 : List (S71)) : Option (Bool) := spec_l2Good.l0 k 0 a0_0 l0_1
theorem spec_l2Good.mono_l : ∀ k, (∀ y0 y1 y2, LeO (spec_l2Good.l0 k y0 y1 y2) (spec_l2Good.l0 (k + 1) y0 y1 y2))
 | 0 => fun _ _ _ r h => by simp [spec_l2Good.l0] at h
 | k + 1 => by
  have ih0 := spec_l2Good.mono_l k
  all_goals
   intros
   first | unfold spec_l2Good.l0
   repeat' first | (with_reducible first | exact ih0 _ _ _ | exact LeO.refl _ | exact LeO.none _ | refine LeO.ite ?_ ?_ | refine LeO.bind ?_ (fun _ => ?_))
theorem spec_l2Good.mono : ∀ a0 a1 k, LeO (spec_l2Good.f k a0 a1) (spec_l2Good.f (k + 1) a0 a1) := by
 intro a0 a1 k
 have ih0 := spec_l2Good.mono_l k
 unfold spec_l2Good.f
 repeat' first | (with_reducible first | exact ih0 _ _ _ | exact LeO.refl _ | exact LeO.none _ | refine LeO.ite ?_ ?_ | refine LeO.bind ?_ (fun _ => ?_))
def spec_l2Good.T5 : Bool × List (List Nat × List Nat) := (true, [([], []), ([0], [0]), ([], []), ([2], [2]), ([3], [3]), ([1, 4], [1, 4]), ([5], [5]), ([6, 5], [6]), ([7], [7]), ([8, 7], [7, 8]), ([7], [7]), ([10, 7], [7, 10]), ([11, 7], [7, 11]), ([9, 12, 7, 7], [7, 9, 12]), ([13, 7], [7, 13]), ([7, 14], [7, 14]), ([15, 13], [15]), ([16], [16]), ([17, 16], [16, 17]), ([16], [16]), ([19, 16], [16, 19]), ([18, 20, 16], [16, 18, 20]), ([16, 21], [16, 21]), ([22, 16], [22]), ([23], [23]), ([24, 23], [23, 24]), ([25, 23, 23], [23, 25]), ([26], [26]), ([27, 26], [26, 27]), ([26], [26]), ([29, 26], [26, 29]), ([28, 30, 26], [26, 28, 30]), ([31, 26], [26, 31]), ([26], [26]), ([32, 33, 26, 26], [26, 32, 33]), ([34, 26], [26, 34]), ([26, 35, 23], [23, 26, 35]), ([23, 36], [23, 36])])
def spec_l2Good.B5 : List Nat := [0, 1, 0, 4, 12, 31, 63, 127, 255, 511, 255, 1279, 3327, 8191, 16383, 32767, 65535, 131071, 262143, 131071, 655359, 2097151, 4194303, 8388607, 16777215, 33554431, 67108863, 134217727, 268435455, 134217727, 671088639, 2147483647, 4294967295, 134217727, 17179869183, 34359738367, 68719476735, 137438953471]
theorem spec_l2Good.tab5 : rtab .any (opsOf Try.f120 5) = spec_l2Good.T5 := by kernel_rfl
theorem spec_l2Good.bits5 : waitsOk spec_l2Good.T5.2 spec_l2Good.B5 = true := by kernel_rfl
set_option maxHeartbeats 8000000 in
set_option maxRecDepth 100000 in
theorem spec_l2Good.calls (k : Nat) (a0_0 : Int) (A0_1 : Option Addr) (c0_1 : Nat) (l0_1 : List (S71)) (r : Bool) (w : World) (hr0_1 : Kd.C k71 w A0_1 l0_1.length l0_1) (hc0_1 : l0_1.length ≤ c0_1) (h : spec_l2Good.f k a0_0 l0_1 = some r) :
  Calls Try.prog 120 #[.agg #[.int .i64 a0_0, .slice A0_1 l0_1.length c0_1]] w fun e w' => e = .returned (.bool r) ∧ Below w.heap.size w w' := by
 have hu30 := Try.underlying30
 have hu71 := Try.underlying71
 have HR0_1 := Aside0.mk hr0_1
 have HC0_1 := Aside0.mk hc0_1
 clear hr0_1 hc0_1
 have HB := am (Below.refl w.heap.size w)
 have H : (spec_l2Good.l0 k 0 a0_0 l0_1) = some r := h
 clear h
 have H' := Aside0.mk H
 clear H
 go_enter Try.func120, Try.ntmps120
 go_wp2_with (first | ((with_reducible refine gate_dst (N := 1) rfl ?_); refine box_event ?hg (N := 1) ?hd (cs := #[.int .i64 a0_0, .slice A0_1 l0_1.length c0_1]) (t := 30) ?hr ?_; (case hd => rfl); (case hg => rfl); (case hr => first | (go_simp; done) | (go_simp; rfl)); intro gb101 hg w2 hbox hb; have BK101 := am (hbox); have GW101 := am ((Q26 : w.heap.size ≤ gb101)); have GE101 := am ((Q26 : w.heap.size ≤ gb101)); replace HB := am (below_step (Q0 HB) hb); clear hb hbox hg))
 go_loopg [3] k (fun kq v3 w' => ∃ (x3_1 : Int), v3 = .int .i64 x3_1 ∧ Aside0 (spec_l2Good.l0 kq x3_1 a0_0 l0_1 = some r) ∧ Aside0 (kq ≤ k) ∧ Aside0 (w'.heap[gb101]? = some (.cells #[.int .i64 a0_0, (.slice A0_1 l0_1.length c0_1)] 30 (0, 0))) ∧ Aside0 (Below w.heap.size w w'))
 case atStart => exact ⟨(0), Q8, H', ⟨Nat.le_refl _⟩, ⟨Q1 BK101⟩, ⟨Q0 HB⟩⟩
 case round =>
  clear H'
  try clear c1
  try clear p2
  obtain ⟨x3_1, rfl, HA, HK1, BK101, HB⟩ := hrel
  cases gk with
  | zero => exact absurd HA.out (by simp [spec_l2Good.l0])
  | succ k1 =>
   have H := HA.out; clear HA
   simp only [spec_l2Good.l0] at H
   by_cases c3 : x3_1 < (l0_1.length : Int)
   ·rw [if_pos c3] at H
    have c3b0 := decide_eq_true c3; clear c3
    by_cases c4 : 0 ≤ x3_1
    ·rw [if_pos c4] at H
     have c4b0 := decide_eq_true c4; clear c4; replace H := (ob H); obtain ⟨t105, A50, H⟩ := H; (try dsimp only at H); have A5 := Aside0.mk A50; clear A50
     by_cases c6 : t105 = true
     ·subst c6
      have H1 : ((spec_l1In.f ((rd_T71 l0_1 x3_1).f1) 0 (wrap64 (a0_0 - 1))).bind fun t106 => (if t106 = true then (if ((rd_T71 l0_1 x3_1).f0) ≥ ((rd_T71 l0_1 x3_1).f1) then (some false) else (if x3_1 > 0 then (if 0 ≤ (wrap64 (x3_1 - 1)) then (if (wrap64 (x3_1 - 1)) < (l0_1.length : Int) then ((spec_l2Before.f ((rd_T71 l0_1 (wrap64 (x3_1 - 1))).f0) ((rd_T71 l0_1 (wrap64 (x3_1 - 1))).f1) ((rd_T71 l0_1 x3_1).f0) ((rd_T71 l0_1 x3_1).f1)).bind fun t108 => (if t108 = true then (spec_l2Good.l0 k1 (wrap64 (x3_1 + 1)) a0_0 l0_1) else (some false))) else (none)) else (none)) else (spec_l2Good.l0 k1 (wrap64 (x3_1 + 1)) a0_0 l0_1))) else (some false))) = some r := by rw [if_pos rfl] at H; exact H
      clear H; have H := H1; clear H1; replace H := (ob H); obtain ⟨t106, A70, H⟩ := H; (try dsimp only at H); have A7 := Aside0.mk A70; clear A70
      by_cases c8 : t106 = true
      ·subst c8
       have H1 : (if ((rd_T71 l0_1 x3_1).f0) ≥ ((rd_T71 l0_1 x3_1).f1) then (some false) else (if x3_1 > 0 then (if 0 ≤ (wrap64 (x3_1 - 1)) then (if (wrap64 (x3_1 - 1)) < (l0_1.length : Int) then ((spec_l2Before.f ((rd_T71 l0_1 (wrap64 (x3_1 - 1))).f0) ((rd_T71 l0_1 (wrap64 (x3_1 - 1))).f1) ((rd_T71 l0_1 x3_1).f0) ((rd_T71 l0_1 x3_1).f1)).bind fun t108 => (if t108 = true then (spec_l2Good.l0 k1 (wrap64 (x3_1 + 1)) a0_0 l0_1) else (some false))) else (none)) else (none)) else (spec_l2Good.l0 k1 (wrap64 (x3_1 + 1)) a0_0 l0_1))) = some r := by rw [if_pos rfl] at H; exact H
       clear H; have H := H1; clear H1
       by_cases c9 : ((rd_T71 l0_1 x3_1).f0) ≥ ((rd_T71 l0_1 x3_1).f1)
       ·rw [if_pos c9] at H
        have c9b0 : decide (((rd_T71 l0_1 x3_1).f1) ≤ ((rd_T71 l0_1 x3_1).f0)) = true := decide_eq_true c9; clear c9; have HU10 := Aside0.mk H; clear H; have hcz11_0 : wr.cell? ⟨gb101, 0, none⟩ = some (.int .i64 a0_0) := (blk_cell BK101.out 0).trans rfl; have hcz11_1 : wr.cell? ⟨gb101, 1, none⟩ = some (.slice A0_1 l0_1.length c0_1) := (blk_cell BK101.out 1).trans rfl; have hfz11_0 := blk_frozen BK101.out 0; have hfz11_1 := blk_frozen BK101.out 1; have p103 : 0 ≤ (x3_1 : Int) := of_decide_eq_true Q4; have q103 : x3_1 < (l0_1.length : Int) := of_decide_eq_true Q4; obtain ⟨ad103, e103, hx103_0, hx103_1⟩ := at_T71 HR0_1.out x3_1 p103 q103
        cases e103
        replace hx103_0 := (HB.out.cell (World.block_lt_of_cell? w _ hx103_0)).trans hx103_0; replace hx103_1 := (HB.out.cell (World.block_lt_of_cell? w _ hx103_1)).trans hx103_1; replace p103 := eq_true p103; replace q103 := eq_true q103
        try go_wp2_with (first | ((with_reducible refine gate_dst (N := 4) rfl ?_); refine box_event ?hg (N := 4) ?hd (cs := #[.int .i64 0, .int .i64 0]) (t := 71) ?hr ?_; (case hd => rfl); (case hg => rfl); (case hr => first | (go_simp; done) | (go_simp; rfl)); intro gb104 hg w12 hbox hb; have BK104 := am (hbox); have GW104 := am ((Q26 : w.heap.size ≤ gb104)); have GE104 := am ((Q26 : w.heap.size ≤ gb104)); replace HB := am (below_step (Q0 HB) hb); have NB101_104 := am ((Q45 : gb101 ≠ gb104)); have NB104_101 := am ((Q46 : gb104 ≠ gb101)); replace BK101 := am (blk_below (g := gb101) (o := .cells #[.int .i64 a0_0, .slice (some ad103) l0_1.length c0_1] 30 (0, 0)) (Q1 BK101) hb); clear hb hbox hg; have hnb13 := NB104_101.out; have hnc13 := NB101_104.out; have hcz14_0 : w12.cell? ⟨gb104, 0, none⟩ = some (.int .i64 0) := (blk_cell BK104.out 0).trans rfl; have hcz14_1 : w12.cell? ⟨gb104, 1, none⟩ = some (.int .i64 0) := (blk_cell BK104.out 1).trans rfl; have hfz14_0 := blk_frozen BK104.out 0; have hfz14_1 := blk_frozen BK104.out 1))
        have n0_ : Aside0 (((w12.setCell ⟨gb104, 0, none⟩ (.int .i64 ((rd_T71 l0_1 x3_1).f0))).setCell ⟨gb104, 1, none⟩ (.int .i64 ((rd_T71 l0_1 x3_1).f1))).heap[gb101]? = some (.cells #[.int .i64 a0_0, .slice (some ad103) l0_1.length c0_1] 30 (0, 0))) := ⟨Q11 NB101_104 BK101⟩; have n1_ : Aside0 (((w12.setCell ⟨gb104, 0, none⟩ (.int .i64 ((rd_T71 l0_1 x3_1).f0))).setCell ⟨gb104, 1, none⟩ (.int .i64 ((rd_T71 l0_1 x3_1).f1))).heap[gb104]? = some (.cells #[.int .i64 ((rd_T71 l0_1 x3_1).f0), .int .i64 ((rd_T71 l0_1 x3_1).f1)] 71 (0, 0))) := ⟨Q28 BK104⟩; have n2_ : Aside0 (Below w.heap.size w ((w12.setCell ⟨gb104, 0, none⟩ (.int .i64 ((rd_T71 l0_1 x3_1).f0))).setCell ⟨gb104, 1, none⟩ (.int .i64 ((rd_T71 l0_1 x3_1).f1)))) := ⟨Q13 HB GE104⟩; (try clear BK101); (try clear BK104); (try clear HB); generalize ((w12.setCell ⟨gb104, 0, none⟩ (.int .i64 ((rd_T71 l0_1 x3_1).f0))).setCell ⟨gb104, 1, none⟩ (.int .i64 ((rd_T71 l0_1 x3_1).f1))) = w15 at n0_ n1_ n2_ ⊢; have BK101 := n0_; have BK104 := n1_; have HB := n2_; clear n0_ n1_ n2_; replace BK101 := am (blk_drew BK101.out); replace BK104 := am (blk_drew BK104.out); replace HB := am (below_drew1 HB.out); refine start_ (n := 38) (S := fun w' => w'.cell? ⟨gb104, 0, none⟩ = some (.int .i64 ((rd_T71 l0_1 x3_1).f0)) ∧ w'.cell? ⟨gb104, 1, none⟩ = some (.int .i64 ((rd_T71 l0_1 x3_1).f1)) ∧ w'.cell? ⟨gb101, 0, none⟩ = some (.int .i64 a0_0) ∧ w'.cell? ⟨gb101, 1, none⟩ = some (.slice (some ad103) l0_1.length c0_1)) (ds := []) #[false, false, false, false, false, false, false, false, false, false, false, false, false, false, false, false, false, false, false, false, false, false, false, false, false, false, false, false, false, false, false, false, false, false, false, false, false, false] (by kernel_rfl) rfl rfl ⟨(blk_cell BK104.out 0).trans rfl, (blk_cell BK104.out 1).trans rfl, (blk_cell BK101.out 0).trans rfl, (blk_cell BK101.out 1).trans rfl⟩ (fun hHeld => ?_); refine with_tabW spec_l2Good.tab5 spec_l2Good.bits5 (fun HT_ HW_ => ?_); generalize w15.drew = w16 at BK101 BK104 HB hHeld ⊢; refine pq 0 17 rfl rfl HT_ ?_; refine pq 2 19 rfl rfl HT_ ?_; refine tq4 1 18 rfl rfl HT_ HW_ hHeld ?_; refine tq4 3 20 rfl rfl HT_ HW_ hHeld ?_; refine pq 4 21 rfl rfl HT_ ?_; refine oq 5 22 rfl rfl HT_ (fun K hK => ?_); refine goes_ Try.func110 (by kernel_rfl) rfl #[.int .i64 ((rd_T71 l0_1 x3_1).f0), .int .i64 0, .int .i64 (wrap64 (a0_0 - 1))] (by rfl) rfl rfl Q3 ?_
        with_reducible refine (spec_l1In.calls ((rd_T71 l0_1 x3_1).f0) 0 (wrap64 (a0_0 - 1)) true _ A5.out).mono ?_
        rintro e w' ⟨rfl, ⟨nd, rfl⟩⟩; refine ⟨_, rfl, ?_⟩; refine hK.out _ _ ⟨(blk_cell BK104.out 0).trans rfl, (blk_cell BK104.out 1).trans rfl, (blk_cell BK101.out 0).trans rfl, (blk_cell BK101.out 1).trans rfl⟩ (fun hHeld => ?_); clear hK K; refine norm_ (a' := ?_) ?_ ?_
        rotate_left
        ·show Act.put _ (some 22) _ = _
         simp only [Act.put, List.setIfInBounds_toArray, List.set_cons_zero, List.set_cons_succ, i64_w, i32_w]
         rfl
        refine pq 6 23 rfl rfl HT_ ?_; refine pq 7 24 rfl rfl HT_ ?_; refine pq 8 25 rfl rfl HT_ ?_; refine pq 10 27 rfl rfl HT_ ?_; refine tq4 9 26 rfl rfl HT_ HW_ hHeld ?_; refine tq4 11 28 rfl rfl HT_ HW_ hHeld ?_; refine pq 12 29 rfl rfl HT_ ?_; refine oq 13 30 rfl rfl HT_ (fun K hK => ?_); refine goes_ Try.func110 (by kernel_rfl) rfl #[.int .i64 ((rd_T71 l0_1 x3_1).f1), .int .i64 0, .int .i64 (wrap64 (a0_0 - 1))] (by rfl) rfl rfl Q3 ?_
        with_reducible refine (spec_l1In.calls ((rd_T71 l0_1 x3_1).f1) 0 (wrap64 (a0_0 - 1)) true _ A7.out).mono ?_
        rintro e w' ⟨rfl, ⟨nd, rfl⟩⟩; refine ⟨_, rfl, ?_⟩; refine hK.out _ _ ⟨(blk_cell BK104.out 0).trans rfl, (blk_cell BK104.out 1).trans rfl, (blk_cell BK101.out 0).trans rfl, (blk_cell BK101.out 1).trans rfl⟩ (fun hHeld => ?_); clear hK K; refine norm_ (a' := ?_) ?_ ?_
        rotate_left
        ·show Act.put _ (some 30) _ = _
         simp only [Act.put, List.setIfInBounds_toArray, List.set_cons_zero, List.set_cons_succ, i64_w, i32_w]
         rfl
        refine pq 14 31 rfl rfl HT_ ?_; refine pq 15 32 rfl rfl HT_ ?_; refine pq 16 33 rfl rfl HT_ ?_; refine pq 17 34 rfl rfl HT_ ?_; refine pq 19 36 rfl rfl HT_ ?_; refine tq4 18 35 rfl rfl HT_ HW_ hHeld ?_; refine tq4 20 37 rfl rfl HT_ HW_ hHeld ?_; refine pq 21 38 rfl rfl HT_ ?_; refine pq 22 39 rfl rfl HT_ ?_; refine pq 23 40 rfl rfl HT_ ?_; refine pu 24 41 rfl rfl HT_ ?_; refine pu 25 42 rfl rfl HT_ ?_; refine pu 26 43 rfl rfl HT_ ?_; refine pu 27 44 rfl rfl HT_ ?_; refine pu 28 45 rfl rfl HT_ ?_; refine pu 29 46 rfl rfl HT_ ?_; refine pu 30 47 rfl rfl HT_ ?_; refine pu 31 48 rfl rfl HT_ ?_; refine pu 32 49 rfl rfl HT_ ?_; refine pu 33 50 rfl rfl HT_ ?_; refine pu 34 51 rfl rfl HT_ ?_; refine pu 35 52 rfl rfl HT_ ?_; refine pu 36 53 rfl rfl HT_ ?_; refine pq 37 54 rfl rfl HT_ ?_; refine done_ (done_of HT_.out (by kernel_rfl)) ?_
        go_upto_if 54 with (fail)
        have H := HU10.out; clear HU10; obtain rfl := Option.some.inj H
        go_wp2
        go_ret
        exact ⟨Q9, Q0 HB⟩
       ·rw [if_neg c9] at H
        have c9b0 : decide (((rd_T71 l0_1 x3_1).f1) ≤ ((rd_T71 l0_1 x3_1).f0)) = false := decide_eq_false c9; clear c9
        by_cases c17 : x3_1 > 0
        ·rw [if_pos c17] at H
         have c17b0 : decide (0 < x3_1) = true := decide_eq_true c17; clear c17; obtain ⟨ji18, hji18⟩ : ∃ j_ : Int, (wrap64 (x3_1 - 1)) = j_ := ⟨_, rfl⟩; replace H : (if 0 ≤ (ji18) then (if (ji18) < (l0_1.length : Int) then ((spec_l2Before.f ((rd_T71 l0_1 (ji18)).f0) ((rd_T71 l0_1 (ji18)).f1) ((rd_T71 l0_1 x3_1).f0) ((rd_T71 l0_1 x3_1).f1)).bind fun t108 => (if t108 = true then (spec_l2Good.l0 k1 (wrap64 (x3_1 + 1)) a0_0 l0_1) else (some false))) else (none)) else (none)) = some r := by first | (rw [hji18] at H; exact H) | (simp only [hji18] at H ⊢; exact H)
         (try rw [hji18] at A5); (try rw [hji18] at A7); have hji18w : (IntKind.i64.wrap (x3_1 - 1)) = ji18 := (i64_w _).trans hji18
         by_cases c19 : 0 ≤ (ji18)
         ·rw [if_pos c19] at H
          have c19b0 := decide_eq_true c19; clear c19
          by_cases c20 : (ji18) < (l0_1.length : Int)
          ·rw [if_pos c20] at H
           have c20b0 := decide_eq_true c20; clear c20; replace H := (ob H); obtain ⟨t108, A210, H⟩ := H; (try dsimp only at H); have A21 := Aside0.mk A210; clear A210; have HU22 := Aside0.mk H; clear H; have hcz23_0 : wr.cell? ⟨gb101, 0, none⟩ = some (.int .i64 a0_0) := (blk_cell BK101.out 0).trans rfl; have hcz23_1 : wr.cell? ⟨gb101, 1, none⟩ = some (.slice A0_1 l0_1.length c0_1) := (blk_cell BK101.out 1).trans rfl; have hfz23_0 := blk_frozen BK101.out 0; have hfz23_1 := blk_frozen BK101.out 1; have p103 : 0 ≤ (x3_1 : Int) := of_decide_eq_true Q4; have q103 : x3_1 < (l0_1.length : Int) := of_decide_eq_true Q4; obtain ⟨ad103, e103, hx103_0, hx103_1⟩ := at_T71 HR0_1.out x3_1 p103 q103
           cases e103
           replace hx103_0 := (HB.out.cell (World.block_lt_of_cell? w _ hx103_0)).trans hx103_0; replace hx103_1 := (HB.out.cell (World.block_lt_of_cell? w _ hx103_1)).trans hx103_1; replace p103 := eq_true p103; replace q103 := eq_true q103
           try go_wp2_with (first | ((with_reducible refine gate_dst (N := 4) rfl ?_); refine box_event ?hg (N := 4) ?hd (cs := #[.int .i64 0, .int .i64 0]) (t := 71) ?hr ?_; (case hd => rfl); (case hg => rfl); (case hr => first | (go_simp; done) | (go_simp; rfl)); intro gb104 hg w24 hbox hb; have BK104 := am (hbox); have GW104 := am ((Q26 : w.heap.size ≤ gb104)); have GE104 := am ((Q26 : w.heap.size ≤ gb104)); replace HB := am (below_step (Q0 HB) hb); have NB101_104 := am ((Q45 : gb101 ≠ gb104)); have NB104_101 := am ((Q46 : gb104 ≠ gb101)); replace BK101 := am (blk_below (g := gb101) (o := .cells #[.int .i64 a0_0, .slice (some ad103) l0_1.length c0_1] 30 (0, 0)) (Q1 BK101) hb); clear hb hbox hg; have hnb25 := NB104_101.out; have hnc25 := NB101_104.out; have hcz26_0 : w24.cell? ⟨gb104, 0, none⟩ = some (.int .i64 0) := (blk_cell BK104.out 0).trans rfl; have hcz26_1 : w24.cell? ⟨gb104, 1, none⟩ = some (.int .i64 0) := (blk_cell BK104.out 1).trans rfl; have hfz26_0 := blk_frozen BK104.out 0; have hfz26_1 := blk_frozen BK104.out 1))
           have n0_ : Aside0 (((w24.setCell ⟨gb104, 0, none⟩ (.int .i64 ((rd_T71 l0_1 x3_1).f0))).setCell ⟨gb104, 1, none⟩ (.int .i64 ((rd_T71 l0_1 x3_1).f1))).heap[gb101]? = some (.cells #[.int .i64 a0_0, .slice (some ad103) l0_1.length c0_1] 30 (0, 0))) := ⟨Q11 NB101_104 BK101⟩; have n1_ : Aside0 (((w24.setCell ⟨gb104, 0, none⟩ (.int .i64 ((rd_T71 l0_1 x3_1).f0))).setCell ⟨gb104, 1, none⟩ (.int .i64 ((rd_T71 l0_1 x3_1).f1))).heap[gb104]? = some (.cells #[.int .i64 ((rd_T71 l0_1 x3_1).f0), .int .i64 ((rd_T71 l0_1 x3_1).f1)] 71 (0, 0))) := ⟨Q28 BK104⟩; have n2_ : Aside0 (Below w.heap.size w ((w24.setCell ⟨gb104, 0, none⟩ (.int .i64 ((rd_T71 l0_1 x3_1).f0))).setCell ⟨gb104, 1, none⟩ (.int .i64 ((rd_T71 l0_1 x3_1).f1)))) := ⟨Q13 HB GE104⟩; (try clear BK101); (try clear BK104); (try clear HB); generalize ((w24.setCell ⟨gb104, 0, none⟩ (.int .i64 ((rd_T71 l0_1 x3_1).f0))).setCell ⟨gb104, 1, none⟩ (.int .i64 ((rd_T71 l0_1 x3_1).f1))) = w27 at n0_ n1_ n2_ ⊢; have BK101 := n0_; have BK104 := n1_; have HB := n2_; clear n0_ n1_ n2_; replace BK101 := am (blk_drew BK101.out); replace BK104 := am (blk_drew BK104.out); replace HB := am (below_drew1 HB.out); have p107 : 0 ≤ ((ji18) : Int) := of_decide_eq_true Q4; have q107 : (ji18) < (l0_1.length : Int) := of_decide_eq_true Q4; obtain ⟨ad107, e107, hx107_0, hx107_1⟩ := at_T71 HR0_1.out (ji18) p107 q107; have hw107_1 := hx107_1; have hw107_0 := hx107_0; obtain rfl : ad103 = ad107 := (by injection e107); replace hx107_0 := (HB.out.cell (World.block_lt_of_cell? w _ hx107_0)).trans hx107_0; replace hx107_1 := (HB.out.cell (World.block_lt_of_cell? w _ hx107_1)).trans hx107_1; replace p107 := eq_true p107; replace q107 := eq_true q107; refine start_ (n := 38) (S := fun w' => w'.cell? ⟨gb104, 0, none⟩ = some (.int .i64 ((rd_T71 l0_1 x3_1).f0)) ∧ w'.cell? ⟨gb104, 1, none⟩ = some (.int .i64 ((rd_T71 l0_1 x3_1).f1)) ∧ w'.cell? ⟨gb101, 0, none⟩ = some (.int .i64 a0_0) ∧ w'.cell? ⟨gb101, 1, none⟩ = some (.slice (some ad103) l0_1.length c0_1) ∧ w'.cell? (ad103.add (((ji18)).toNat * 2)) = some (.int .i64 ((rd_T71 l0_1 (ji18)).f0)) ∧ w'.cell? ⟨(ad103.add (((ji18)).toNat * 2)).block, (ad103.add (((ji18)).toNat * 2)).off + 1, none⟩ = some (.int .i64 ((rd_T71 l0_1 (ji18)).f1))) (ds := []) #[false, false, false, false, false, false, false, false, false, false, false, false, false, false, false, false, false, false, false, false, false, false, false, false, false, false, false, false, false, false, false, false, false, false, false, false, false, false] (by kernel_rfl) rfl rfl ⟨(blk_cell BK104.out 0).trans rfl, (blk_cell BK104.out 1).trans rfl, (blk_cell BK101.out 0).trans rfl, (blk_cell BK101.out 1).trans rfl, ((HB.out.cell (World.block_lt_of_cell? w _ hw107_0)).trans hw107_0), ((HB.out.cell (World.block_lt_of_cell? w _ hw107_1)).trans hw107_1)⟩ (fun hHeld => ?_); refine with_tabW spec_l2Good.tab5 spec_l2Good.bits5 (fun HT_ HW_ => ?_); generalize w27.drew = w28 at BK101 BK104 HB hx107_0 hx107_1 hHeld ⊢; refine pq 0 17 rfl rfl HT_ ?_; refine pq 2 19 rfl rfl HT_ ?_; refine tq6 1 18 rfl rfl HT_ HW_ hHeld ?_; refine tq6 3 20 rfl rfl HT_ HW_ hHeld ?_; refine pq 4 21 rfl rfl HT_ ?_; refine oq 5 22 rfl rfl HT_ (fun K hK => ?_); refine goes_ Try.func110 (by kernel_rfl) rfl #[.int .i64 ((rd_T71 l0_1 x3_1).f0), .int .i64 0, .int .i64 (wrap64 (a0_0 - 1))] (by rfl) rfl rfl Q3 ?_
           with_reducible refine (spec_l1In.calls ((rd_T71 l0_1 x3_1).f0) 0 (wrap64 (a0_0 - 1)) true _ A5.out).mono ?_
           rintro e w' ⟨rfl, ⟨nd, rfl⟩⟩; refine ⟨_, rfl, ?_⟩; refine hK.out _ _ ⟨(blk_cell BK104.out 0).trans rfl, (blk_cell BK104.out 1).trans rfl, (blk_cell BK101.out 0).trans rfl, (blk_cell BK101.out 1).trans rfl, ((HB.out.cell (World.block_lt_of_cell? w _ hw107_0)).trans hw107_0), ((HB.out.cell (World.block_lt_of_cell? w _ hw107_1)).trans hw107_1)⟩ (fun hHeld => ?_); clear hK K; refine norm_ (a' := ?_) ?_ ?_
           rotate_left
           ·show Act.put _ (some 22) _ = _
            simp only [Act.put, List.setIfInBounds_toArray, List.set_cons_zero, List.set_cons_succ, i64_w, i32_w]
            rfl
           refine pq 6 23 rfl rfl HT_ ?_; refine pq 7 24 rfl rfl HT_ ?_; refine pq 8 25 rfl rfl HT_ ?_; refine pq 10 27 rfl rfl HT_ ?_; refine tq6 9 26 rfl rfl HT_ HW_ hHeld ?_; refine tq6 11 28 rfl rfl HT_ HW_ hHeld ?_; refine pq 12 29 rfl rfl HT_ ?_; refine oq 13 30 rfl rfl HT_ (fun K hK => ?_); refine goes_ Try.func110 (by kernel_rfl) rfl #[.int .i64 ((rd_T71 l0_1 x3_1).f1), .int .i64 0, .int .i64 (wrap64 (a0_0 - 1))] (by rfl) rfl rfl Q3 ?_
           with_reducible refine (spec_l1In.calls ((rd_T71 l0_1 x3_1).f1) 0 (wrap64 (a0_0 - 1)) true _ A7.out).mono ?_
           rintro e w' ⟨rfl, ⟨nd, rfl⟩⟩; refine ⟨_, rfl, ?_⟩; refine hK.out _ _ ⟨(blk_cell BK104.out 0).trans rfl, (blk_cell BK104.out 1).trans rfl, (blk_cell BK101.out 0).trans rfl, (blk_cell BK101.out 1).trans rfl, ((HB.out.cell (World.block_lt_of_cell? w _ hw107_0)).trans hw107_0), ((HB.out.cell (World.block_lt_of_cell? w _ hw107_1)).trans hw107_1)⟩ (fun hHeld => ?_); clear hK K; refine norm_ (a' := ?_) ?_ ?_
           rotate_left
           ·show Act.put _ (some 30) _ = _
            simp only [Act.put, List.setIfInBounds_toArray, List.set_cons_zero, List.set_cons_succ, i64_w, i32_w]
            rfl
           refine pq 14 31 rfl rfl HT_ ?_; refine pq 15 32 rfl rfl HT_ ?_; refine pq 16 33 rfl rfl HT_ ?_; refine pq 17 34 rfl rfl HT_ ?_; refine pq 19 36 rfl rfl HT_ ?_; refine tq6 18 35 rfl rfl HT_ HW_ hHeld ?_; refine tq6 20 37 rfl rfl HT_ HW_ hHeld ?_; refine pq 21 38 rfl rfl HT_ ?_; refine pq 22 39 rfl rfl HT_ ?_; refine pq 23 40 rfl rfl HT_ ?_; refine pq 24 41 rfl rfl HT_ ?_; refine pq 25 42 rfl rfl HT_ ?_; refine pq 26 43 rfl rfl HT_ ?_; refine pq 27 44 rfl rfl HT_ ?_; refine pq 29 46 rfl rfl HT_ ?_; refine pq 30 47 rfl rfl HT_ ?_; refine tq6 28 45 rfl rfl HT_ HW_ hHeld ?_; refine pq 31 48 rfl rfl HT_ ?_; refine tq6 32 49 rfl rfl HT_ HW_ hHeld ?_; refine tq6 33 50 rfl rfl HT_ HW_ hHeld ?_; refine oq 34 51 rfl rfl HT_ (fun K hK => ?_); refine goes_ Try.func189 (by kernel_rfl) rfl #[.agg #[.int .i64 ((rd_T71 l0_1 (ji18)).f0), .int .i64 ((rd_T71 l0_1 (ji18)).f1)], .agg #[.int .i64 ((rd_T71 l0_1 x3_1).f0), .int .i64 ((rd_T71 l0_1 x3_1).f1)]] (by rfl) rfl rfl (by (try simp only [List.map_toArray, List.map_cons, List.map_nil]); first | done | (simp only [hji18]; rfl) | rfl | (simp only [List.length_drop, List.length_take]; rfl)) ?_
           with_reducible refine (spec_l2Before.calls ((rd_T71 l0_1 (ji18)).f0) ((rd_T71 l0_1 (ji18)).f1) ((rd_T71 l0_1 x3_1).f0) ((rd_T71 l0_1 x3_1).f1) t108 _ A21.out).mono ?_
           rintro e w29 ⟨rfl, hb⟩; refine ⟨_, rfl, ?_⟩; replace BK101 := am (blk_below (g := gb101) (o := .cells #[.int .i64 a0_0, .slice (some ad103) l0_1.length c0_1] 30 (0, 0)) (Q1 BK101) hb); replace BK104 := am (blk_below (g := gb104) (o := .cells #[.int .i64 ((rd_T71 l0_1 x3_1).f0), .int .i64 ((rd_T71 l0_1 x3_1).f1)] 71 (0, 0)) (Q1 BK104) hb); replace HB := am (below_step (Q0 HB) hb); (try clear hb); (try clear hb2); (try clear hk); (try clear hi); refine hK.out _ _ ⟨(blk_cell BK104.out 0).trans rfl, (blk_cell BK104.out 1).trans rfl, (blk_cell BK101.out 0).trans rfl, (blk_cell BK101.out 1).trans rfl, ((HB.out.cell (World.block_lt_of_cell? w _ hw107_0)).trans hw107_0), ((HB.out.cell (World.block_lt_of_cell? w _ hw107_1)).trans hw107_1)⟩ (fun hHeld => ?_); clear hK K; refine norm_ (a' := ?_) ?_ ?_
           rotate_left
           ·show Act.put _ (some 51) _ = _
            simp only [Act.put, List.setIfInBounds_toArray, List.set_cons_zero, List.set_cons_succ, i64_w, i32_w]
            rfl
           refine pq 35 52 rfl rfl HT_ ?_; refine pq 36 53 rfl rfl HT_ ?_; refine pq 37 54 rfl rfl HT_ ?_; refine done_ (done_of HT_.out (by kernel_rfl)) ?_
           go_upto_if 54 with (fail)
           have H := HU22.out; clear HU22
           by_cases c30 : t108 = true
           ·subst c30
            have H1 : (spec_l2Good.l0 k1 (wrap64 (x3_1 + 1)) a0_0 l0_1) = some r := by rw [if_pos rfl] at H; exact H
            clear H; have H := H1; clear H1; have H' := Aside0.mk H; clear H
            go_wp2
            go_roundg k1
            case measure => have := HK1.out; omega
            case rel => exact ⟨(wrap64 (x3_1 + 1)), Q8, H', ⟨Q39⟩, ⟨Q1 BK101⟩, ⟨Q0 HB⟩⟩
           ·replace c30 := Bool.eq_false_iff.mpr c30
            subst c30; have H1 : (some false) = some r := by rw [if_neg (show ¬ (false = true) by decide)] at H; exact H
            clear H; have H := H1; clear H1; obtain rfl := Option.some.inj H
            go_wp2
            go_ret
            exact ⟨by first | rfl | (simp [errW_none, errW_some] <;> rfl) | (simp only [← hji18]; first | rfl | (simp [errW_none, errW_some] <;> rfl)) | (simp [*, errW_none, errW_some] <;> rfl), Q0 HB⟩
          ·rw [if_neg c20] at H
           exact absurd H (by simp)
         ·rw [if_neg c19] at H
          exact absurd H (by simp)
        ·rw [if_neg c17] at H
         have c17b0 : decide (0 < x3_1) = false := decide_eq_false c17; clear c17; have HU31 := Aside0.mk H; clear H; have hcz32_0 : wr.cell? ⟨gb101, 0, none⟩ = some (.int .i64 a0_0) := (blk_cell BK101.out 0).trans rfl; have hcz32_1 : wr.cell? ⟨gb101, 1, none⟩ = some (.slice A0_1 l0_1.length c0_1) := (blk_cell BK101.out 1).trans rfl; have hfz32_0 := blk_frozen BK101.out 0; have hfz32_1 := blk_frozen BK101.out 1; have p103 : 0 ≤ (x3_1 : Int) := of_decide_eq_true Q4; have q103 : x3_1 < (l0_1.length : Int) := of_decide_eq_true Q4; obtain ⟨ad103, e103, hx103_0, hx103_1⟩ := at_T71 HR0_1.out x3_1 p103 q103
         cases e103
         replace hx103_0 := (HB.out.cell (World.block_lt_of_cell? w _ hx103_0)).trans hx103_0; replace hx103_1 := (HB.out.cell (World.block_lt_of_cell? w _ hx103_1)).trans hx103_1; replace p103 := eq_true p103; replace q103 := eq_true q103
         try go_wp2_with (first | ((with_reducible refine gate_dst (N := 4) rfl ?_); refine box_event ?hg (N := 4) ?hd (cs := #[.int .i64 0, .int .i64 0]) (t := 71) ?hr ?_; (case hd => rfl); (case hg => rfl); (case hr => first | (go_simp; done) | (go_simp; rfl)); intro gb104 hg w33 hbox hb; have BK104 := am (hbox); have GW104 := am ((Q26 : w.heap.size ≤ gb104)); have GE104 := am ((Q26 : w.heap.size ≤ gb104)); replace HB := am (below_step (Q0 HB) hb); have NB101_104 := am ((Q45 : gb101 ≠ gb104)); have NB104_101 := am ((Q46 : gb104 ≠ gb101)); replace BK101 := am (blk_below (g := gb101) (o := .cells #[.int .i64 a0_0, .slice (some ad103) l0_1.length c0_1] 30 (0, 0)) (Q1 BK101) hb); clear hb hbox hg; have hnb34 := NB104_101.out; have hnc34 := NB101_104.out; have hcz35_0 : w33.cell? ⟨gb104, 0, none⟩ = some (.int .i64 0) := (blk_cell BK104.out 0).trans rfl; have hcz35_1 : w33.cell? ⟨gb104, 1, none⟩ = some (.int .i64 0) := (blk_cell BK104.out 1).trans rfl; have hfz35_0 := blk_frozen BK104.out 0; have hfz35_1 := blk_frozen BK104.out 1))
         have n0_ : Aside0 (((w33.setCell ⟨gb104, 0, none⟩ (.int .i64 ((rd_T71 l0_1 x3_1).f0))).setCell ⟨gb104, 1, none⟩ (.int .i64 ((rd_T71 l0_1 x3_1).f1))).heap[gb101]? = some (.cells #[.int .i64 a0_0, .slice (some ad103) l0_1.length c0_1] 30 (0, 0))) := ⟨Q11 NB101_104 BK101⟩; have n1_ : Aside0 (((w33.setCell ⟨gb104, 0, none⟩ (.int .i64 ((rd_T71 l0_1 x3_1).f0))).setCell ⟨gb104, 1, none⟩ (.int .i64 ((rd_T71 l0_1 x3_1).f1))).heap[gb104]? = some (.cells #[.int .i64 ((rd_T71 l0_1 x3_1).f0), .int .i64 ((rd_T71 l0_1 x3_1).f1)] 71 (0, 0))) := ⟨Q28 BK104⟩; have n2_ : Aside0 (Below w.heap.size w ((w33.setCell ⟨gb104, 0, none⟩ (.int .i64 ((rd_T71 l0_1 x3_1).f0))).setCell ⟨gb104, 1, none⟩ (.int .i64 ((rd_T71 l0_1 x3_1).f1)))) := ⟨Q13 HB GE104⟩; (try clear BK101); (try clear BK104); (try clear HB); generalize ((w33.setCell ⟨gb104, 0, none⟩ (.int .i64 ((rd_T71 l0_1 x3_1).f0))).setCell ⟨gb104, 1, none⟩ (.int .i64 ((rd_T71 l0_1 x3_1).f1))) = w36 at n0_ n1_ n2_ ⊢; have BK101 := n0_; have BK104 := n1_; have HB := n2_; clear n0_ n1_ n2_; replace BK101 := am (blk_drew BK101.out); replace BK104 := am (blk_drew BK104.out); replace HB := am (below_drew1 HB.out); refine start_ (n := 38) (S := fun w' => w'.cell? ⟨gb104, 0, none⟩ = some (.int .i64 ((rd_T71 l0_1 x3_1).f0)) ∧ w'.cell? ⟨gb104, 1, none⟩ = some (.int .i64 ((rd_T71 l0_1 x3_1).f1)) ∧ w'.cell? ⟨gb101, 0, none⟩ = some (.int .i64 a0_0) ∧ w'.cell? ⟨gb101, 1, none⟩ = some (.slice (some ad103) l0_1.length c0_1)) (ds := []) #[false, false, false, false, false, false, false, false, false, false, false, false, false, false, false, false, false, false, false, false, false, false, false, false, false, false, false, false, false, false, false, false, false, false, false, false, false, false] (by kernel_rfl) rfl rfl ⟨(blk_cell BK104.out 0).trans rfl, (blk_cell BK104.out 1).trans rfl, (blk_cell BK101.out 0).trans rfl, (blk_cell BK101.out 1).trans rfl⟩ (fun hHeld => ?_); refine with_tabW spec_l2Good.tab5 spec_l2Good.bits5 (fun HT_ HW_ => ?_); generalize w36.drew = w37 at BK101 BK104 HB hHeld ⊢; refine pq 0 17 rfl rfl HT_ ?_; refine pq 2 19 rfl rfl HT_ ?_; refine tq4 1 18 rfl rfl HT_ HW_ hHeld ?_; refine tq4 3 20 rfl rfl HT_ HW_ hHeld ?_; refine pq 4 21 rfl rfl HT_ ?_; refine oq 5 22 rfl rfl HT_ (fun K hK => ?_); refine goes_ Try.func110 (by kernel_rfl) rfl #[.int .i64 ((rd_T71 l0_1 x3_1).f0), .int .i64 0, .int .i64 (wrap64 (a0_0 - 1))] (by rfl) rfl rfl Q3 ?_
         with_reducible refine (spec_l1In.calls ((rd_T71 l0_1 x3_1).f0) 0 (wrap64 (a0_0 - 1)) true _ A5.out).mono ?_
         rintro e w' ⟨rfl, ⟨nd, rfl⟩⟩; refine ⟨_, rfl, ?_⟩; refine hK.out _ _ ⟨(blk_cell BK104.out 0).trans rfl, (blk_cell BK104.out 1).trans rfl, (blk_cell BK101.out 0).trans rfl, (blk_cell BK101.out 1).trans rfl⟩ (fun hHeld => ?_); clear hK K; refine norm_ (a' := ?_) ?_ ?_
         rotate_left
         ·show Act.put _ (some 22) _ = _
          simp only [Act.put, List.setIfInBounds_toArray, List.set_cons_zero, List.set_cons_succ, i64_w, i32_w]
          rfl
         refine pq 6 23 rfl rfl HT_ ?_; refine pq 7 24 rfl rfl HT_ ?_; refine pq 8 25 rfl rfl HT_ ?_; refine pq 10 27 rfl rfl HT_ ?_; refine tq4 9 26 rfl rfl HT_ HW_ hHeld ?_; refine tq4 11 28 rfl rfl HT_ HW_ hHeld ?_; refine pq 12 29 rfl rfl HT_ ?_; refine oq 13 30 rfl rfl HT_ (fun K hK => ?_); refine goes_ Try.func110 (by kernel_rfl) rfl #[.int .i64 ((rd_T71 l0_1 x3_1).f1), .int .i64 0, .int .i64 (wrap64 (a0_0 - 1))] (by rfl) rfl rfl Q3 ?_
         with_reducible refine (spec_l1In.calls ((rd_T71 l0_1 x3_1).f1) 0 (wrap64 (a0_0 - 1)) true _ A7.out).mono ?_
         rintro e w' ⟨rfl, ⟨nd, rfl⟩⟩; refine ⟨_, rfl, ?_⟩; refine hK.out _ _ ⟨(blk_cell BK104.out 0).trans rfl, (blk_cell BK104.out 1).trans rfl, (blk_cell BK101.out 0).trans rfl, (blk_cell BK101.out 1).trans rfl⟩ (fun hHeld => ?_); clear hK K; refine norm_ (a' := ?_) ?_ ?_
         rotate_left
         ·show Act.put _ (some 30) _ = _
          simp only [Act.put, List.setIfInBounds_toArray, List.set_cons_zero, List.set_cons_succ, i64_w, i32_w]
          rfl
         refine pq 14 31 rfl rfl HT_ ?_; refine pq 15 32 rfl rfl HT_ ?_; refine pq 16 33 rfl rfl HT_ ?_; refine pq 17 34 rfl rfl HT_ ?_; refine pq 19 36 rfl rfl HT_ ?_; refine tq4 18 35 rfl rfl HT_ HW_ hHeld ?_; refine tq4 20 37 rfl rfl HT_ HW_ hHeld ?_; refine pq 21 38 rfl rfl HT_ ?_; refine pq 22 39 rfl rfl HT_ ?_; refine pq 23 40 rfl rfl HT_ ?_; refine pq 24 41 rfl rfl HT_ ?_; refine pq 25 42 rfl rfl HT_ ?_; refine pq 26 43 rfl rfl HT_ ?_; refine pu 27 44 rfl rfl HT_ ?_; refine pu 28 45 rfl rfl HT_ ?_; refine pu 29 46 rfl rfl HT_ ?_; refine pu 30 47 rfl rfl HT_ ?_; refine pu 31 48 rfl rfl HT_ ?_; refine pu 32 49 rfl rfl HT_ ?_; refine pu 33 50 rfl rfl HT_ ?_; refine pu 34 51 rfl rfl HT_ ?_; refine pu 35 52 rfl rfl HT_ ?_; refine pq 36 53 rfl rfl HT_ ?_; refine pq 37 54 rfl rfl HT_ ?_; refine done_ (done_of HT_.out (by kernel_rfl)) ?_
         go_upto_if 54 with (fail)
         have H := HU31.out; clear HU31; have H' := Aside0.mk H; clear H
         go_wp2
         go_roundg k1
         case measure => have := HK1.out; omega
         case rel => exact ⟨(wrap64 (x3_1 + 1)), Q8, H', ⟨Q39⟩, ⟨Q1 BK101⟩, ⟨Q0 HB⟩⟩
      ·replace c8 := Bool.eq_false_iff.mpr c8
       subst c8; have H1 : (some false) = some r := by rw [if_neg (show ¬ (false = true) by decide)] at H; exact H
       clear H; have H := H1; clear H1; have HU38 := Aside0.mk H; clear H; have hcz39_0 : wr.cell? ⟨gb101, 0, none⟩ = some (.int .i64 a0_0) := (blk_cell BK101.out 0).trans rfl; have hcz39_1 : wr.cell? ⟨gb101, 1, none⟩ = some (.slice A0_1 l0_1.length c0_1) := (blk_cell BK101.out 1).trans rfl; have hfz39_0 := blk_frozen BK101.out 0; have hfz39_1 := blk_frozen BK101.out 1; have p103 : 0 ≤ (x3_1 : Int) := of_decide_eq_true Q4; have q103 : x3_1 < (l0_1.length : Int) := of_decide_eq_true Q4; obtain ⟨ad103, e103, hx103_0, hx103_1⟩ := at_T71 HR0_1.out x3_1 p103 q103
       cases e103
       replace hx103_0 := (HB.out.cell (World.block_lt_of_cell? w _ hx103_0)).trans hx103_0; replace hx103_1 := (HB.out.cell (World.block_lt_of_cell? w _ hx103_1)).trans hx103_1; replace p103 := eq_true p103; replace q103 := eq_true q103
       try go_wp2_with (first | ((with_reducible refine gate_dst (N := 4) rfl ?_); refine box_event ?hg (N := 4) ?hd (cs := #[.int .i64 0, .int .i64 0]) (t := 71) ?hr ?_; (case hd => rfl); (case hg => rfl); (case hr => first | (go_simp; done) | (go_simp; rfl)); intro gb104 hg w40 hbox hb; have BK104 := am (hbox); have GW104 := am ((Q26 : w.heap.size ≤ gb104)); have GE104 := am ((Q26 : w.heap.size ≤ gb104)); replace HB := am (below_step (Q0 HB) hb); have NB101_104 := am ((Q45 : gb101 ≠ gb104)); have NB104_101 := am ((Q46 : gb104 ≠ gb101)); replace BK101 := am (blk_below (g := gb101) (o := .cells #[.int .i64 a0_0, .slice (some ad103) l0_1.length c0_1] 30 (0, 0)) (Q1 BK101) hb); clear hb hbox hg; have hnb41 := NB104_101.out; have hnc41 := NB101_104.out; have hcz42_0 : w40.cell? ⟨gb104, 0, none⟩ = some (.int .i64 0) := (blk_cell BK104.out 0).trans rfl; have hcz42_1 : w40.cell? ⟨gb104, 1, none⟩ = some (.int .i64 0) := (blk_cell BK104.out 1).trans rfl; have hfz42_0 := blk_frozen BK104.out 0; have hfz42_1 := blk_frozen BK104.out 1))
       have n0_ : Aside0 (((w40.setCell ⟨gb104, 0, none⟩ (.int .i64 ((rd_T71 l0_1 x3_1).f0))).setCell ⟨gb104, 1, none⟩ (.int .i64 ((rd_T71 l0_1 x3_1).f1))).heap[gb101]? = some (.cells #[.int .i64 a0_0, .slice (some ad103) l0_1.length c0_1] 30 (0, 0))) := ⟨Q11 NB101_104 BK101⟩; have n1_ : Aside0 (((w40.setCell ⟨gb104, 0, none⟩ (.int .i64 ((rd_T71 l0_1 x3_1).f0))).setCell ⟨gb104, 1, none⟩ (.int .i64 ((rd_T71 l0_1 x3_1).f1))).heap[gb104]? = some (.cells #[.int .i64 ((rd_T71 l0_1 x3_1).f0), .int .i64 ((rd_T71 l0_1 x3_1).f1)] 71 (0, 0))) := ⟨Q28 BK104⟩; have n2_ : Aside0 (Below w.heap.size w ((w40.setCell ⟨gb104, 0, none⟩ (.int .i64 ((rd_T71 l0_1 x3_1).f0))).setCell ⟨gb104, 1, none⟩ (.int .i64 ((rd_T71 l0_1 x3_1).f1)))) := ⟨Q13 HB GE104⟩; (try clear BK101); (try clear BK104); (try clear HB); generalize ((w40.setCell ⟨gb104, 0, none⟩ (.int .i64 ((rd_T71 l0_1 x3_1).f0))).setCell ⟨gb104, 1, none⟩ (.int .i64 ((rd_T71 l0_1 x3_1).f1))) = w43 at n0_ n1_ n2_ ⊢; have BK101 := n0_; have BK104 := n1_; have HB := n2_; clear n0_ n1_ n2_; replace BK101 := am (blk_drew BK101.out); replace BK104 := am (blk_drew BK104.out); replace HB := am (below_drew1 HB.out); refine start_ (n := 38) (S := fun w' => w'.cell? ⟨gb104, 0, none⟩ = some (.int .i64 ((rd_T71 l0_1 x3_1).f0)) ∧ w'.cell? ⟨gb104, 1, none⟩ = some (.int .i64 ((rd_T71 l0_1 x3_1).f1)) ∧ w'.cell? ⟨gb101, 0, none⟩ = some (.int .i64 a0_0) ∧ w'.cell? ⟨gb101, 1, none⟩ = some (.slice (some ad103) l0_1.length c0_1)) (ds := []) #[false, false, false, false, false, false, false, false, false, false, false, false, false, false, false, false, false, false, false, false, false, false, false, false, false, false, false, false, false, false, false, false, false, false, false, false, false, false] (by kernel_rfl) rfl rfl ⟨(blk_cell BK104.out 0).trans rfl, (blk_cell BK104.out 1).trans rfl, (blk_cell BK101.out 0).trans rfl, (blk_cell BK101.out 1).trans rfl⟩ (fun hHeld => ?_); refine with_tabW spec_l2Good.tab5 spec_l2Good.bits5 (fun HT_ HW_ => ?_); generalize w43.drew = w44 at BK101 BK104 HB hHeld ⊢; refine pq 0 17 rfl rfl HT_ ?_; refine pq 2 19 rfl rfl HT_ ?_; refine tq4 1 18 rfl rfl HT_ HW_ hHeld ?_; refine tq4 3 20 rfl rfl HT_ HW_ hHeld ?_; refine pq 4 21 rfl rfl HT_ ?_; refine oq 5 22 rfl rfl HT_ (fun K hK => ?_); refine goes_ Try.func110 (by kernel_rfl) rfl #[.int .i64 ((rd_T71 l0_1 x3_1).f0), .int .i64 0, .int .i64 (wrap64 (a0_0 - 1))] (by rfl) rfl rfl Q3 ?_
       with_reducible refine (spec_l1In.calls ((rd_T71 l0_1 x3_1).f0) 0 (wrap64 (a0_0 - 1)) true _ A5.out).mono ?_
       rintro e w' ⟨rfl, ⟨nd, rfl⟩⟩; refine ⟨_, rfl, ?_⟩; refine hK.out _ _ ⟨(blk_cell BK104.out 0).trans rfl, (blk_cell BK104.out 1).trans rfl, (blk_cell BK101.out 0).trans rfl, (blk_cell BK101.out 1).trans rfl⟩ (fun hHeld => ?_); clear hK K; refine norm_ (a' := ?_) ?_ ?_
       rotate_left
       ·show Act.put _ (some 22) _ = _
        simp only [Act.put, List.setIfInBounds_toArray, List.set_cons_zero, List.set_cons_succ, i64_w, i32_w]
        rfl
       refine pq 6 23 rfl rfl HT_ ?_; refine pq 7 24 rfl rfl HT_ ?_; refine pq 8 25 rfl rfl HT_ ?_; refine pq 10 27 rfl rfl HT_ ?_; refine tq4 9 26 rfl rfl HT_ HW_ hHeld ?_; refine tq4 11 28 rfl rfl HT_ HW_ hHeld ?_; refine pq 12 29 rfl rfl HT_ ?_; refine oq 13 30 rfl rfl HT_ (fun K hK => ?_); refine goes_ Try.func110 (by kernel_rfl) rfl #[.int .i64 ((rd_T71 l0_1 x3_1).f1), .int .i64 0, .int .i64 (wrap64 (a0_0 - 1))] (by rfl) rfl rfl Q3 ?_
       with_reducible refine (spec_l1In.calls ((rd_T71 l0_1 x3_1).f1) 0 (wrap64 (a0_0 - 1)) false _ A7.out).mono ?_
       rintro e w' ⟨rfl, ⟨nd, rfl⟩⟩; refine ⟨_, rfl, ?_⟩; refine hK.out _ _ ⟨(blk_cell BK104.out 0).trans rfl, (blk_cell BK104.out 1).trans rfl, (blk_cell BK101.out 0).trans rfl, (blk_cell BK101.out 1).trans rfl⟩ (fun hHeld => ?_); clear hK K; refine norm_ (a' := ?_) ?_ ?_
       rotate_left
       ·show Act.put _ (some 30) _ = _
        simp only [Act.put, List.setIfInBounds_toArray, List.set_cons_zero, List.set_cons_succ, i64_w, i32_w]
        rfl
       refine pq 14 31 rfl rfl HT_ ?_; refine pq 15 32 rfl rfl HT_ ?_; refine pq 16 33 rfl rfl HT_ ?_; refine pu 17 34 rfl rfl HT_ ?_; refine pu 18 35 rfl rfl HT_ ?_; refine pu 19 36 rfl rfl HT_ ?_; refine pu 20 37 rfl rfl HT_ ?_; refine pu 21 38 rfl rfl HT_ ?_; refine pq 22 39 rfl rfl HT_ ?_; refine pq 23 40 rfl rfl HT_ ?_; refine pu 24 41 rfl rfl HT_ ?_; refine pu 25 42 rfl rfl HT_ ?_; refine pu 26 43 rfl rfl HT_ ?_; refine pu 27 44 rfl rfl HT_ ?_; refine pu 28 45 rfl rfl HT_ ?_; refine pu 29 46 rfl rfl HT_ ?_; refine pu 30 47 rfl rfl HT_ ?_; refine pu 31 48 rfl rfl HT_ ?_; refine pu 32 49 rfl rfl HT_ ?_; refine pu 33 50 rfl rfl HT_ ?_; refine pu 34 51 rfl rfl HT_ ?_; refine pu 35 52 rfl rfl HT_ ?_; refine pu 36 53 rfl rfl HT_ ?_; refine pq 37 54 rfl rfl HT_ ?_; refine done_ (done_of HT_.out (by kernel_rfl)) ?_
       go_upto_if 54 with (fail)
       have H := HU38.out; clear HU38; obtain rfl := Option.some.inj H
       go_wp2
       go_ret
       exact ⟨Q9, Q0 HB⟩
     ·replace c6 := Bool.eq_false_iff.mpr c6
      subst c6; have H1 : (some false) = some r := by rw [if_neg (show ¬ (false = true) by decide)] at H; exact H
      clear H; have H := H1; clear H1; have HU45 := Aside0.mk H; clear H; have hcz46_0 : wr.cell? ⟨gb101, 0, none⟩ = some (.int .i64 a0_0) := (blk_cell BK101.out 0).trans rfl; have hcz46_1 : wr.cell? ⟨gb101, 1, none⟩ = some (.slice A0_1 l0_1.length c0_1) := (blk_cell BK101.out 1).trans rfl; have hfz46_0 := blk_frozen BK101.out 0; have hfz46_1 := blk_frozen BK101.out 1; have p103 : 0 ≤ (x3_1 : Int) := of_decide_eq_true Q4; have q103 : x3_1 < (l0_1.length : Int) := of_decide_eq_true Q4; obtain ⟨ad103, e103, hx103_0, hx103_1⟩ := at_T71 HR0_1.out x3_1 p103 q103
      cases e103
      replace hx103_0 := (HB.out.cell (World.block_lt_of_cell? w _ hx103_0)).trans hx103_0; replace hx103_1 := (HB.out.cell (World.block_lt_of_cell? w _ hx103_1)).trans hx103_1; replace p103 := eq_true p103; replace q103 := eq_true q103
      try go_wp2_with (first | ((with_reducible refine gate_dst (N := 4) rfl ?_); refine box_event ?hg (N := 4) ?hd (cs := #[.int .i64 0, .int .i64 0]) (t := 71) ?hr ?_; (case hd => rfl); (case hg => rfl); (case hr => first | (go_simp; done) | (go_simp; rfl)); intro gb104 hg w47 hbox hb; have BK104 := am (hbox); have GW104 := am ((Q26 : w.heap.size ≤ gb104)); have GE104 := am ((Q26 : w.heap.size ≤ gb104)); replace HB := am (below_step (Q0 HB) hb); have NB101_104 := am ((Q45 : gb101 ≠ gb104)); have NB104_101 := am ((Q46 : gb104 ≠ gb101)); replace BK101 := am (blk_below (g := gb101) (o := .cells #[.int .i64 a0_0, .slice (some ad103) l0_1.length c0_1] 30 (0, 0)) (Q1 BK101) hb); clear hb hbox hg; have hnb48 := NB104_101.out; have hnc48 := NB101_104.out; have hcz49_0 : w47.cell? ⟨gb104, 0, none⟩ = some (.int .i64 0) := (blk_cell BK104.out 0).trans rfl; have hcz49_1 : w47.cell? ⟨gb104, 1, none⟩ = some (.int .i64 0) := (blk_cell BK104.out 1).trans rfl; have hfz49_0 := blk_frozen BK104.out 0; have hfz49_1 := blk_frozen BK104.out 1))
      have n0_ : Aside0 (((w47.setCell ⟨gb104, 0, none⟩ (.int .i64 ((rd_T71 l0_1 x3_1).f0))).setCell ⟨gb104, 1, none⟩ (.int .i64 ((rd_T71 l0_1 x3_1).f1))).heap[gb101]? = some (.cells #[.int .i64 a0_0, .slice (some ad103) l0_1.length c0_1] 30 (0, 0))) := ⟨Q11 NB101_104 BK101⟩; have n1_ : Aside0 (((w47.setCell ⟨gb104, 0, none⟩ (.int .i64 ((rd_T71 l0_1 x3_1).f0))).setCell ⟨gb104, 1, none⟩ (.int .i64 ((rd_T71 l0_1 x3_1).f1))).heap[gb104]? = some (.cells #[.int .i64 ((rd_T71 l0_1 x3_1).f0), .int .i64 ((rd_T71 l0_1 x3_1).f1)] 71 (0, 0))) := ⟨Q28 BK104⟩; have n2_ : Aside0 (Below w.heap.size w ((w47.setCell ⟨gb104, 0, none⟩ (.int .i64 ((rd_T71 l0_1 x3_1).f0))).setCell ⟨gb104, 1, none⟩ (.int .i64 ((rd_T71 l0_1 x3_1).f1)))) := ⟨Q13 HB GE104⟩; (try clear BK101); (try clear BK104); (try clear HB); generalize ((w47.setCell ⟨gb104, 0, none⟩ (.int .i64 ((rd_T71 l0_1 x3_1).f0))).setCell ⟨gb104, 1, none⟩ (.int .i64 ((rd_T71 l0_1 x3_1).f1))) = w50 at n0_ n1_ n2_ ⊢; have BK101 := n0_; have BK104 := n1_; have HB := n2_; clear n0_ n1_ n2_; replace BK101 := am (blk_drew BK101.out); replace BK104 := am (blk_drew BK104.out); replace HB := am (below_drew1 HB.out); refine start_ (n := 38) (S := fun w' => w'.cell? ⟨gb104, 0, none⟩ = some (.int .i64 ((rd_T71 l0_1 x3_1).f0)) ∧ w'.cell? ⟨gb104, 1, none⟩ = some (.int .i64 ((rd_T71 l0_1 x3_1).f1)) ∧ w'.cell? ⟨gb101, 0, none⟩ = some (.int .i64 a0_0) ∧ w'.cell? ⟨gb101, 1, none⟩ = some (.slice (some ad103) l0_1.length c0_1)) (ds := []) #[false, false, false, false, false, false, false, false, false, false, false, false, false, false, false, false, false, false, false, false, false, false, false, false, false, false, false, false, false, false, false, false, false, false, false, false, false, false] (by kernel_rfl) rfl rfl ⟨(blk_cell BK104.out 0).trans rfl, (blk_cell BK104.out 1).trans rfl, (blk_cell BK101.out 0).trans rfl, (blk_cell BK101.out 1).trans rfl⟩ (fun hHeld => ?_); refine with_tabW spec_l2Good.tab5 spec_l2Good.bits5 (fun HT_ HW_ => ?_); generalize w50.drew = w51 at BK101 BK104 HB hHeld ⊢; refine pq 0 17 rfl rfl HT_ ?_; refine pq 2 19 rfl rfl HT_ ?_; refine tq4 1 18 rfl rfl HT_ HW_ hHeld ?_; refine tq4 3 20 rfl rfl HT_ HW_ hHeld ?_; refine pq 4 21 rfl rfl HT_ ?_; refine oq 5 22 rfl rfl HT_ (fun K hK => ?_); refine goes_ Try.func110 (by kernel_rfl) rfl #[.int .i64 ((rd_T71 l0_1 x3_1).f0), .int .i64 0, .int .i64 (wrap64 (a0_0 - 1))] (by rfl) rfl rfl Q3 ?_
      with_reducible refine (spec_l1In.calls ((rd_T71 l0_1 x3_1).f0) 0 (wrap64 (a0_0 - 1)) false _ A5.out).mono ?_
      rintro e w' ⟨rfl, ⟨nd, rfl⟩⟩; refine ⟨_, rfl, ?_⟩; refine hK.out _ _ ⟨(blk_cell BK104.out 0).trans rfl, (blk_cell BK104.out 1).trans rfl, (blk_cell BK101.out 0).trans rfl, (blk_cell BK101.out 1).trans rfl⟩ (fun hHeld => ?_); clear hK K; refine norm_ (a' := ?_) ?_ ?_
      rotate_left
      ·show Act.put _ (some 22) _ = _
       simp only [Act.put, List.setIfInBounds_toArray, List.set_cons_zero, List.set_cons_succ, i64_w, i32_w]
       rfl
      refine pq 6 23 rfl rfl HT_ ?_; refine pq 7 24 rfl rfl HT_ ?_; refine pu 8 25 rfl rfl HT_ ?_; refine pu 9 26 rfl rfl HT_ ?_; refine pu 10 27 rfl rfl HT_ ?_; refine pu 11 28 rfl rfl HT_ ?_; refine pu 12 29 rfl rfl HT_ ?_; refine pu 13 30 rfl rfl HT_ ?_; refine pu 14 31 rfl rfl HT_ ?_; refine pq 15 32 rfl rfl HT_ ?_; refine pq 16 33 rfl rfl HT_ ?_; refine pu 17 34 rfl rfl HT_ ?_; refine pu 18 35 rfl rfl HT_ ?_; refine pu 19 36 rfl rfl HT_ ?_; refine pu 20 37 rfl rfl HT_ ?_; refine pu 21 38 rfl rfl HT_ ?_; refine pq 22 39 rfl rfl HT_ ?_; refine pq 23 40 rfl rfl HT_ ?_; refine pu 24 41 rfl rfl HT_ ?_; refine pu 25 42 rfl rfl HT_ ?_; refine pu 26 43 rfl rfl HT_ ?_; refine pu 27 44 rfl rfl HT_ ?_; refine pu 28 45 rfl rfl HT_ ?_; refine pu 29 46 rfl rfl HT_ ?_; refine pu 30 47 rfl rfl HT_ ?_; refine pu 31 48 rfl rfl HT_ ?_; refine pu 32 49 rfl rfl HT_ ?_; refine pu 33 50 rfl rfl HT_ ?_; refine pu 34 51 rfl rfl HT_ ?_; refine pu 35 52 rfl rfl HT_ ?_; refine pu 36 53 rfl rfl HT_ ?_; refine pq 37 54 rfl rfl HT_ ?_; refine done_ (done_of HT_.out (by kernel_rfl)) ?_
      go_upto_if 54 with (fail)
      have H := HU45.out; clear HU45; obtain rfl := Option.some.inj H
      go_wp2
      go_ret
      exact ⟨Q9, Q0 HB⟩
    ·rw [if_neg c4] at H
     exact absurd H (by simp)
   ·rw [if_neg c3] at H
    have c3b0 := decide_eq_false c3; clear c3; replace H := (ob H); obtain ⟨t102, A520, H⟩ := H; (try dsimp only at H); have A52 := Aside0.mk A520; clear A520; obtain rfl := Option.some.inj H; have hcz53_0 : wr.cell? ⟨gb101, 0, none⟩ = some (.int .i64 a0_0) := (blk_cell BK101.out 0).trans rfl; have hcz53_1 : wr.cell? ⟨gb101, 1, none⟩ = some (.slice A0_1 l0_1.length c0_1) := (blk_cell BK101.out 1).trans rfl; have hfz53_0 := blk_frozen BK101.out 0; have hfz53_1 := blk_frozen BK101.out 1
    go_wp2_with (first | ((with_reducible refine gate_callee (f := 110) rfl ?_); refine goesL_ (some 57) rfl rfl Try.func110 (by kernel_rfl) rfl #[.int .i64 a0_0, .int .i64 0, .int .i64 8] rfl Q3 ?_; (with_reducible refine (spec_l1In.calls a0_0 0 8 t102 _ A52.out).mono ?_); rintro e w' ⟨rfl, ⟨nd, rfl⟩⟩; refine ⟨_, rfl, ?_⟩))
    go_ret
    exact ⟨Q9, Q0 HB⟩
/-! ### spec_l4Field: function 96 -/
def spec_l4Field.f (k : Nat) (a0_0 : Int) (l0_1 : List (S71)) (a1 : Int) : Option (Bool) := (spec_l2Good.f k a0_0 l0_1).bind fun t102 => (if t102 = true then (if a0_0 > 0 then ((spec_l1In.f a1 1 3).bind fun t103 => (some t103)) else (some false)) else (some false))
theorem spec_l4Field.mono : ∀ a0 a1 a2 k, LeO (spec_l4Field.f k a0 a1 a2) (spec_l4Field.f (k + 1) a0 a1 a2) := by
 intro a0 a1 a2 k
 unfold spec_l4Field.f
 repeat' first | (with_reducible first | exact spec_l2Good.mono _ _ _ | exact LeO.refl _ | exact LeO.none _ | refine LeO.ite ?_ ?_ | refine LeO.bind ?_ (fun _ => ?_))
set_option maxHeartbeats 8000000 in
set_option maxRecDepth 100000 in
theorem spec_l4Field.calls (k : Nat) (a0_0 : Int) (A0_1 : Option Addr) (c0_1 : Nat) (l0_1 : List (S71)) (a1 : Int) (r : Bool) (w : World) (hr0_1 : Kd.C k71 w A0_1 l0_1.length l0_1) (hc0_1 : l0_1.length ≤ c0_1) (h : spec_l4Field.f k a0_0 l0_1 a1 = some r) :
  Calls Try.prog 96 #[.agg #[.int .i64 a0_0, .slice A0_1 l0_1.length c0_1], .int .i64 a1] w fun e w' => e = .returned (.bool r) ∧ Below w.heap.size w w' := by
 have hu30 := Try.underlying30
 have HR0_1 := Aside0.mk hr0_1
 have HC0_1 := Aside0.mk hc0_1
 clear hr0_1 hc0_1
 have HB := am (Below.refl w.heap.size w)
 have H : ((spec_l2Good.f k a0_0 l0_1).bind fun t102 => (if t102 = true then (if a0_0 > 0 then ((spec_l1In.f a1 1 3).bind fun t103 => (some t103)) else (some false)) else (some false))) = some r := h
 clear h
 have HU3 := Aside0.mk H
 clear H
 go_enter Try.func96, Try.ntmps96
 go_upto_region 1 with (first | ((with_reducible refine gate_dst (N := 2) rfl ?_); refine box_event ?hg (N := 2) ?hd (cs := #[.int .i64 a0_0, .slice A0_1 l0_1.length c0_1]) (t := 30) ?hr ?_; (case hd => rfl); (case hg => rfl); (case hr => first | (go_simp; done) | (go_simp; rfl)); intro gb101 hg w4 hbox hb; have BK101 := am (hbox); have GW101 := am ((Q26 : w.heap.size ≤ gb101)); have GE101 := am ((Q26 : w.heap.size ≤ gb101)); replace HB := am (below_step (Q0 HB) hb); clear hb hbox hg))
 (try simp only [Act.put, List.setIfInBounds_toArray, List.set_cons_zero, List.set_cons_succ])
 have H := HU3.out
 clear HU3
 replace H := (ob H)
 obtain ⟨t102, A50, H⟩ := H
 (try dsimp only at H)
 have A5 := Aside0.mk A50
 clear A50
 by_cases c6 : t102 = true
 ·subst c6
  have H1 : (if a0_0 > 0 then ((spec_l1In.f a1 1 3).bind fun t103 => (some t103)) else (some false)) = some r := by rw [if_pos rfl] at H; exact H
  clear H; have H := H1; clear H1
  by_cases c7 : a0_0 > 0
  ·rw [if_pos c7] at H
   have c7b0 : decide (0 < a0_0) = true := decide_eq_true c7; clear c7; replace H := (ob H); obtain ⟨t103, A80, H⟩ := H; (try dsimp only at H); have A8 := Aside0.mk A80; clear A80; obtain rfl := Option.some.inj H; have hcz9_0 : w4.cell? ⟨gb101, 0, none⟩ = some (.int .i64 a0_0) := (blk_cell BK101.out 0).trans rfl; have hcz9_1 : w4.cell? ⟨gb101, 1, none⟩ = some (.slice A0_1 l0_1.length c0_1) := (blk_cell BK101.out 1).trans rfl; have hfz9_0 := blk_frozen BK101.out 0; have hfz9_1 := blk_frozen BK101.out 1
   go_wp2_with (first | ((with_reducible refine gate_callee (f := 120) rfl ?_); refine goesL_ (some 6) rfl rfl Try.func120 (by kernel_rfl) rfl #[.agg #[.int .i64 a0_0, .slice A0_1 l0_1.length c0_1]] rfl Q3 ?_; (with_reducible refine (spec_l2Good.calls k a0_0 _ _ l0_1 true _ ?side1 ?side2 A5.out).mono ?_); (case side1 => exact (Q6 HR0_1 HB)); (case side2 => exact HC0_1.out); rintro e w10 ⟨rfl, hb⟩; refine ⟨_, rfl, ?_⟩; replace BK101 := am (blk_below (g := gb101) (o := .cells #[.int .i64 a0_0, .slice A0_1 l0_1.length c0_1] 30 (0, 0)) (Q1 BK101) hb); replace HB := am (below_step (Q0 HB) hb); (try clear hb); (try clear hb2); (try clear hk); (try clear hi); have hcz11_0 : w10.cell? ⟨gb101, 0, none⟩ = some (.int .i64 a0_0) := (blk_cell BK101.out 0).trans rfl; have hcz11_1 : w10.cell? ⟨gb101, 1, none⟩ = some (.slice A0_1 l0_1.length c0_1) := (blk_cell BK101.out 1).trans rfl; have hfz11_0 := blk_frozen BK101.out 0; have hfz11_1 := blk_frozen BK101.out 1) | (go_at_call 110; (with_reducible refine (spec_l1In.calls a1 1 3 t103 _ A8.out).mono ?_); rintro e w' ⟨rfl, ⟨nd, rfl⟩⟩))
   go_ret
   exact ⟨Q9, Q0 HB⟩
  ·rw [if_neg c7] at H
   have c7b0 : decide (0 < a0_0) = false := decide_eq_false c7; clear c7; obtain rfl := Option.some.inj H; have hcz12_0 : w4.cell? ⟨gb101, 0, none⟩ = some (.int .i64 a0_0) := (blk_cell BK101.out 0).trans rfl; have hcz12_1 : w4.cell? ⟨gb101, 1, none⟩ = some (.slice A0_1 l0_1.length c0_1) := (blk_cell BK101.out 1).trans rfl; have hfz12_0 := blk_frozen BK101.out 0; have hfz12_1 := blk_frozen BK101.out 1
   go_wp2_with (first | ((with_reducible refine gate_callee (f := 120) rfl ?_); refine goesL_ (some 6) rfl rfl Try.func120 (by kernel_rfl) rfl #[.agg #[.int .i64 a0_0, .slice A0_1 l0_1.length c0_1]] rfl Q3 ?_; (with_reducible refine (spec_l2Good.calls k a0_0 _ _ l0_1 true _ ?side1 ?side2 A5.out).mono ?_); (case side1 => exact (Q6 HR0_1 HB)); (case side2 => exact HC0_1.out); rintro e w13 ⟨rfl, hb⟩; refine ⟨_, rfl, ?_⟩; replace BK101 := am (blk_below (g := gb101) (o := .cells #[.int .i64 a0_0, .slice A0_1 l0_1.length c0_1] 30 (0, 0)) (Q1 BK101) hb); replace HB := am (below_step (Q0 HB) hb); (try clear hb); (try clear hb2); (try clear hk); (try clear hi); have hcz14_0 : w13.cell? ⟨gb101, 0, none⟩ = some (.int .i64 a0_0) := (blk_cell BK101.out 0).trans rfl; have hcz14_1 : w13.cell? ⟨gb101, 1, none⟩ = some (.slice A0_1 l0_1.length c0_1) := (blk_cell BK101.out 1).trans rfl; have hfz14_0 := blk_frozen BK101.out 0; have hfz14_1 := blk_frozen BK101.out 1))
   go_ret
   exact ⟨Q9, Q0 HB⟩
 ·replace c6 := Bool.eq_false_iff.mpr c6
  subst c6; have H1 : (some false) = some r := by rw [if_neg (show ¬ (false = true) by decide)] at H; exact H
  clear H; have H := H1; clear H1; obtain rfl := Option.some.inj H; have hcz15_0 : w4.cell? ⟨gb101, 0, none⟩ = some (.int .i64 a0_0) := (blk_cell BK101.out 0).trans rfl; have hcz15_1 : w4.cell? ⟨gb101, 1, none⟩ = some (.slice A0_1 l0_1.length c0_1) := (blk_cell BK101.out 1).trans rfl; have hfz15_0 := blk_frozen BK101.out 0; have hfz15_1 := blk_frozen BK101.out 1
  go_wp2_with (first | ((with_reducible refine gate_callee (f := 120) rfl ?_); refine goesL_ (some 6) rfl rfl Try.func120 (by kernel_rfl) rfl #[.agg #[.int .i64 a0_0, .slice A0_1 l0_1.length c0_1]] rfl Q3 ?_; (with_reducible refine (spec_l2Good.calls k a0_0 _ _ l0_1 false _ ?side1 ?side2 A5.out).mono ?_); (case side1 => exact (Q6 HR0_1 HB)); (case side2 => exact HC0_1.out); rintro e w16 ⟨rfl, hb⟩; refine ⟨_, rfl, ?_⟩; replace BK101 := am (blk_below (g := gb101) (o := .cells #[.int .i64 a0_0, .slice A0_1 l0_1.length c0_1] 30 (0, 0)) (Q1 BK101) hb); replace HB := am (below_step (Q0 HB) hb); (try clear hb); (try clear hb2); (try clear hk); (try clear hi)))
  go_ret
  exact ⟨Q9, Q0 HB⟩
/-! ### spec_l1Put: function 207 -/
def spec_l1Put.l0 : Nat → List Int → Int → Int → Option (List Int)
 | 0, _, _, _ => none
 | k + 1, x0, x1, x5 => if x5 < (x0.length : Int) then (if 0 ≤ x5 then (if (rd x0 x5) < x1 then (spec_l1Put.l0 k x0 x1 (wrap64 (x5 + 1))) else (if (rd x0 x5) = x1 then (none) else ((some (([] : List Int) : List Int)).bind fun y103 => (if x5 ≤ (x0.length : Int) then (if y103.length + (x0.take (x5 : Int).toNat).length < 17592186044416 then ((some (y103 ++ (x0.take (x5 : Int).toNat) : List Int)).bind fun y107 => ((some (([x1] : List Int) : List Int)).bind fun y110 => (if y107.length + y110.length < 17592186044416 then ((some (y107 ++ y110 : List Int)).bind fun y113 => (if y113.length + (x0.drop (x5 : Int).toNat).length < 17592186044416 then (some (y113 ++ (x0.drop (x5 : Int).toNat))) else (none))) else (none)))) else (none)) else (none))))) else (none)) else ((some (([] : List Int) : List Int)).bind fun y120 => (if 0 ≤ x5 then (if x5 ≤ (x0.length : Int) then (if y120.length + (x0.take (x5 : Int).toNat).length < 17592186044416 then ((some (y120 ++ (x0.take (x5 : Int).toNat) : List Int)).bind fun y124 => ((some (([x1] : List Int) : List Int)).bind fun y127 => (if y124.length + y127.length < 17592186044416 then ((some (y124 ++ y127 : List Int)).bind fun y130 => (if y130.length + (x0.drop (x5 : Int).toNat).length < 17592186044416 then (some (y130 ++ (x0.drop (x5 : Int).toNat))) else (none))) else (none)))) else (none)) else (none)) else (none)))
def spec_l1Put.f (k : Nat) (l0 : List Int) (a1 : Int) : Option (List Int) := spec_l1Put.l0 k l0 a1 0
theorem spec_l1Put.mono_l : ∀ k, (∀ y0 y1 y2, LeO (spec_l1Put.l0 k y0 y1 y2) (spec_l1Put.l0 (k + 1) y0 y1 y2))
 | 0 => fun _ _ _ r h => by simp [spec_l1Put.l0] at h
 | k + 1 => by
  have ih0 := spec_l1Put.mono_l k
  all_goals
   intros
   first | unfold spec_l1Put.l0
   repeat' first | (with_reducible first | exact ih0 _ _ _ | exact LeO.refl _ | exact LeO.none _ | refine LeO.ite ?_ ?_ | refine LeO.bind ?_ (fun _ => ?_))
theorem spec_l1Put.mono : ∀ a0 a1 k, LeO (spec_l1Put.f k a0 a1) (spec_l1Put.f (k + 1) a0 a1) := by
 intro a0 a1 k
 have ih0 := spec_l1Put.mono_l k
 unfold spec_l1Put.f
 repeat' first | (with_reducible first | exact ih0 _ _ _ | exact LeO.refl _ | exact LeO.none _ | refine LeO.ite ?_ ?_ | refine LeO.bind ?_ (fun _ => ?_))
def spec_l1Put.T6 : Bool × List (List Nat × List Nat) := (true, [([], []), ([], []), ([], []), ([1, 2], [1, 2]), ([0, 3], [0, 3]), ([], []), ([5], [5]), ([4, 6, 4], [4, 6]), ([], []), ([], []), ([8, 9], [8, 9]), ([7, 10, 7], [7, 10]), ([11, 11, 0, 1, 2, 3, 4, 5, 6, 7, 8, 9, 10, 11], [11])])
def spec_l1Put.B6 : List Nat := [0, 0, 0, 6, 15, 0, 32, 127, 0, 0, 768, 2047, 4095]
theorem spec_l1Put.tab6 : rtab .any (opsOf Try.f207 6) = spec_l1Put.T6 := by kernel_rfl
theorem spec_l1Put.bits6 : waitsOk spec_l1Put.T6.2 spec_l1Put.B6 = true := by kernel_rfl
set_option maxHeartbeats 8000000 in
set_option maxRecDepth 100000 in
theorem spec_l1Put.calls (k : Nat) (A0 : Option Addr) (c0 : Nat) (l0 : List Int) (a1 : Int) (r : List Int) (w : World) (hr0 : Kd.C (Kd.int .i64) w A0 l0.length l0) (hc0 : l0.length ≤ c0) (h : spec_l1Put.f k l0 a1 = some r) :
  Calls Try.prog 207 #[.slice A0 l0.length c0, .int .i64 a1] w fun e w' => ∃ v0_ : Value, e = .returned (v0_) ∧ Kd.R (Kd.int .i64) 3 w' w.heap.size (fun _ => True) v0_ r ∧ Below w.heap.size w w' := by
 have HR0 := Aside0.mk hr0
 have HC0 := Aside0.mk hc0
 clear hr0 hc0
 have HB := am (Below.refl w.heap.size w)
 have H : (spec_l1Put.l0 k l0 a1 0) = some r := h
 clear h
 have H' := Aside0.mk H
 clear H
 go_enter Try.func207, Try.ntmps207
 go_wp2
 go_loopg [5] k (fun kq v5 w' => ∃ (x5_1 : Int), v5 = .int .i64 x5_1 ∧ Aside0 (spec_l1Put.l0 kq l0 a1 x5_1 = some r) ∧ Aside0 (kq ≤ k) ∧ Aside0 (Below w.heap.size w w'))
 case atStart => exact ⟨(0), Q8, H', ⟨Nat.le_refl _⟩, ⟨Q0 HB⟩⟩
 case round =>
  clear H'
  try clear c2
  try clear p2
  obtain ⟨x5_1, rfl, HA, HK1, HB⟩ := hrel
  cases gk with
  | zero => exact absurd HA.out (by simp [spec_l1Put.l0])
  | succ k1 =>
   have H := HA.out; clear HA
   simp only [spec_l1Put.l0] at H
   by_cases c3 : x5_1 < (l0.length : Int)
   ·rw [if_pos c3] at H
    have c3b0 := decide_eq_true c3; clear c3
    by_cases c4 : 0 ≤ x5_1
    ·rw [if_pos c4] at H
     have c4b0 := decide_eq_true c4; clear c4; have HU5 := Aside0.mk H; clear H; have p101 : 0 ≤ (x5_1 : Int) := of_decide_eq_true Q4; have q101 : x5_1 < (l0.length : Int) := of_decide_eq_true Q4; obtain ⟨ad101, e101, hx101_0⟩ := Kd.at_int HR0.out x5_1 p101 q101
     cases e101
     replace hx101_0 := (HB.out.cell (World.block_lt_of_cell? w _ hx101_0)).trans hx101_0; replace p101 := eq_true p101; replace q101 := eq_true q101
     go_upto_if 17 with (fail)
     have H := HU5.out; clear HU5
     by_cases c6 : (rd l0 x5_1) < a1
     ·rw [if_pos c6] at H
      have c6b0 := decide_eq_true c6; clear c6
      (first | rw [c6b0] | (simp only [i64_w, i32_w]; rw [c6b0]) | skip)
      have H' := Aside0.mk H; clear H
      go_wp2
      go_roundg k1
      case measure => have := HK1.out; omega
      case rel => exact ⟨(wrap64 (x5_1 + 1)), Q8, H', ⟨Q39⟩, ⟨Q0 HB⟩⟩
     ·rw [if_neg c6] at H
      have c6b0 := decide_eq_false c6; clear c6
      (first | rw [c6b0] | (simp only [i64_w, i32_w]; rw [c6b0]) | skip)
      have HU7 := Aside0.mk H; clear H; have p102 : 0 ≤ (x5_1 : Int) := of_decide_eq_true Q4; have q102 : x5_1 < (l0.length : Int) := of_decide_eq_true Q4; obtain ⟨ad102, e102, hx102_0⟩ := Kd.at_int HR0.out x5_1 p102 q102; obtain rfl : ad101 = ad102 := (by injection e102); replace hx102_0 := (HB.out.cell (World.block_lt_of_cell? w _ hx102_0)).trans hx102_0; replace p102 := eq_true p102; replace q102 := eq_true q102
      go_upto_if 31 with (fail)
      have H := HU7.out; clear HU7
      by_cases c8 : (rd l0 x5_1) = a1
      ·rw [if_pos c8] at H
       exact absurd H (by simp)
      ·rw [if_neg c8] at H
       have c8b0 := beq_eq_false_iff_ne.mpr c8; have c8b1 := bne_iff_ne.mpr c8
       (first | rw [c8b0] | (simp only [i64_w, i32_w]; rw [c8b0]) | rw [c8b1] | skip)
       obtain ⟨y103, hy103⟩ : ∃ y_ : List Int, y_ = (([] : List Int)) := ⟨_, rfl⟩; replace H : (if x5_1 ≤ (l0.length : Int) then (if y103.length + (l0.take (x5_1 : Int).toNat).length < 17592186044416 then ((some (y103 ++ (l0.take (x5_1 : Int).toNat) : List Int)).bind fun y107 => ((some (([a1] : List Int) : List Int)).bind fun y110 => (if y107.length + y110.length < 17592186044416 then ((some (y107 ++ y110 : List Int)).bind fun y113 => (if y113.length + (l0.drop (x5_1 : Int).toNat).length < 17592186044416 then (some (y113 ++ (l0.drop (x5_1 : Int).toNat))) else (none))) else (none)))) else (none)) else (none)) = some r := RH hy103 H; have Ny103 := Aside0.mk hy103; clear hy103; have c9b0 := eq_true (of_decide_eq_true Q4 : 0 ≤ x5_1)
       by_cases c10 : x5_1 ≤ (l0.length : Int)
       ·rw [if_pos c10] at H
        have c10b0 := eq_true c10; have c10b1 := decide_eq_true c10; clear c10
        by_cases c11 : y103.length + (l0.take (x5_1 : Int).toNat).length < 17592186044416
        ·rw [if_pos c11] at H
         have LMc11 := Aside0.mk c11; clear c11; obtain ⟨y107, hy107⟩ : ∃ y_ : List Int, y_ = (y103 ++ (l0.take (x5_1 : Int).toNat)) := ⟨_, rfl⟩; replace H : ((some (([a1] : List Int) : List Int)).bind fun y110 => (if y107.length + y110.length < 17592186044416 then ((some (y107 ++ y110 : List Int)).bind fun y113 => (if y113.length + (l0.drop (x5_1 : Int).toNat).length < 17592186044416 then (some (y113 ++ (l0.drop (x5_1 : Int).toNat))) else (none))) else (none))) = some r := RH hy107 H; have Ny107 := Aside0.mk hy107; clear hy107; obtain ⟨y110, hy110⟩ : ∃ y_ : List Int, y_ = (([a1] : List Int)) := ⟨_, rfl⟩; replace H : (if y107.length + y110.length < 17592186044416 then ((some (y107 ++ y110 : List Int)).bind fun y113 => (if y113.length + (l0.drop (x5_1 : Int).toNat).length < 17592186044416 then (some (y113 ++ (l0.drop (x5_1 : Int).toNat))) else (none))) else (none)) = some r := RH hy110 H; have Ny110 := Aside0.mk hy110; clear hy110
         by_cases c12 : y107.length + y110.length < 17592186044416
         ·rw [if_pos c12] at H
          have LMc12 := Aside0.mk c12; clear c12; obtain ⟨y113, hy113⟩ : ∃ y_ : List Int, y_ = (y107 ++ y110) := ⟨_, rfl⟩; replace H : (if y113.length + (l0.drop (x5_1 : Int).toNat).length < 17592186044416 then (some (y113 ++ (l0.drop (x5_1 : Int).toNat))) else (none)) = some r := RH hy113 H; have Ny113 := Aside0.mk hy113; clear hy113; have c13b0 := eq_true (of_decide_eq_true Q4 : 0 ≤ x5_1); have c14b0 := eq_true (of_decide_eq_true Q4 : x5_1 ≤ (l0.length : Int))
          by_cases c15 : y113.length + (l0.drop (x5_1 : Int).toNat).length < 17592186044416
          ·rw [if_pos c15] at H
           have LMc15 := Aside0.mk c15; clear c15; obtain ⟨y117, hy117⟩ : ∃ y_ : List Int, y_ = (y113 ++ (l0.drop (x5_1 : Int).toNat)) := ⟨_, rfl⟩; replace H : (some y117) = some r := RH hy117 H; have Ny117 := Aside0.mk hy117; clear hy117; obtain rfl := Option.some.inj H
           try go_wp2
           replace HB := am (below_drew1 HB.out); obtain ⟨i017, hi017, _, hsz17, _⟩ := info_parts info3; obtain ⟨hcut17, hA17, hC17⟩ := print_take_of (P := Try.prog) (Value.int .i64) 0 25 3 .i64 Try.underlying25 hi017 hsz17 (some ad101) c0 l0 x5_1 (of_decide_eq_true Q4) (of_decide_eq_true Q4) HC0.out; have HR106 := am (Kd.C_of_reads (h1 := fun _ => rfl) (hA17 _ (Kd.reads_of_C HR0.out))); have HC106 := Aside0.mk hC17; clear hA17 hC17 hi017 hsz17; obtain ⟨i018, hi018, _, hsz18, _⟩ := info_parts info3; obtain ⟨A18, hcut18, hA18, hC18⟩ := print_drop_of (P := Try.prog) (Value.int .i64) 0 25 3 .i64 Try.underlying25 hi018 hsz18 (some ad101) c0 l0 x5_1 (of_decide_eq_true Q4) (of_decide_eq_true Q4) HC0.out; have HR116 := am (Kd.C_of_reads (h1 := fun _ => rfl) (hA18 _ (Kd.reads_of_C HR0.out))); have HC116 := Aside0.mk hC18; clear hA18 hC18 hi018 hsz18; refine start_ (n := 13) (S := fun w' => True) (ds := []) #[false, false, false, false, false, false, false, false, false, false, false, false, false] (by kernel_rfl) rfl rfl trivial (fun hHeld => ?_); refine with_tabW spec_l1Put.tab6 spec_l1Put.bits6 (fun HT_ HW_ => ?_); generalize wr.drew = w16 at HB HR106 HR116 hHeld ⊢; refine pq 1 34 rfl rfl HT_ ?_; refine pq 2 35 rfl rfl HT_ ?_; refine pq 3 36 rfl rfl HT_ ?_; refine pq 5 38 rfl rfl HT_ ?_; refine pq 8 41 rfl rfl HT_ ?_; refine pq 9 42 rfl rfl HT_ ?_; refine pq 10 43 rfl rfl HT_ ?_; refine join_ (σ := Value × Value × Value) 3 #[true, true, true, true, true, true, true, false, true, true, true, false, false] (fun s_ => [(33, s_.1), (37, s_.2.1), (39, s_.2.2)]) (fun s_ w' => (Kd.R (Kd.int .i64) 3 w' w.heap.size (fun k_ => some k_ ≠ (s_.2.2 : Value).ownBlock) s_.2.1 y107) ∧ (Kd.R (Kd.int .i64) 3 w' w.heap.size (fun k_ => some k_ ≠ (s_.2.1 : Value).ownBlock) s_.2.2 y110) ∧ (Below w.heap.size w w')) ?_ ?_
           rotate_left
           ·intro hCont
            refine two_ (i := 0) (j := 6) (Ni := some 33) (Nj := some 39) #[true, true, true, true, false, true, false, false, true, true, true, false, false] #[false, true, true, true, false, true, true, false, true, true, true, false, false] rfl rfl rfl rfl (two_of HT_.out (by kernel_rfl)) (by decide) (by decide) (fun K hK => ?_) (fun K hK => ?_)
            ·skip
             refine Kd.R_lit_step (Kd.int .i64) _ 3 ?hg (N := 33) ?hd (xs := ([] : List Int)) (inner := []) (ok := fun _ => True) (okp := fun _ => True) ?hr ?hp (fun _ hk => hk) trivial (Below.refl _ _) (Nat.le_refl _) (by simp) ?_; (case hd => rfl); (case hg => rfl); (case hr => first | (go_simp; done) | (go_simp; rfl)); (case hp => exact (Reps.none _ _)); intro v104 w19 ho20 hb hg_ hnew_; clear hg_ hnew_
             (first | rw [← Ny103.out] at ho20 | (simp only [Int.reduceToNat] at ho20; rw [← Ny103.out] at ho20))
             have HO105 := am (Kd.R_lower ho20 (below_size (Q0 HB))); replace HB := am (below_step (Q0 HB) hb); clear hb ho20; refine hK.out _ _ trivial (fun hHeld => ?_); clear hK K; refine norm_ (a' := ?_) ?_ ?_
             rotate_left
             ·show Act.put _ (some 33) _ = _
              simp only [Act.put, List.setIfInBounds_toArray, List.set_cons_zero, List.set_cons_succ, i64_w, i32_w]
              rfl
             refine two_ (i := 4) (j := 6) (Ni := some 37) (Nj := some 39) #[true, true, true, true, true, true, false, false, true, true, true, false, false] #[true, true, true, true, false, true, true, false, true, true, true, false, false] rfl rfl rfl rfl (two_of HT_.out (by kernel_rfl)) (by decide) (by decide) (fun K hK => ?_) (fun K hK => ?_)
             ·skip
              refine Kd.R_append_rows_step (Kd.int .i64) (w0 := w) w.heap.size (by rfl) (.tmp 33) (.tmp 36) 25 3 (.int .i64 0) 8 rfl Try.underlying25 info3 rfl (by decide) (by omega) v104 y103 (l0.take (x5_1 : Int).toNat) _ _ _ (fun _ => True) (fun _ => False) rfl rfl ?aO ?aR (fun _ _ h => h) (fun _ h => h.elim) ?aF ?aB ?aS ?aL ?_
              (case aR => exact (Q25 HR106 HB))
              (case aB => exact (Q0 HB))
              (case aF => exact (fun _ _ => trivial))
              (case aO => exact (Q2 HO105))
              (case aS => exact (below_size (Q0 HB)))
              (case aL => have := LMc11.out; have hlx_ := (show (l0.take (x5_1 : Int).toNat).length = x5_1.toNat from (by rw [List.length_take]; have h_ : (x5_1 : Int) ≤ (l0.length : Int) := of_decide_eq_true Q4; omega)); omega)
              intro v108 w21 ho hb hg hat; rw [← Ny107.out] at ho; replace HB := am (hb); have HO109 := am (ho); clear HO105; clear ho hb hg hat; refine hK.out _ _ trivial (fun hHeld => ?_); clear hK K; refine norm_ (a' := ?_) ?_ ?_
              rotate_left
              ·show Act.put _ (some 37) _ = _
               simp only [Act.put, List.setIfInBounds_toArray, List.set_cons_zero, List.set_cons_succ, i64_w, i32_w]
               rfl
              refine oq 6 39 rfl rfl HT_ (fun K hK => ?_); refine Kd.R_lit_step (Kd.int .i64) _ 3 ?hg (N := 39) ?hd (xs := ([a1] : List Int)) (inner := [.int .i64 a1]) (ok := fun _ => True) (okp := fun _ => True) ?hr ?hp (fun _ hk => hk) trivial (Below.refl _ _) (Nat.le_refl _) (by simp) ?_; (case hd => rfl); (case hg => rfl); (case hr => first | (go_simp; done) | (go_simp; rfl)); (case hp => exact (Reps.one (show Kd.M (Kd.int .i64) _ _ _ a1 [.int .i64 a1] from rfl) (Reps.none _ _))); intro v111 w22 ho23 hb hg_ hnew_; clear hg_ hnew_
              (first | rw [← Ny110.out] at ho23 | (simp only [Int.reduceToNat] at ho23; rw [← Ny110.out] at ho23))
              have HO112 := am (Kd.R_lower (Kd.R_new' ho23 (Kd.R_lt (Q2 HO109))) (below_size (Q0 HB))); replace HO109 := am (Kd.R_elder' (Q2 HO109) (Kd.R_base ho23) hb); replace HB := am (below_step (Q0 HB) hb); clear hb ho23; refine hK.out _ _ trivial (fun hHeld => ?_); clear hK K; refine norm_ (a' := ?_) ?_ ?_
              rotate_left
              ·show Act.put _ (some 39) _ = _
               simp only [Act.put, List.setIfInBounds_toArray, List.set_cons_zero, List.set_cons_succ, i64_w, i32_w]
               rfl
              exact norm_ Q17 (hCont (v104, v108, v111) _ ⟨(Q21 HO109), (Q21 HO112), (Q0 HB)⟩)
             ·skip
              refine Kd.R_lit_step (Kd.int .i64) _ 3 ?hg (N := 39) ?hd (xs := ([a1] : List Int)) (inner := [.int .i64 a1]) (ok := fun _ => True) (okp := fun _ => True) ?hr ?hp (fun _ hk => hk) trivial (Below.refl _ _) (Nat.le_refl _) (by simp) ?_; (case hd => rfl); (case hg => rfl); (case hr => first | (go_simp; done) | (go_simp; rfl)); (case hp => exact (Reps.one (show Kd.M (Kd.int .i64) _ _ _ a1 [.int .i64 a1] from rfl) (Reps.none _ _))); intro v111 w21 ho22 hb hg_ hnew_; clear hg_ hnew_
              (first | rw [← Ny110.out] at ho22 | (simp only [Int.reduceToNat] at ho22; rw [← Ny110.out] at ho22))
              have HO112 := am (Kd.R_lower (Kd.R_new' ho22 (Kd.R_lt (Q2 HO105))) (below_size (Q0 HB))); replace HO105 := am (Kd.R_elder' (Q2 HO105) (Kd.R_base ho22) hb); replace HB := am (below_step (Q0 HB) hb); clear hb ho22; refine hK.out _ _ trivial (fun hHeld => ?_); clear hK K; refine norm_ (a' := ?_) ?_ ?_
              rotate_left
              ·show Act.put _ (some 39) _ = _
               simp only [Act.put, List.setIfInBounds_toArray, List.set_cons_zero, List.set_cons_succ, i64_w, i32_w]
               rfl
              refine oq 4 37 rfl rfl HT_ (fun K hK => ?_); refine Kd.R_append_rows_step (Kd.int .i64) (w0 := w) w.heap.size (by rfl) (.tmp 33) (.tmp 36) 25 3 (.int .i64 0) 8 rfl Try.underlying25 info3 rfl (by decide) (by omega) v104 y103 (l0.take (x5_1 : Int).toNat) _ _ _ (fun k_ => some k_ ≠ (v111 : Value).ownBlock) (fun _ => False) rfl rfl ?aO ?aR (fun _ _ h => h) (fun _ h => h.elim) ?aF ?aB ?aS ?aL ?_
              (case aR => exact (Q25 HR106 HB))
              (case aB => exact (Q0 HB))
              (case aF => exact (fun k_ hk => Kd.fresh' (Kd.R_lt (Q2 HO112)) k_ hk))
              (case aO => exact (Q21 HO105))
              (case aS => exact (below_size (Q0 HB)))
              (case aL => have := LMc11.out; have hlx_ := (show (l0.take (x5_1 : Int).toNat).length = x5_1.toNat from (by rw [List.length_take]; have h_ : (x5_1 : Int) ≤ (l0.length : Int) := of_decide_eq_true Q4; omega)); omega)
              intro v108 w23 ho hb hg hat; rw [← Ny107.out] at ho; replace HO112 := am (Kd.R_after (ok := (fun _ => True)) (Q2 HO112) hg hat); replace HB := am (hb); have HO109 := am (ho); clear HO105; clear ho hb hg hat; refine hK.out _ _ trivial (fun hHeld => ?_); clear hK K; refine norm_ (a' := ?_) ?_ ?_
              rotate_left
              ·show Act.put _ (some 37) _ = _
               simp only [Act.put, List.setIfInBounds_toArray, List.set_cons_zero, List.set_cons_succ, i64_w, i32_w]
               rfl
              exact norm_ Q17 (hCont (v104, v108, v111) _ ⟨(Q2 HO109), (Q21 HO112), (Q0 HB)⟩)
            ·skip
             refine Kd.R_lit_step (Kd.int .i64) _ 3 ?hg (N := 39) ?hd (xs := ([a1] : List Int)) (inner := [.int .i64 a1]) (ok := fun _ => True) (okp := fun _ => True) ?hr ?hp (fun _ hk => hk) trivial (Below.refl _ _) (Nat.le_refl _) (by simp) ?_; (case hd => rfl); (case hg => rfl); (case hr => first | (go_simp; done) | (go_simp; rfl)); (case hp => exact (Reps.one (show Kd.M (Kd.int .i64) _ _ _ a1 [.int .i64 a1] from rfl) (Reps.none _ _))); intro v111 w19 ho20 hb hg_ hnew_; clear hg_ hnew_
             (first | rw [← Ny110.out] at ho20 | (simp only [Int.reduceToNat] at ho20; rw [← Ny110.out] at ho20))
             have HO112 := am (Kd.R_lower ho20 (below_size (Q0 HB))); replace HB := am (below_step (Q0 HB) hb); clear hb ho20; refine hK.out _ _ trivial (fun hHeld => ?_); clear hK K; refine norm_ (a' := ?_) ?_ ?_
             rotate_left
             ·show Act.put _ (some 39) _ = _
              simp only [Act.put, List.setIfInBounds_toArray, List.set_cons_zero, List.set_cons_succ, i64_w, i32_w]
              rfl
             refine oq 0 33 rfl rfl HT_ (fun K hK => ?_); refine Kd.R_lit_step (Kd.int .i64) _ 3 ?hg (N := 33) ?hd (xs := ([] : List Int)) (inner := []) (ok := fun _ => True) (okp := fun _ => True) ?hr ?hp (fun _ hk => hk) trivial (Below.refl _ _) (Nat.le_refl _) (by simp) ?_; (case hd => rfl); (case hg => rfl); (case hr => first | (go_simp; done) | (go_simp; rfl)); (case hp => exact (Reps.none _ _)); intro v104 w21 ho22 hb hg_ hnew_; clear hg_ hnew_
             (first | rw [← Ny103.out] at ho22 | (simp only [Int.reduceToNat] at ho22; rw [← Ny103.out] at ho22))
             have HO105 := am (Kd.R_lower (Kd.R_new' ho22 (Kd.R_lt (Q2 HO112))) (below_size (Q0 HB))); replace HO112 := am (Kd.R_elder' (Q2 HO112) (Kd.R_base ho22) hb); replace HB := am (below_step (Q0 HB) hb); clear hb ho22; refine hK.out _ _ trivial (fun hHeld => ?_); clear hK K; refine norm_ (a' := ?_) ?_ ?_
             rotate_left
             ·show Act.put _ (some 33) _ = _
              simp only [Act.put, List.setIfInBounds_toArray, List.set_cons_zero, List.set_cons_succ, i64_w, i32_w]
              rfl
             refine oq 4 37 rfl rfl HT_ (fun K hK => ?_); refine Kd.R_append_rows_step (Kd.int .i64) (w0 := w) w.heap.size (by rfl) (.tmp 33) (.tmp 36) 25 3 (.int .i64 0) 8 rfl Try.underlying25 info3 rfl (by decide) (by omega) v104 y103 (l0.take (x5_1 : Int).toNat) _ _ _ (fun k_ => some k_ ≠ (v111 : Value).ownBlock) (fun _ => False) rfl rfl ?aO ?aR (fun _ _ h => h) (fun _ h => h.elim) ?aF ?aB ?aS ?aL ?_
             (case aR => exact (Q25 HR106 HB))
             (case aB => exact (Q0 HB))
             (case aF => exact (fun k_ hk => Kd.fresh' (Kd.R_lt (Q2 HO112)) k_ hk))
             (case aO => exact (Q21 HO105))
             (case aS => exact (below_size (Q0 HB)))
             (case aL => have := LMc11.out; have hlx_ := (show (l0.take (x5_1 : Int).toNat).length = x5_1.toNat from (by rw [List.length_take]; have h_ : (x5_1 : Int) ≤ (l0.length : Int) := of_decide_eq_true Q4; omega)); omega)
             intro v108 w23 ho hb hg hat; rw [← Ny107.out] at ho; replace HO112 := am (Kd.R_after (ok := (fun _ => True)) (Q2 HO112) hg hat); replace HB := am (hb); have HO109 := am (ho); clear HO105; clear ho hb hg hat; refine hK.out _ _ trivial (fun hHeld => ?_); clear hK K; refine norm_ (a' := ?_) ?_ ?_
             rotate_left
             ·show Act.put _ (some 37) _ = _
              simp only [Act.put, List.setIfInBounds_toArray, List.set_cons_zero, List.set_cons_succ, i64_w, i32_w]
              rfl
             exact norm_ Q17 (hCont (v104, v108, v111) _ ⟨(Q2 HO109), (Q21 HO112), (Q0 HB)⟩)
           rintro ⟨v104, v108, v111⟩ w24 ⟨h0_, h1_, h2_⟩; have HO109 : Aside0 (Kd.R (Kd.int .i64) 3 w24 w.heap.size (fun k_ => some k_ ≠ (v111 : Value).ownBlock) v108 y107) := ⟨h0_⟩; have HO112 : Aside0 (Kd.R (Kd.int .i64) 3 w24 w.heap.size (fun k_ => some k_ ≠ (v108 : Value).ownBlock) v111 y110) := ⟨h1_⟩; replace HB : Aside0 (Below w.heap.size w w24) := ⟨h2_⟩; clear h0_ h1_ h2_; have hHeld := trivial; obtain ⟨Ao26, co26, eo26⟩ := Kd.R_slice HO112.out
           (first | subst eo26 | (injection eo26 with f1_ f2_ f3_; have f4_ := f1_.symm; have f5_ := f3_.symm; clear f1_ f2_ f3_; subst f4_; subst f5_))
           refine norm_ (a' := ?_) ?_ ?_
           rotate_left
           ·simp only [putAll, Act.put, List.setIfInBounds_toArray, List.set_cons_zero, List.set_cons_succ]
            rfl
           refine oq 7 40 rfl rfl HT_ (fun K hK => ?_); refine Kd.R_append_rows_step (Kd.int .i64) (w0 := w) w.heap.size (by rfl) (.tmp 37) (.tmp 39) 25 3 (.int .i64 0) 8 rfl Try.underlying25 info3 rfl (by decide) (by omega) v108 y107 y110 _ _ _ (fun k_ => some k_ ≠ (.slice Ao26 y110.length co26 : Value).ownBlock) (fun _ => False) rfl rfl ?aO ?aR (fun _ _ h => h) (fun _ h => h.elim) ?aF ?aB ?aS ?aL ?_
           (case aR => exact (Q15 HO112))
           (case aB => exact (Q0 HB))
           (case aF => exact (fun k_ hk => Kd.fresh' (Kd.R_lt (Q2 HO112)) k_ hk))
           (case aO => exact (Q2 HO109))
           (case aS => exact (below_size (Q0 HB)))
           (case aL => have := LMc12.out; omega)
           intro v114 w25 ho hb hg hat; rw [← Ny113.out] at ho; replace HO112 := am (Kd.R_after (ok := (fun _ => True)) (by (with_reducible repeat (first | apply Kd.R_alloc | apply Kd.R_drewN | apply Kd.R_drew)); exact Kd.R_mono HO112.out (fun _ hk => ⟨trivial, hk⟩)) hg hat); replace HB := am (hb); have HO115 := am (ho); clear HO109; clear ho hb hg hat; refine hK.out _ _ trivial (fun hHeld => ?_); clear hK K; refine norm_ (a' := ?_) ?_ ?_
           rotate_left
           ·show Act.put _ (some 40) _ = _
            simp only [Act.put, List.setIfInBounds_toArray, List.set_cons_zero, List.set_cons_succ, i64_w, i32_w]
            rfl
           refine oq 11 44 rfl rfl HT_ (fun K hK => ?_); refine Kd.R_append_rows_step (Kd.int .i64) (w0 := w) w.heap.size (by rfl) (.tmp 40) (.tmp 43) 25 3 (.int .i64 0) 8 rfl Try.underlying25 info3 rfl (by decide) (by omega) v114 y113 (l0.drop (x5_1 : Int).toNat) _ _ _ (fun k_ => some k_ ≠ (.slice Ao26 y110.length co26 : Value).ownBlock) (fun _ => False) rfl rfl ?aO ?aR (fun _ _ h => h) (fun _ h => h.elim) ?aF ?aB ?aS ?aL ?_
           (case aR => exact (Q47 HR116 HB))
           (case aB => exact (Q0 HB))
           (case aF => exact (fun k_ hk => Kd.fresh' (Kd.R_lt (Q2 HO112)) k_ hk))
           (case aO => exact (Q2 HO115))
           (case aS => exact (below_size (Q0 HB)))
           (case aL => have := LMc15.out; have hlx_ := (show (l0.drop (x5_1 : Int).toNat).length = (l0.length - x5_1.toNat) from List.length_drop); omega)
           intro v118 w27 ho hb hg hat; rw [← Ny117.out] at ho; replace HO112 := am (Kd.R_after (ok := (fun _ => True)) (Q2 HO112) hg hat); replace HB := am (hb); have HO119 := am (ho); clear HO115; clear ho hb hg hat; refine hK.out _ _ trivial (fun hHeld => ?_); clear hK K; refine norm_ (a' := ?_) ?_ ?_
           rotate_left
           ·show Act.put _ (some 44) _ = _
            simp only [Act.put, List.setIfInBounds_toArray, List.set_cons_zero, List.set_cons_succ, i64_w, i32_w]
            rfl
           refine pq 12 4 rfl rfl HT_ ?_; refine done_ (done_of HT_.out (by kernel_rfl)) ?_
           try go_wp2
           go_ret
           exact ⟨_, Q9, Q42 HO119, Q0 HB⟩
          ·rw [if_neg c15] at H
           exact absurd H (by simp)
         ·rw [if_neg c12] at H
          exact absurd H (by simp)
        ·rw [if_neg c11] at H
         exact absurd H (by simp)
       ·rw [if_neg c10] at H
        exact absurd H (by simp)
    ·rw [if_neg c4] at H
     exact absurd H (by simp)
   ·rw [if_neg c3] at H
    have c3b0 := decide_eq_false c3; clear c3; obtain ⟨y120, hy120⟩ : ∃ y_ : List Int, y_ = (([] : List Int)) := ⟨_, rfl⟩; replace H : (if 0 ≤ x5_1 then (if x5_1 ≤ (l0.length : Int) then (if y120.length + (l0.take (x5_1 : Int).toNat).length < 17592186044416 then ((some (y120 ++ (l0.take (x5_1 : Int).toNat) : List Int)).bind fun y124 => ((some (([a1] : List Int) : List Int)).bind fun y127 => (if y124.length + y127.length < 17592186044416 then ((some (y124 ++ y127 : List Int)).bind fun y130 => (if y130.length + (l0.drop (x5_1 : Int).toNat).length < 17592186044416 then (some (y130 ++ (l0.drop (x5_1 : Int).toNat))) else (none))) else (none)))) else (none)) else (none)) else (none)) = some r := RH hy120 H; have Ny120 := Aside0.mk hy120; clear hy120
    by_cases c28 : 0 ≤ x5_1
    ·rw [if_pos c28] at H
     have c28b0 := eq_true c28; have c28b1 := decide_eq_true c28; clear c28
     by_cases c29 : x5_1 ≤ (l0.length : Int)
     ·rw [if_pos c29] at H
      have c29b0 := eq_true c29; have c29b1 := decide_eq_true c29; clear c29
      by_cases c30 : y120.length + (l0.take (x5_1 : Int).toNat).length < 17592186044416
      ·rw [if_pos c30] at H
       have LMc30 := Aside0.mk c30; clear c30; obtain ⟨y124, hy124⟩ : ∃ y_ : List Int, y_ = (y120 ++ (l0.take (x5_1 : Int).toNat)) := ⟨_, rfl⟩; replace H : ((some (([a1] : List Int) : List Int)).bind fun y127 => (if y124.length + y127.length < 17592186044416 then ((some (y124 ++ y127 : List Int)).bind fun y130 => (if y130.length + (l0.drop (x5_1 : Int).toNat).length < 17592186044416 then (some (y130 ++ (l0.drop (x5_1 : Int).toNat))) else (none))) else (none))) = some r := RH hy124 H; have Ny124 := Aside0.mk hy124; clear hy124; obtain ⟨y127, hy127⟩ : ∃ y_ : List Int, y_ = (([a1] : List Int)) := ⟨_, rfl⟩; replace H : (if y124.length + y127.length < 17592186044416 then ((some (y124 ++ y127 : List Int)).bind fun y130 => (if y130.length + (l0.drop (x5_1 : Int).toNat).length < 17592186044416 then (some (y130 ++ (l0.drop (x5_1 : Int).toNat))) else (none))) else (none)) = some r := RH hy127 H; have Ny127 := Aside0.mk hy127; clear hy127
       by_cases c31 : y124.length + y127.length < 17592186044416
       ·rw [if_pos c31] at H
        have LMc31 := Aside0.mk c31; clear c31; obtain ⟨y130, hy130⟩ : ∃ y_ : List Int, y_ = (y124 ++ y127) := ⟨_, rfl⟩; replace H : (if y130.length + (l0.drop (x5_1 : Int).toNat).length < 17592186044416 then (some (y130 ++ (l0.drop (x5_1 : Int).toNat))) else (none)) = some r := RH hy130 H; have Ny130 := Aside0.mk hy130; clear hy130; have c32b0 := eq_true (of_decide_eq_true Q4 : 0 ≤ x5_1); have c33b0 := eq_true (of_decide_eq_true Q4 : x5_1 ≤ (l0.length : Int))
        by_cases c34 : y130.length + (l0.drop (x5_1 : Int).toNat).length < 17592186044416
        ·rw [if_pos c34] at H
         have LMc34 := Aside0.mk c34; clear c34; obtain ⟨y134, hy134⟩ : ∃ y_ : List Int, y_ = (y130 ++ (l0.drop (x5_1 : Int).toNat)) := ⟨_, rfl⟩; replace H : (some y134) = some r := RH hy134 H; have Ny134 := Aside0.mk hy134; clear hy134; obtain rfl := Option.some.inj H
         try go_wp2
         replace HB := am (below_drew1 HB.out); obtain ⟨i036, hi036, _, hsz36, _⟩ := info_parts info3; obtain ⟨hcut36, hA36, hC36⟩ := print_take_of (P := Try.prog) (Value.int .i64) 0 25 3 .i64 Try.underlying25 hi036 hsz36 A0 c0 l0 x5_1 (of_decide_eq_true Q4) (of_decide_eq_true Q4) HC0.out; have HR123 := am (Kd.C_of_reads (h1 := fun _ => rfl) (hA36 _ (Kd.reads_of_C HR0.out))); have HC123 := Aside0.mk hC36; clear hA36 hC36 hi036 hsz36; obtain ⟨i037, hi037, _, hsz37, _⟩ := info_parts info3; obtain ⟨A37, hcut37, hA37, hC37⟩ := print_drop_of (P := Try.prog) (Value.int .i64) 0 25 3 .i64 Try.underlying25 hi037 hsz37 A0 c0 l0 x5_1 (of_decide_eq_true Q4) (of_decide_eq_true Q4) HC0.out; have HR133 := am (Kd.C_of_reads (h1 := fun _ => rfl) (hA37 _ (Kd.reads_of_C HR0.out))); have HC133 := Aside0.mk hC37; clear hA37 hC37 hi037 hsz37; refine start_ (n := 13) (S := fun w' => True) (ds := []) #[false, false, false, false, false, false, false, false, false, false, false, false, false] (by kernel_rfl) rfl rfl trivial (fun hHeld => ?_); refine with_tabW spec_l1Put.tab6 spec_l1Put.bits6 (fun HT_ HW_ => ?_); generalize wr.drew = w35 at HB HR123 HR133 hHeld ⊢; refine pq 1 34 rfl rfl HT_ ?_; refine pq 2 35 rfl rfl HT_ ?_; refine pq 3 36 rfl rfl HT_ ?_; refine pq 5 38 rfl rfl HT_ ?_; refine pq 8 41 rfl rfl HT_ ?_; refine pq 9 42 rfl rfl HT_ ?_; refine pq 10 43 rfl rfl HT_ ?_; refine join_ (σ := Value × Value × Value) 3 #[true, true, true, true, true, true, true, false, true, true, true, false, false] (fun s_ => [(33, s_.1), (37, s_.2.1), (39, s_.2.2)]) (fun s_ w' => (Kd.R (Kd.int .i64) 3 w' w.heap.size (fun k_ => some k_ ≠ (s_.2.2 : Value).ownBlock) s_.2.1 y124) ∧ (Kd.R (Kd.int .i64) 3 w' w.heap.size (fun k_ => some k_ ≠ (s_.2.1 : Value).ownBlock) s_.2.2 y127) ∧ (Below w.heap.size w w')) ?_ ?_
         rotate_left
         ·intro hCont
          refine two_ (i := 0) (j := 6) (Ni := some 33) (Nj := some 39) #[true, true, true, true, false, true, false, false, true, true, true, false, false] #[false, true, true, true, false, true, true, false, true, true, true, false, false] rfl rfl rfl rfl (two_of HT_.out (by kernel_rfl)) (by decide) (by decide) (fun K hK => ?_) (fun K hK => ?_)
          ·skip
           refine Kd.R_lit_step (Kd.int .i64) _ 3 ?hg (N := 33) ?hd (xs := ([] : List Int)) (inner := []) (ok := fun _ => True) (okp := fun _ => True) ?hr ?hp (fun _ hk => hk) trivial (Below.refl _ _) (Nat.le_refl _) (by simp) ?_; (case hd => rfl); (case hg => rfl); (case hr => first | (go_simp; done) | (go_simp; rfl)); (case hp => exact (Reps.none _ _)); intro v121 w38 ho39 hb hg_ hnew_; clear hg_ hnew_
           (first | rw [← Ny120.out] at ho39 | (simp only [Int.reduceToNat] at ho39; rw [← Ny120.out] at ho39))
           have HO122 := am (Kd.R_lower ho39 (below_size (Q0 HB))); replace HB := am (below_step (Q0 HB) hb); clear hb ho39; refine hK.out _ _ trivial (fun hHeld => ?_); clear hK K; refine norm_ (a' := ?_) ?_ ?_
           rotate_left
           ·show Act.put _ (some 33) _ = _
            simp only [Act.put, List.setIfInBounds_toArray, List.set_cons_zero, List.set_cons_succ, i64_w, i32_w]
            rfl
           refine two_ (i := 4) (j := 6) (Ni := some 37) (Nj := some 39) #[true, true, true, true, true, true, false, false, true, true, true, false, false] #[true, true, true, true, false, true, true, false, true, true, true, false, false] rfl rfl rfl rfl (two_of HT_.out (by kernel_rfl)) (by decide) (by decide) (fun K hK => ?_) (fun K hK => ?_)
           ·skip
            refine Kd.R_append_rows_step (Kd.int .i64) (w0 := w) w.heap.size (by rfl) (.tmp 33) (.tmp 36) 25 3 (.int .i64 0) 8 rfl Try.underlying25 info3 rfl (by decide) (by omega) v121 y120 (l0.take (x5_1 : Int).toNat) _ _ _ (fun _ => True) (fun _ => False) rfl rfl ?aO ?aR (fun _ _ h => h) (fun _ h => h.elim) ?aF ?aB ?aS ?aL ?_
            (case aR => exact (Q25 HR123 HB))
            (case aB => exact (Q0 HB))
            (case aF => exact (fun _ _ => trivial))
            (case aO => exact (Q2 HO122))
            (case aS => exact (below_size (Q0 HB)))
            (case aL => have := LMc30.out; have hlx_ := (show (l0.take (x5_1 : Int).toNat).length = x5_1.toNat from (by rw [List.length_take]; have h_ : (x5_1 : Int) ≤ (l0.length : Int) := of_decide_eq_true Q4; omega)); omega)
            intro v125 w40 ho hb hg hat; rw [← Ny124.out] at ho; replace HB := am (hb); have HO126 := am (ho); clear HO122; clear ho hb hg hat; refine hK.out _ _ trivial (fun hHeld => ?_); clear hK K; refine norm_ (a' := ?_) ?_ ?_
            rotate_left
            ·show Act.put _ (some 37) _ = _
             simp only [Act.put, List.setIfInBounds_toArray, List.set_cons_zero, List.set_cons_succ, i64_w, i32_w]
             rfl
            refine oq 6 39 rfl rfl HT_ (fun K hK => ?_); refine Kd.R_lit_step (Kd.int .i64) _ 3 ?hg (N := 39) ?hd (xs := ([a1] : List Int)) (inner := [.int .i64 a1]) (ok := fun _ => True) (okp := fun _ => True) ?hr ?hp (fun _ hk => hk) trivial (Below.refl _ _) (Nat.le_refl _) (by simp) ?_; (case hd => rfl); (case hg => rfl); (case hr => first | (go_simp; done) | (go_simp; rfl)); (case hp => exact (Reps.one (show Kd.M (Kd.int .i64) _ _ _ a1 [.int .i64 a1] from rfl) (Reps.none _ _))); intro v128 w41 ho42 hb hg_ hnew_; clear hg_ hnew_
            (first | rw [← Ny127.out] at ho42 | (simp only [Int.reduceToNat] at ho42; rw [← Ny127.out] at ho42))
            have HO129 := am (Kd.R_lower (Kd.R_new' ho42 (Kd.R_lt (Q2 HO126))) (below_size (Q0 HB))); replace HO126 := am (Kd.R_elder' (Q2 HO126) (Kd.R_base ho42) hb); replace HB := am (below_step (Q0 HB) hb); clear hb ho42; refine hK.out _ _ trivial (fun hHeld => ?_); clear hK K; refine norm_ (a' := ?_) ?_ ?_
            rotate_left
            ·show Act.put _ (some 39) _ = _
             simp only [Act.put, List.setIfInBounds_toArray, List.set_cons_zero, List.set_cons_succ, i64_w, i32_w]
             rfl
            exact norm_ Q17 (hCont (v121, v125, v128) _ ⟨(Q21 HO126), (Q21 HO129), (Q0 HB)⟩)
           ·skip
            refine Kd.R_lit_step (Kd.int .i64) _ 3 ?hg (N := 39) ?hd (xs := ([a1] : List Int)) (inner := [.int .i64 a1]) (ok := fun _ => True) (okp := fun _ => True) ?hr ?hp (fun _ hk => hk) trivial (Below.refl _ _) (Nat.le_refl _) (by simp) ?_; (case hd => rfl); (case hg => rfl); (case hr => first | (go_simp; done) | (go_simp; rfl)); (case hp => exact (Reps.one (show Kd.M (Kd.int .i64) _ _ _ a1 [.int .i64 a1] from rfl) (Reps.none _ _))); intro v128 w40 ho41 hb hg_ hnew_; clear hg_ hnew_
            (first | rw [← Ny127.out] at ho41 | (simp only [Int.reduceToNat] at ho41; rw [← Ny127.out] at ho41))
            have HO129 := am (Kd.R_lower (Kd.R_new' ho41 (Kd.R_lt (Q2 HO122))) (below_size (Q0 HB))); replace HO122 := am (Kd.R_elder' (Q2 HO122) (Kd.R_base ho41) hb); replace HB := am (below_step (Q0 HB) hb); clear hb ho41; refine hK.out _ _ trivial (fun hHeld => ?_); clear hK K; refine norm_ (a' := ?_) ?_ ?_
            rotate_left
            ·show Act.put _ (some 39) _ = _
             simp only [Act.put, List.setIfInBounds_toArray, List.set_cons_zero, List.set_cons_succ, i64_w, i32_w]
             rfl
            refine oq 4 37 rfl rfl HT_ (fun K hK => ?_); refine Kd.R_append_rows_step (Kd.int .i64) (w0 := w) w.heap.size (by rfl) (.tmp 33) (.tmp 36) 25 3 (.int .i64 0) 8 rfl Try.underlying25 info3 rfl (by decide) (by omega) v121 y120 (l0.take (x5_1 : Int).toNat) _ _ _ (fun k_ => some k_ ≠ (v128 : Value).ownBlock) (fun _ => False) rfl rfl ?aO ?aR (fun _ _ h => h) (fun _ h => h.elim) ?aF ?aB ?aS ?aL ?_
            (case aR => exact (Q25 HR123 HB))
            (case aB => exact (Q0 HB))
            (case aF => exact (fun k_ hk => Kd.fresh' (Kd.R_lt (Q2 HO129)) k_ hk))
            (case aO => exact (Q21 HO122))
            (case aS => exact (below_size (Q0 HB)))
            (case aL => have := LMc30.out; have hlx_ := (show (l0.take (x5_1 : Int).toNat).length = x5_1.toNat from (by rw [List.length_take]; have h_ : (x5_1 : Int) ≤ (l0.length : Int) := of_decide_eq_true Q4; omega)); omega)
            intro v125 w42 ho hb hg hat; rw [← Ny124.out] at ho; replace HO129 := am (Kd.R_after (ok := (fun _ => True)) (Q2 HO129) hg hat); replace HB := am (hb); have HO126 := am (ho); clear HO122; clear ho hb hg hat; refine hK.out _ _ trivial (fun hHeld => ?_); clear hK K; refine norm_ (a' := ?_) ?_ ?_
            rotate_left
            ·show Act.put _ (some 37) _ = _
             simp only [Act.put, List.setIfInBounds_toArray, List.set_cons_zero, List.set_cons_succ, i64_w, i32_w]
             rfl
            exact norm_ Q17 (hCont (v121, v125, v128) _ ⟨(Q2 HO126), (Q21 HO129), (Q0 HB)⟩)
          ·skip
           refine Kd.R_lit_step (Kd.int .i64) _ 3 ?hg (N := 39) ?hd (xs := ([a1] : List Int)) (inner := [.int .i64 a1]) (ok := fun _ => True) (okp := fun _ => True) ?hr ?hp (fun _ hk => hk) trivial (Below.refl _ _) (Nat.le_refl _) (by simp) ?_; (case hd => rfl); (case hg => rfl); (case hr => first | (go_simp; done) | (go_simp; rfl)); (case hp => exact (Reps.one (show Kd.M (Kd.int .i64) _ _ _ a1 [.int .i64 a1] from rfl) (Reps.none _ _))); intro v128 w38 ho39 hb hg_ hnew_; clear hg_ hnew_
           (first | rw [← Ny127.out] at ho39 | (simp only [Int.reduceToNat] at ho39; rw [← Ny127.out] at ho39))
           have HO129 := am (Kd.R_lower ho39 (below_size (Q0 HB))); replace HB := am (below_step (Q0 HB) hb); clear hb ho39; refine hK.out _ _ trivial (fun hHeld => ?_); clear hK K; refine norm_ (a' := ?_) ?_ ?_
           rotate_left
           ·show Act.put _ (some 39) _ = _
            simp only [Act.put, List.setIfInBounds_toArray, List.set_cons_zero, List.set_cons_succ, i64_w, i32_w]
            rfl
           refine oq 0 33 rfl rfl HT_ (fun K hK => ?_); refine Kd.R_lit_step (Kd.int .i64) _ 3 ?hg (N := 33) ?hd (xs := ([] : List Int)) (inner := []) (ok := fun _ => True) (okp := fun _ => True) ?hr ?hp (fun _ hk => hk) trivial (Below.refl _ _) (Nat.le_refl _) (by simp) ?_; (case hd => rfl); (case hg => rfl); (case hr => first | (go_simp; done) | (go_simp; rfl)); (case hp => exact (Reps.none _ _)); intro v121 w40 ho41 hb hg_ hnew_; clear hg_ hnew_
           (first | rw [← Ny120.out] at ho41 | (simp only [Int.reduceToNat] at ho41; rw [← Ny120.out] at ho41))
           have HO122 := am (Kd.R_lower (Kd.R_new' ho41 (Kd.R_lt (Q2 HO129))) (below_size (Q0 HB))); replace HO129 := am (Kd.R_elder' (Q2 HO129) (Kd.R_base ho41) hb); replace HB := am (below_step (Q0 HB) hb); clear hb ho41; refine hK.out _ _ trivial (fun hHeld => ?_); clear hK K; refine norm_ (a' := ?_) ?_ ?_
           rotate_left
           ·show Act.put _ (some 33) _ = _
            simp only [Act.put, List.setIfInBounds_toArray, List.set_cons_zero, List.set_cons_succ, i64_w, i32_w]
            rfl
           refine oq 4 37 rfl rfl HT_ (fun K hK => ?_); refine Kd.R_append_rows_step (Kd.int .i64) (w0 := w) w.heap.size (by rfl) (.tmp 33) (.tmp 36) 25 3 (.int .i64 0) 8 rfl Try.underlying25 info3 rfl (by decide) (by omega) v121 y120 (l0.take (x5_1 : Int).toNat) _ _ _ (fun k_ => some k_ ≠ (v128 : Value).ownBlock) (fun _ => False) rfl rfl ?aO ?aR (fun _ _ h => h) (fun _ h => h.elim) ?aF ?aB ?aS ?aL ?_
           (case aR => exact (Q25 HR123 HB))
           (case aB => exact (Q0 HB))
           (case aF => exact (fun k_ hk => Kd.fresh' (Kd.R_lt (Q2 HO129)) k_ hk))
           (case aO => exact (Q21 HO122))
           (case aS => exact (below_size (Q0 HB)))
           (case aL => have := LMc30.out; have hlx_ := (show (l0.take (x5_1 : Int).toNat).length = x5_1.toNat from (by rw [List.length_take]; have h_ : (x5_1 : Int) ≤ (l0.length : Int) := of_decide_eq_true Q4; omega)); omega)
           intro v125 w42 ho hb hg hat; rw [← Ny124.out] at ho; replace HO129 := am (Kd.R_after (ok := (fun _ => True)) (Q2 HO129) hg hat); replace HB := am (hb); have HO126 := am (ho); clear HO122; clear ho hb hg hat; refine hK.out _ _ trivial (fun hHeld => ?_); clear hK K; refine norm_ (a' := ?_) ?_ ?_
           rotate_left
           ·show Act.put _ (some 37) _ = _
            simp only [Act.put, List.setIfInBounds_toArray, List.set_cons_zero, List.set_cons_succ, i64_w, i32_w]
            rfl
           exact norm_ Q17 (hCont (v121, v125, v128) _ ⟨(Q2 HO126), (Q21 HO129), (Q0 HB)⟩)
         rintro ⟨v121, v125, v128⟩ w43 ⟨h0_, h1_, h2_⟩; have HO126 : Aside0 (Kd.R (Kd.int .i64) 3 w43 w.heap.size (fun k_ => some k_ ≠ (v128 : Value).ownBlock) v125 y124) := ⟨h0_⟩; have HO129 : Aside0 (Kd.R (Kd.int .i64) 3 w43 w.heap.size (fun k_ => some k_ ≠ (v125 : Value).ownBlock) v128 y127) := ⟨h1_⟩; replace HB : Aside0 (Below w.heap.size w w43) := ⟨h2_⟩; clear h0_ h1_ h2_; have hHeld := trivial; obtain ⟨Ao45, co45, eo45⟩ := Kd.R_slice HO129.out
         (first | subst eo45 | (injection eo45 with f1_ f2_ f3_; have f4_ := f1_.symm; have f5_ := f3_.symm; clear f1_ f2_ f3_; subst f4_; subst f5_))
         refine norm_ (a' := ?_) ?_ ?_
         rotate_left
         ·simp only [putAll, Act.put, List.setIfInBounds_toArray, List.set_cons_zero, List.set_cons_succ]
          rfl
         refine oq 7 40 rfl rfl HT_ (fun K hK => ?_); refine Kd.R_append_rows_step (Kd.int .i64) (w0 := w) w.heap.size (by rfl) (.tmp 37) (.tmp 39) 25 3 (.int .i64 0) 8 rfl Try.underlying25 info3 rfl (by decide) (by omega) v125 y124 y127 _ _ _ (fun k_ => some k_ ≠ (.slice Ao45 y127.length co45 : Value).ownBlock) (fun _ => False) rfl rfl ?aO ?aR (fun _ _ h => h) (fun _ h => h.elim) ?aF ?aB ?aS ?aL ?_
         (case aR => exact (Q15 HO129))
         (case aB => exact (Q0 HB))
         (case aF => exact (fun k_ hk => Kd.fresh' (Kd.R_lt (Q2 HO129)) k_ hk))
         (case aO => exact (Q2 HO126))
         (case aS => exact (below_size (Q0 HB)))
         (case aL => have := LMc31.out; omega)
         intro v131 w44 ho hb hg hat; rw [← Ny130.out] at ho; replace HO129 := am (Kd.R_after (ok := (fun _ => True)) (by (with_reducible repeat (first | apply Kd.R_alloc | apply Kd.R_drewN | apply Kd.R_drew)); exact Kd.R_mono HO129.out (fun _ hk => ⟨trivial, hk⟩)) hg hat); replace HB := am (hb); have HO132 := am (ho); clear HO126; clear ho hb hg hat; refine hK.out _ _ trivial (fun hHeld => ?_); clear hK K; refine norm_ (a' := ?_) ?_ ?_
         rotate_left
         ·show Act.put _ (some 40) _ = _
          simp only [Act.put, List.setIfInBounds_toArray, List.set_cons_zero, List.set_cons_succ, i64_w, i32_w]
          rfl
         refine oq 11 44 rfl rfl HT_ (fun K hK => ?_); refine Kd.R_append_rows_step (Kd.int .i64) (w0 := w) w.heap.size (by rfl) (.tmp 40) (.tmp 43) 25 3 (.int .i64 0) 8 rfl Try.underlying25 info3 rfl (by decide) (by omega) v131 y130 (l0.drop (x5_1 : Int).toNat) _ _ _ (fun k_ => some k_ ≠ (.slice Ao45 y127.length co45 : Value).ownBlock) (fun _ => False) rfl rfl ?aO ?aR (fun _ _ h => h) (fun _ h => h.elim) ?aF ?aB ?aS ?aL ?_
         (case aR => exact (Q47 HR133 HB))
         (case aB => exact (Q0 HB))
         (case aF => exact (fun k_ hk => Kd.fresh' (Kd.R_lt (Q2 HO129)) k_ hk))
         (case aO => exact (Q2 HO132))
         (case aS => exact (below_size (Q0 HB)))
         (case aL => have := LMc34.out; have hlx_ := (show (l0.drop (x5_1 : Int).toNat).length = (l0.length - x5_1.toNat) from List.length_drop); omega)
         intro v135 w46 ho hb hg hat; rw [← Ny134.out] at ho; replace HO129 := am (Kd.R_after (ok := (fun _ => True)) (Q2 HO129) hg hat); replace HB := am (hb); have HO136 := am (ho); clear HO132; clear ho hb hg hat; refine hK.out _ _ trivial (fun hHeld => ?_); clear hK K; refine norm_ (a' := ?_) ?_ ?_
         rotate_left
         ·show Act.put _ (some 44) _ = _
          simp only [Act.put, List.setIfInBounds_toArray, List.set_cons_zero, List.set_cons_succ, i64_w, i32_w]
          rfl
         refine pq 12 4 rfl rfl HT_ ?_; refine done_ (done_of HT_.out (by kernel_rfl)) ?_
         try go_wp2
         go_ret
         exact ⟨_, Q9, Q42 HO136, Q0 HB⟩
        ·rw [if_neg c34] at H
         exact absurd H (by simp)
       ·rw [if_neg c31] at H
        exact absurd H (by simp)
      ·rw [if_neg c30] at H
       exact absurd H (by simp)
     ·rw [if_neg c29] at H
      exact absurd H (by simp)
    ·rw [if_neg c28] at H
     exact absurd H (by simp)
/-! ### spec_l2Near: function 137 -/
def spec_l2Near.l0 : Nat → Int → Int → Int → Int → List (S71) → Option (Bool)
 | 0, _, _, _, _, _ => none
 | k + 1, x1, x2, x7, x102000, x102001 => if x7 < (x102001.length : Int) then (if 0 ≤ x7 then (if ((rd_T71 x102001 x7).f0) = x1 then (if ((rd_T71 x102001 x7).f1) = x2 then (some true) else (if ((rd_T71 x102001 x7).f0) = x2 then (if ((rd_T71 x102001 x7).f1) = x1 then (some true) else (spec_l2Near.l0 k x1 x2 (wrap64 (x7 + 1)) x102000 x102001)) else (spec_l2Near.l0 k x1 x2 (wrap64 (x7 + 1)) x102000 x102001))) else (if ((rd_T71 x102001 x7).f0) = x2 then (if ((rd_T71 x102001 x7).f1) = x1 then (some true) else (spec_l2Near.l0 k x1 x2 (wrap64 (x7 + 1)) x102000 x102001)) else (spec_l2Near.l0 k x1 x2 (wrap64 (x7 + 1)) x102000 x102001))) else (none)) else (some false)
def spec_l2Near.f (k : Nat) (a0_0 : Int) (l0_1 : List (S71)) (a1 : Int) (a2 : Int) : Option (Bool) := spec_l2Near.l0 k a1 a2 0 a0_0 l0_1
theorem spec_l2Near.mono_l : ∀ k, (∀ y0 y1 y2 y3 y4, LeO (spec_l2Near.l0 k y0 y1 y2 y3 y4) (spec_l2Near.l0 (k + 1) y0 y1 y2 y3 y4))
 | 0 => fun _ _ _ _ _ r h => by simp [spec_l2Near.l0] at h
 | k + 1 => by
  have ih0 := spec_l2Near.mono_l k
  all_goals
   intros
   first | unfold spec_l2Near.l0
   repeat' first | (with_reducible first | exact ih0 _ _ _ _ _ | exact LeO.refl _ | exact LeO.none _ | refine LeO.ite ?_ ?_ | refine LeO.bind ?_ (fun _ => ?_))
theorem spec_l2Near.mono : ∀ a0 a1 a2 a3 k, LeO (spec_l2Near.f k a0 a1 a2 a3) (spec_l2Near.f (k + 1) a0 a1 a2 a3) := by
 intro a0 a1 a2 a3 k
 have ih0 := spec_l2Near.mono_l k
 unfold spec_l2Near.f
 repeat' first | (with_reducible first | exact ih0 _ _ _ _ _ | exact LeO.refl _ | exact LeO.none _ | refine LeO.ite ?_ ?_ | refine LeO.bind ?_ (fun _ => ?_))
set_option maxHeartbeats 8000000 in
set_option maxRecDepth 100000 in
theorem spec_l2Near.calls (k : Nat) (a0_0 : Int) (A0_1 : Option Addr) (c0_1 : Nat) (l0_1 : List (S71)) (a1 : Int) (a2 : Int) (r : Bool) (w : World) (hr0_1 : Kd.C k71 w A0_1 l0_1.length l0_1) (hc0_1 : l0_1.length ≤ c0_1) (h : spec_l2Near.f k a0_0 l0_1 a1 a2 = some r) :
  Calls Try.prog 137 #[.agg #[.int .i64 a0_0, .slice A0_1 l0_1.length c0_1], .int .i64 a1, .int .i64 a2] w fun e w' => e = .returned (.bool r) ∧ Below w.heap.size w w' := by
 have hu30 := Try.underlying30
 have hu71 := Try.underlying71
 have HR0_1 := Aside0.mk hr0_1
 have HC0_1 := Aside0.mk hc0_1
 clear hr0_1 hc0_1
 have HB := am (Below.refl w.heap.size w)
 have H : (spec_l2Near.l0 k a1 a2 0 a0_0 l0_1) = some r := h
 clear h
 have H' := Aside0.mk H
 clear H
 go_enter Try.func137, Try.ntmps137
 go_wp2_with (first | ((with_reducible refine gate_dst (N := 3) rfl ?_); refine box_event ?hg (N := 3) ?hd (cs := #[.int .i64 a0_0, .slice A0_1 l0_1.length c0_1]) (t := 30) ?hr ?_; (case hd => rfl); (case hg => rfl); (case hr => first | (go_simp; done) | (go_simp; rfl)); intro gb101 hg w4 hbox hb; have BK101 := am (hbox); have GW101 := am ((Q26 : w.heap.size ≤ gb101)); have GE101 := am ((Q26 : w.heap.size ≤ gb101)); replace HB := am (below_step (Q0 HB) hb); clear hb hbox hg))
 go_loopg [7] k (fun kq v7 w' => ∃ (x7_1 : Int), v7 = .int .i64 x7_1 ∧ Aside0 (spec_l2Near.l0 kq a1 a2 x7_1 a0_0 l0_1 = some r) ∧ Aside0 (kq ≤ k) ∧ Aside0 (w'.heap[gb101]? = some (.cells #[.int .i64 a0_0, (.slice A0_1 l0_1.length c0_1)] 30 (0, 0))) ∧ Aside0 (Below w.heap.size w w'))
 case atStart => exact ⟨(0), Q8, H', ⟨Nat.le_refl _⟩, ⟨Q1 BK101⟩, ⟨Q0 HB⟩⟩
 case round =>
  clear H'
  try clear c1
  try clear p2
  obtain ⟨x7_1, rfl, HA, HK1, BK101, HB⟩ := hrel
  cases gk with
  | zero => exact absurd HA.out (by simp [spec_l2Near.l0])
  | succ k1 =>
   have H := HA.out; clear HA
   simp only [spec_l2Near.l0] at H
   by_cases c5 : x7_1 < (l0_1.length : Int)
   ·rw [if_pos c5] at H
    have c5b0 := decide_eq_true c5; clear c5
    by_cases c6 : 0 ≤ x7_1
    ·rw [if_pos c6] at H
     have c6b0 := decide_eq_true c6; clear c6; have HU7 := Aside0.mk H; clear H; have hcz8_0 : wr.cell? ⟨gb101, 0, none⟩ = some (.int .i64 a0_0) := (blk_cell BK101.out 0).trans rfl; have hcz8_1 : wr.cell? ⟨gb101, 1, none⟩ = some (.slice A0_1 l0_1.length c0_1) := (blk_cell BK101.out 1).trans rfl; have hfz8_0 := blk_frozen BK101.out 0; have hfz8_1 := blk_frozen BK101.out 1; have p102 : 0 ≤ (x7_1 : Int) := of_decide_eq_true Q4; have q102 : x7_1 < (l0_1.length : Int) := of_decide_eq_true Q4; obtain ⟨ad102, e102, hx102_0, hx102_1⟩ := at_T71 HR0_1.out x7_1 p102 q102
     cases e102
     replace hx102_0 := (HB.out.cell (World.block_lt_of_cell? w _ hx102_0)).trans hx102_0; replace hx102_1 := (HB.out.cell (World.block_lt_of_cell? w _ hx102_1)).trans hx102_1; replace p102 := eq_true p102; replace q102 := eq_true q102
     go_upto_region 5 with (first | ((with_reducible refine gate_dst (N := 8) rfl ?_); refine box_event ?hg (N := 8) ?hd (cs := #[.int .i64 0, .int .i64 0]) (t := 71) ?hr ?_; (case hd => rfl); (case hg => rfl); (case hr => first | (go_simp; done) | (go_simp; rfl)); intro gb103 hg w9 hbox hb; have BK103 := am (hbox); have GW103 := am ((Q26 : w.heap.size ≤ gb103)); have GE103 := am ((Q26 : w.heap.size ≤ gb103)); replace HB := am (below_step (Q0 HB) hb); have NB101_103 := am ((by rw [hg]; exact Nat.ne_of_lt (blk_lt (g := gb101) (o := .cells #[.int .i64 a0_0, .slice (some ad102) l0_1.length c0_1] 30 (0, 0)) (Q1 BK101)) : gb101 ≠ gb103)); have NB103_101 := am ((by rw [hg]; exact Nat.ne_of_gt (blk_lt (g := gb101) (o := .cells #[.int .i64 a0_0, .slice (some ad102) l0_1.length c0_1] 30 (0, 0)) (Q1 BK101)) : gb103 ≠ gb101)); replace BK101 := am (blk_below (g := gb101) (o := .cells #[.int .i64 a0_0, .slice (some ad102) l0_1.length c0_1] 30 (0, 0)) (Q1 BK101) hb); clear hb hbox hg; have hnb10 := NB103_101.out; have hnc10 := NB101_103.out; have hcz11_0 : w9.cell? ⟨gb103, 0, none⟩ = some (.int .i64 0) := (blk_cell BK103.out 0).trans rfl; have hcz11_1 : w9.cell? ⟨gb103, 1, none⟩ = some (.int .i64 0) := (blk_cell BK103.out 1).trans rfl; have hfz11_0 := blk_frozen BK103.out 0; have hfz11_1 := blk_frozen BK103.out 1))
     (try simp only [Act.put, List.setIfInBounds_toArray, List.set_cons_zero, List.set_cons_succ]); have H := HU7.out; clear HU7
     by_cases c12 : ((rd_T71 l0_1 x7_1).f0) = a1
     ·rw [if_pos c12] at H
      have c12b0 := beq_iff_eq.mpr c12; have c12b1 := bne_eq_false_iff_eq.mpr c12; clear c12
      by_cases c13 : ((rd_T71 l0_1 x7_1).f1) = a2
      ·rw [if_pos c13] at H
       have c13b0 := beq_iff_eq.mpr c13; have c13b1 := bne_eq_false_iff_eq.mpr c13; clear c13; obtain rfl := Option.some.inj H; have hnb14 := NB103_101.out; have hnc14 := NB101_103.out; have hcz15_0 : w9.cell? ⟨gb103, 0, none⟩ = some (.int .i64 0) := (blk_cell BK103.out 0).trans rfl; have hcz15_1 : w9.cell? ⟨gb103, 1, none⟩ = some (.int .i64 0) := (blk_cell BK103.out 1).trans rfl; have hfz15_0 := blk_frozen BK103.out 0; have hfz15_1 := blk_frozen BK103.out 1
       go_wp2
       go_ret
       exact ⟨Q9, Q13 HB GE103⟩
      ·rw [if_neg c13] at H
       have c13b0 := beq_eq_false_iff_ne.mpr c13; have c13b1 := bne_iff_ne.mpr c13
       by_cases c16 : ((rd_T71 l0_1 x7_1).f0) = a2
       ·rw [if_pos c16] at H
        have c16b0 := beq_iff_eq.mpr c16; have c16b1 := bne_eq_false_iff_eq.mpr c16; clear c16
        by_cases c17 : ((rd_T71 l0_1 x7_1).f1) = a1
        ·rw [if_pos c17] at H
         have c17b0 := beq_iff_eq.mpr c17; have c17b1 := bne_eq_false_iff_eq.mpr c17; clear c17; obtain rfl := Option.some.inj H; have hnb18 := NB103_101.out; have hnc18 := NB101_103.out; have hcz19_0 : w9.cell? ⟨gb103, 0, none⟩ = some (.int .i64 0) := (blk_cell BK103.out 0).trans rfl; have hcz19_1 : w9.cell? ⟨gb103, 1, none⟩ = some (.int .i64 0) := (blk_cell BK103.out 1).trans rfl; have hfz19_0 := blk_frozen BK103.out 0; have hfz19_1 := blk_frozen BK103.out 1
         go_wp2
         go_ret
         exact ⟨Q9, Q13 HB GE103⟩
        ·rw [if_neg c17] at H
         have c17b0 := beq_eq_false_iff_ne.mpr c17; have c17b1 := bne_iff_ne.mpr c17; have H' := Aside0.mk H; clear H; have hnb20 := NB103_101.out; have hnc20 := NB101_103.out; have hcz21_0 : w9.cell? ⟨gb103, 0, none⟩ = some (.int .i64 0) := (blk_cell BK103.out 0).trans rfl; have hcz21_1 : w9.cell? ⟨gb103, 1, none⟩ = some (.int .i64 0) := (blk_cell BK103.out 1).trans rfl; have hfz21_0 := blk_frozen BK103.out 0; have hfz21_1 := blk_frozen BK103.out 1
         go_wp2
         go_roundg k1
         case measure => have := HK1.out; omega
         case rel => exact ⟨(wrap64 (x7_1 + 1)), Q8, H', ⟨Q39⟩, ⟨Q11 NB101_103 BK101⟩, ⟨Q13 HB GE103⟩⟩
       ·rw [if_neg c16] at H
        have c16b0 := beq_eq_false_iff_ne.mpr c16; have c16b1 := bne_iff_ne.mpr c16; have H' := Aside0.mk H; clear H; have hnb22 := NB103_101.out; have hnc22 := NB101_103.out; have hcz23_0 : w9.cell? ⟨gb103, 0, none⟩ = some (.int .i64 0) := (blk_cell BK103.out 0).trans rfl; have hcz23_1 : w9.cell? ⟨gb103, 1, none⟩ = some (.int .i64 0) := (blk_cell BK103.out 1).trans rfl; have hfz23_0 := blk_frozen BK103.out 0; have hfz23_1 := blk_frozen BK103.out 1
        go_wp2
        go_roundg k1
        case measure => have := HK1.out; omega
        case rel => exact ⟨(wrap64 (x7_1 + 1)), Q8, H', ⟨Q39⟩, ⟨Q11 NB101_103 BK101⟩, ⟨Q13 HB GE103⟩⟩
     ·rw [if_neg c12] at H
      have c12b0 := beq_eq_false_iff_ne.mpr c12; have c12b1 := bne_iff_ne.mpr c12
      by_cases c24 : ((rd_T71 l0_1 x7_1).f0) = a2
      ·rw [if_pos c24] at H
       have c24b0 := beq_iff_eq.mpr c24; have c24b1 := bne_eq_false_iff_eq.mpr c24; clear c24
       by_cases c25 : ((rd_T71 l0_1 x7_1).f1) = a1
       ·rw [if_pos c25] at H
        have c25b0 := beq_iff_eq.mpr c25; have c25b1 := bne_eq_false_iff_eq.mpr c25; clear c25; obtain rfl := Option.some.inj H; have hnb26 := NB103_101.out; have hnc26 := NB101_103.out; have hcz27_0 : w9.cell? ⟨gb103, 0, none⟩ = some (.int .i64 0) := (blk_cell BK103.out 0).trans rfl; have hcz27_1 : w9.cell? ⟨gb103, 1, none⟩ = some (.int .i64 0) := (blk_cell BK103.out 1).trans rfl; have hfz27_0 := blk_frozen BK103.out 0; have hfz27_1 := blk_frozen BK103.out 1
        go_wp2
        go_ret
        exact ⟨Q9, Q13 HB GE103⟩
       ·rw [if_neg c25] at H
        have c25b0 := beq_eq_false_iff_ne.mpr c25; have c25b1 := bne_iff_ne.mpr c25; have H' := Aside0.mk H; clear H; have hnb28 := NB103_101.out; have hnc28 := NB101_103.out; have hcz29_0 : w9.cell? ⟨gb103, 0, none⟩ = some (.int .i64 0) := (blk_cell BK103.out 0).trans rfl; have hcz29_1 : w9.cell? ⟨gb103, 1, none⟩ = some (.int .i64 0) := (blk_cell BK103.out 1).trans rfl; have hfz29_0 := blk_frozen BK103.out 0; have hfz29_1 := blk_frozen BK103.out 1
        go_wp2
        go_roundg k1
        case measure => have := HK1.out; omega
        case rel => exact ⟨(wrap64 (x7_1 + 1)), Q8, H', ⟨Q39⟩, ⟨Q11 NB101_103 BK101⟩, ⟨Q13 HB GE103⟩⟩
      ·rw [if_neg c24] at H
       have c24b0 := beq_eq_false_iff_ne.mpr c24; have c24b1 := bne_iff_ne.mpr c24; have H' := Aside0.mk H; clear H; have hnb30 := NB103_101.out; have hnc30 := NB101_103.out; have hcz31_0 : w9.cell? ⟨gb103, 0, none⟩ = some (.int .i64 0) := (blk_cell BK103.out 0).trans rfl; have hcz31_1 : w9.cell? ⟨gb103, 1, none⟩ = some (.int .i64 0) := (blk_cell BK103.out 1).trans rfl; have hfz31_0 := blk_frozen BK103.out 0; have hfz31_1 := blk_frozen BK103.out 1
       go_wp2
       go_roundg k1
       case measure => have := HK1.out; omega
       case rel => exact ⟨(wrap64 (x7_1 + 1)), Q8, H', ⟨Q39⟩, ⟨Q11 NB101_103 BK101⟩, ⟨Q13 HB GE103⟩⟩
    ·rw [if_neg c6] at H
     exact absurd H (by simp)
   ·rw [if_neg c5] at H
    have c5b0 := decide_eq_false c5; clear c5; obtain rfl := Option.some.inj H; have hcz32_0 : wr.cell? ⟨gb101, 0, none⟩ = some (.int .i64 a0_0) := (blk_cell BK101.out 0).trans rfl; have hcz32_1 : wr.cell? ⟨gb101, 1, none⟩ = some (.slice A0_1 l0_1.length c0_1) := (blk_cell BK101.out 1).trans rfl; have hfz32_0 := blk_frozen BK101.out 0; have hfz32_1 := blk_frozen BK101.out 1
    go_wp2
    go_ret
    exact ⟨Q9, Q0 HB⟩
/-! ### spec_l2Neighbors: function 160 -/
def spec_l2Neighbors.l0 : Nat → Int → List Int → Int → Int → List (S71) → Option (List Int)
 | 0, _, _, _, _, _ => none
 | k + 1, x1, x5, x6, x102000, x102001 => if x6 < x102000 then ((spec_l2Near.f k x102000 x102001 x1 x6).bind fun t105 => (if t105 = true then (if x5.length < 17592186044416 then (spec_l2Neighbors.l0 k x1 (x5 ++ [x6]) (wrap64 (x6 + 1)) x102000 x102001) else (none)) else (spec_l2Neighbors.l0 k x1 x5 (wrap64 (x6 + 1)) x102000 x102001))) else (some x5)
def spec_l2Neighbors.f (k : Nat) (a0_0 : Int) (l0_1 : List (S71)) (a1 : Int) : Option (List Int) := spec_l2Neighbors.l0 k a1 (([] : List Int)) 0 a0_0 l0_1
theorem spec_l2Neighbors.mono_l : ∀ k, (∀ y0 y1 y2 y3 y4, LeO (spec_l2Neighbors.l0 k y0 y1 y2 y3 y4) (spec_l2Neighbors.l0 (k + 1) y0 y1 y2 y3 y4))
 | 0 => fun _ _ _ _ _ r h => by simp [spec_l2Neighbors.l0] at h
 | k + 1 => by
  have ih0 := spec_l2Neighbors.mono_l k
  all_goals
   intros
   first | unfold spec_l2Neighbors.l0
   repeat' first | (with_reducible first | exact ih0 _ _ _ _ _ | exact spec_l2Near.mono _ _ _ _ _ | exact LeO.refl _ | exact LeO.none _ | refine LeO.ite ?_ ?_ | refine LeO.bind ?_ (fun _ => ?_))
theorem spec_l2Neighbors.mono : ∀ a0 a1 a2 k, LeO (spec_l2Neighbors.f k a0 a1 a2) (spec_l2Neighbors.f (k + 1) a0 a1 a2) := by
 intro a0 a1 a2 k
 have ih0 := spec_l2Neighbors.mono_l k
 unfold spec_l2Neighbors.f
 repeat' first | (with_reducible first | exact ih0 _ _ _ _ _ | exact spec_l2Near.mono _ _ _ _ _ | exact LeO.refl _ | exact LeO.none _ | refine LeO.ite ?_ ?_ | refine LeO.bind ?_ (fun _ => ?_))
set_option maxHeartbeats 8000000 in
set_option maxRecDepth 100000 in
theorem spec_l2Neighbors.calls (k : Nat) (a0_0 : Int) (A0_1 : Option Addr) (c0_1 : Nat) (l0_1 : List (S71)) (a1 : Int) (r : List Int) (w : World) (hr0_1 : Kd.C k71 w A0_1 l0_1.length l0_1) (hc0_1 : l0_1.length ≤ c0_1) (h : spec_l2Neighbors.f k a0_0 l0_1 a1 = some r) :
  Calls Try.prog 160 #[.agg #[.int .i64 a0_0, .slice A0_1 l0_1.length c0_1], .int .i64 a1] w fun e w' => ∃ v0_ : Value, e = .returned (v0_) ∧ Kd.R (Kd.int .i64) 3 w' w.heap.size (fun _ => True) v0_ r ∧ Below w.heap.size w w' := by
 have hu30 := Try.underlying30
 have HR0_1 := Aside0.mk hr0_1
 have HC0_1 := Aside0.mk hc0_1
 clear hr0_1 hc0_1
 have HB := am (Below.refl w.heap.size w)
 have H : (spec_l2Neighbors.l0 k a1 (([] : List Int)) 0 a0_0 l0_1) = some r := h
 clear h
 obtain ⟨y102, hy102⟩ : ∃ y_ : List Int, y_ = (([] : List Int)) := ⟨_, rfl⟩
 replace H : (spec_l2Neighbors.l0 k a1 y102 0 a0_0 l0_1) = some r := RH hy102 H
 have Ny102 := Aside0.mk hy102
 clear hy102
 have H' := Aside0.mk H
 clear H
 go_enter Try.func160, Try.ntmps160
 go_wp2_with (first | ((with_reducible refine gate_dst (N := 2) rfl ?_); refine box_event ?hg (N := 2) ?hd (cs := #[.int .i64 a0_0, .slice A0_1 l0_1.length c0_1]) (t := 30) ?hr ?_; (case hd => rfl); (case hg => rfl); (case hr => first | (go_simp; done) | (go_simp; rfl)); intro gb101 hg w3 hbox hb; have BK101 := am (hbox); have GW101 := am ((Q26 : w.heap.size ≤ gb101)); have GE101 := am ((Q26 : w.heap.size ≤ gb101)); replace HB := am (below_step (Q0 HB) hb); clear hb hbox hg) | ((with_reducible refine gate_dst (N := 7) rfl ?_); refine Kd.R_lit (Kd.int .i64) _ 3 ?hg (N := 7) ?hd (xs := ([] : List Int)) (inner := []) (ok := fun _ => True) (okp := fun _ => True) ?hr ?hp (fun _ hk => hk) trivial (Below.refl _ _) (Nat.le_refl _) (by simp) ?_; (case hd => rfl); (case hg => rfl); (case hr => first | (go_simp; done) | (go_simp; rfl)); (case hp => exact (Reps.none _ _)); intro v103 w4 ho5 hb hg_ hnew_; clear hg_ hnew_; (first | rw [← Ny102.out] at ho5 | (simp only [Int.reduceToNat] at ho5; rw [← Ny102.out] at ho5)); have HO104 := am (Kd.R_lower ho5 (below_size (Q0 HB))); replace BK101 := am (blk_below (g := gb101) (o := .cells #[.int .i64 a0_0, .slice A0_1 l0_1.length c0_1] 30 (0, 0)) (Q1 BK101) hb); replace HB := am (below_step (Q0 HB) hb); clear hb ho5))
 go_loopg [5, 6] k (fun kq v5 v6 w' => ∃ (x5_1 : List Int) (x6_1 : Int), v6 = .int .i64 x6_1 ∧ Aside0 (spec_l2Neighbors.l0 kq a1 x5_1 x6_1 a0_0 l0_1 = some r) ∧ Aside0 (kq ≤ k) ∧ Aside0 (Kd.R (Kd.int .i64) 3 w' w.heap.size (fun _ => True) v5 x5_1) ∧ Aside0 (w'.heap[gb101]? = some (.cells #[.int .i64 a0_0, (.slice A0_1 l0_1.length c0_1)] 30 (0, 0))) ∧ Aside0 (Below w.heap.size w w'))
 case atStart => exact ⟨(y102), (0), Q8, H', ⟨Nat.le_refl _⟩, ⟨Q2 HO104⟩, ⟨Q1 BK101⟩, ⟨Q0 HB⟩⟩
 case round =>
  clear H'
  try clear c1
  try clear p2
  obtain ⟨x5_1, x6_1, rfl, HA, HK1, HO_5, BK101, HB⟩ := hrel
  cases gk with
  | zero => exact absurd HA.out (by simp [spec_l2Neighbors.l0])
  | succ k1 =>
   have H := HA.out; clear HA
   simp only [spec_l2Neighbors.l0] at H
   by_cases c6 : x6_1 < a0_0
   ·rw [if_pos c6] at H
    have c6b0 := decide_eq_true c6; clear c6; replace H := (ob H); obtain ⟨t105, A70, H⟩ := H; (try dsimp only at H); have A7 := Aside0.mk A70; clear A70; have HU8 := Aside0.mk H; clear H; have hcz9_0 : wr.cell? ⟨gb101, 0, none⟩ = some (.int .i64 a0_0) := (blk_cell BK101.out 0).trans rfl; have hcz9_1 : wr.cell? ⟨gb101, 1, none⟩ = some (.slice A0_1 l0_1.length c0_1) := (blk_cell BK101.out 1).trans rfl; have hfz9_0 := blk_frozen BK101.out 0; have hfz9_1 := blk_frozen BK101.out 1
    go_upto_if 17 with (first | ((with_reducible refine gate_callee (f := 137) rfl ?_); refine goesL_ (some 17) rfl rfl Try.func137 (by kernel_rfl) rfl #[.agg #[.int .i64 a0_0, .slice A0_1 l0_1.length c0_1], .int .i64 a1, .int .i64 x6_1] rfl Q3 ?_; (with_reducible refine (spec_l2Near.calls k1 a0_0 _ _ l0_1 a1 x6_1 t105 _ ?side1 ?side2 A7.out).mono ?_); (case side1 => exact (Q6 HR0_1 HB)); (case side2 => exact HC0_1.out); rintro e w10 ⟨rfl, hb⟩; refine ⟨_, rfl, ?_⟩; replace HO_5 := am (Kd.R_below Q64 hb); replace BK101 := am (blk_below (g := gb101) (o := .cells #[.int .i64 a0_0, .slice A0_1 l0_1.length c0_1] 30 (0, 0)) (Q1 BK101) hb); replace HB := am (below_step (Q0 HB) hb); (try clear hb); (try clear hb2); (try clear hk); (try clear hi)))
    (try simp only [Act.put, List.setIfInBounds_toArray, List.set_cons_zero, List.set_cons_succ]); have H := HU8.out; clear HU8
    by_cases c11 : t105 = true
    ·subst c11
     have H1 : (if x5_1.length < 17592186044416 then (spec_l2Neighbors.l0 k1 a1 (x5_1 ++ [x6_1]) (wrap64 (x6_1 + 1)) a0_0 l0_1) else (none)) = some r := by rw [if_pos rfl] at H; exact H
     clear H; have H := H1; clear H1
     by_cases c12 : x5_1.length < 17592186044416
     ·rw [if_pos c12] at H
      have LMc12 := Aside0.mk c12; clear c12; obtain ⟨y106, hy106⟩ : ∃ y_ : List Int, y_ = (x5_1 ++ [x6_1]) := ⟨_, rfl⟩; replace H : (spec_l2Neighbors.l0 k1 a1 y106 (wrap64 (x6_1 + 1)) a0_0 l0_1) = some r := RH hy106 H; have Ny106 := Aside0.mk hy106; clear hy106; have H' := Aside0.mk H; clear H
      go_wp2_with (first | ((with_reducible refine gate_builtin (b := .append) (xs := #[.tmp 18, .tmp 20]) rfl ?_); at_builtin; refine Kd.R_append (Kd.int .i64) (w0 := w) w.heap.size rfl (.tmp 18) (.tmp 20) 25 3 (.int .i64 0) 8 rfl Try.underlying25 info3 rfl (by decide) (by omega) u5 x5_1 x6_1 [.int .i64 x6_1] (fun _ => True) (fun _ => False) rfl rfl ?aP (fun _ hk => hk.elim) ?aF ?aO ?aB ?aS ?aL ?_; (case aP => exact rfl); (case aB => exact (Q0 HB)); (case aF => exact (fun _ _ => trivial)); (case aO => exact Q64); (case aS => exact (below_size (Q0 HB))); (case aL => have := LMc12.out; omega); intro v107 w13 ho hb hg hat; rw [← Ny106.out] at ho; replace BK101 := am (blk_grown (g := gb101) (o := .cells #[.int .i64 a0_0, .slice A0_1 l0_1.length c0_1] 30 (0, 0)) (Q1 BK101) hg (Kd.R_ne HO_5.out BK101.out (by decide))); replace HB := am (hb); have HO108 := am (ho); clear HO_5; clear ho hb hg hat))
      go_roundg k1
      case measure => have := HK1.out; omega
      case rel => exact ⟨(y106), (wrap64 (x6_1 + 1)), Q8, H', ⟨Q39⟩, ⟨Q2 HO108⟩, ⟨Q1 BK101⟩, ⟨Q0 HB⟩⟩
     ·rw [if_neg c12] at H
      exact absurd H (by simp)
    ·replace c11 := Bool.eq_false_iff.mpr c11
     subst c11; have H1 : (spec_l2Neighbors.l0 k1 a1 x5_1 (wrap64 (x6_1 + 1)) a0_0 l0_1) = some r := by rw [if_neg (show ¬ (false = true) by decide)] at H; exact H
     clear H; have H := H1; clear H1; have H' := Aside0.mk H; clear H
     go_wp2
     go_roundg k1
     case measure => have := HK1.out; omega
     case rel => exact ⟨(x5_1), (wrap64 (x6_1 + 1)), Q8, H', ⟨Q39⟩, ⟨Q64⟩, ⟨Q1 BK101⟩, ⟨Q0 HB⟩⟩
   ·rw [if_neg c6] at H
    have c6b0 := decide_eq_false c6; clear c6; obtain rfl := Option.some.inj H; have hcz14_0 : wr.cell? ⟨gb101, 0, none⟩ = some (.int .i64 a0_0) := (blk_cell BK101.out 0).trans rfl; have hcz14_1 : wr.cell? ⟨gb101, 1, none⟩ = some (.slice A0_1 l0_1.length c0_1) := (blk_cell BK101.out 1).trans rfl; have hfz14_0 := blk_frozen BK101.out 0; have hfz14_1 := blk_frozen BK101.out 1
    go_wp2
    go_ret
    exact ⟨_, Q9, Q64, Q0 HB⟩
/-! ### spec_l2Ball: function 170 -/
def spec_l2Ball.f (k : Nat) (a0_0 : Int) (l0_1 : List (S71)) (a1 : Int) : Option (List Int) := (spec_l2Neighbors.f k a0_0 l0_1 a1).bind fun t102 => ((spec_l1Put.f k t102 a1).bind fun t105 => (some t105))
theorem spec_l2Ball.mono : ∀ a0 a1 a2 k, LeO (spec_l2Ball.f k a0 a1 a2) (spec_l2Ball.f (k + 1) a0 a1 a2) := by
 intro a0 a1 a2 k
 unfold spec_l2Ball.f
 repeat' first | (with_reducible first | exact spec_l1Put.mono _ _ _ | exact spec_l2Neighbors.mono _ _ _ _ | exact LeO.refl _ | exact LeO.none _ | refine LeO.ite ?_ ?_ | refine LeO.bind ?_ (fun _ => ?_))
set_option maxHeartbeats 8000000 in
set_option maxRecDepth 100000 in
theorem spec_l2Ball.calls (k : Nat) (a0_0 : Int) (A0_1 : Option Addr) (c0_1 : Nat) (l0_1 : List (S71)) (a1 : Int) (r : List Int) (w : World) (hr0_1 : Kd.C k71 w A0_1 l0_1.length l0_1) (hc0_1 : l0_1.length ≤ c0_1) (h : spec_l2Ball.f k a0_0 l0_1 a1 = some r) :
  Calls Try.prog 170 #[.agg #[.int .i64 a0_0, .slice A0_1 l0_1.length c0_1], .int .i64 a1] w fun e w' => ∃ v0_ : Value, e = .returned (v0_) ∧ Kd.R (Kd.int .i64) 3 w' w.heap.size (fun _ => True) v0_ r ∧ Below w.heap.size w w' := by
 have hu30 := Try.underlying30
 have HR0_1 := Aside0.mk hr0_1
 have HC0_1 := Aside0.mk hc0_1
 clear hr0_1 hc0_1
 have HB := am (Below.refl w.heap.size w)
 have H : ((spec_l2Neighbors.f k a0_0 l0_1 a1).bind fun t102 => ((spec_l1Put.f k t102 a1).bind fun t105 => (some t105))) = some r := h
 clear h
 replace H := (ob H)
 obtain ⟨t102, A30, H⟩ := H
 (try dsimp only at H)
 have A3 := Aside0.mk A30
 clear A30
 replace H := (ob H)
 obtain ⟨t105, A40, H⟩ := H
 (try dsimp only at H)
 have A4 := Aside0.mk A40
 clear A40
 obtain rfl := Option.some.inj H
 go_enter Try.func170, Try.ntmps170
 go_wp2_with (first | ((with_reducible refine gate_dst (N := 2) rfl ?_); refine box_event ?hg (N := 2) ?hd (cs := #[.int .i64 a0_0, .slice A0_1 l0_1.length c0_1]) (t := 30) ?hr ?_; (case hd => rfl); (case hg => rfl); (case hr => first | (go_simp; done) | (go_simp; rfl)); intro gb101 hg w5 hbox hb; have BK101 := am (hbox); have GW101 := am ((Q26 : w.heap.size ≤ gb101)); have GE101 := am ((Q26 : w.heap.size ≤ gb101)); replace HB := am (below_step (Q0 HB) hb); clear hb hbox hg; have hcz6_0 : w5.cell? ⟨gb101, 0, none⟩ = some (.int .i64 a0_0) := (blk_cell BK101.out 0).trans rfl; have hcz6_1 : w5.cell? ⟨gb101, 1, none⟩ = some (.slice A0_1 l0_1.length c0_1) := (blk_cell BK101.out 1).trans rfl; have hfz6_0 := blk_frozen BK101.out 0; have hfz6_1 := blk_frozen BK101.out 1) | ((with_reducible refine gate_callee (f := 160) rfl ?_); refine goesL_ (some 7) rfl rfl Try.func160 (by kernel_rfl) rfl #[.agg #[.int .i64 a0_0, .slice A0_1 l0_1.length c0_1], .int .i64 a1] rfl Q3 ?_; (with_reducible refine (spec_l2Neighbors.calls k a0_0 _ _ l0_1 a1 t102 _ ?side1 ?side2 A3.out).mono ?_); (case side1 => exact (Q6 HR0_1 HB)); (case side2 => exact HC0_1.out); rintro e w7 ⟨v103, rfl, ho0, hb⟩; refine ⟨_, rfl, ?_⟩; have HO104 := am (Kd.R_lower ho0 (below_size (Q0 HB))); replace BK101 := am (blk_below (g := gb101) (o := .cells #[.int .i64 a0_0, .slice A0_1 l0_1.length c0_1] 30 (0, 0)) (Q1 BK101) hb); replace HB := am (below_step (Q0 HB) hb); (try clear hb); (try clear hb2); (try clear hk); (try clear hi); (try clear ho0); obtain ⟨Ao8, co8, eo8⟩ := Kd.R_slice HO104.out; subst eo8) | ((with_reducible refine gate_callee (f := 207) rfl ?_); refine goesL_ (some 9) rfl rfl Try.func207 (by kernel_rfl) rfl #[.slice Ao8 t102.length co8, .int .i64 a1] rfl Q3 ?_; (with_reducible refine (spec_l1Put.calls k _ _ t102 a1 t105 _ ?side1 ?side2 A4.out).mono ?_); (case side1 => exact (Q15 HO104)); (case side2 => exact (Kd.R_reads' HO104.out).2.1); rintro e w9 ⟨v106, rfl, ho0, hb⟩; refine ⟨_, rfl, ?_⟩; have HO107 := am (Kd.R_lower (Kd.R_new' ho0 (Kd.R_lt (Q2 HO104))) (below_size (Q0 HB))); replace HO104 := am (Kd.R_elder' (Q2 HO104) (Kd.R_base ho0) hb); replace BK101 := am (blk_below (g := gb101) (o := .cells #[.int .i64 a0_0, .slice A0_1 l0_1.length c0_1] 30 (0, 0)) (Q1 BK101) hb); replace HB := am (below_step (Q0 HB) hb); (try clear hb); (try clear hb2); (try clear hk); (try clear hi); (try clear ho0)))
 go_ret
 exact ⟨_, Q9, Q42 HO107, Q0 HB⟩
/-! ### spec_l4Less: function 210 -/
def spec_l4Less.l0 : Nat → List Int → List Int → Int → Option (Bool)
 | 0, _, _, _ => none
 | k + 1, x0, x1, x5 => if x5 < (x0.length : Int) then (if 0 ≤ x5 then (if x5 < (x1.length : Int) then (if (rd x0 x5) = (rd x1 x5) then (spec_l4Less.l0 k x0 x1 (wrap64 (x5 + 1))) else (some (decide ((rd x0 x5) < (rd x1 x5))))) else (none)) else (none)) else (some false)
def spec_l4Less.f (k : Nat) (l0 : List Int) (l1 : List Int) : Option (Bool) := spec_l4Less.l0 k l0 l1 0
theorem spec_l4Less.mono_l : ∀ k, (∀ y0 y1 y2, LeO (spec_l4Less.l0 k y0 y1 y2) (spec_l4Less.l0 (k + 1) y0 y1 y2))
 | 0 => fun _ _ _ r h => by simp [spec_l4Less.l0] at h
 | k + 1 => by
  have ih0 := spec_l4Less.mono_l k
  all_goals
   intros
   first | unfold spec_l4Less.l0
   repeat' first | (with_reducible first | exact ih0 _ _ _ | exact LeO.refl _ | exact LeO.none _ | refine LeO.ite ?_ ?_ | refine LeO.bind ?_ (fun _ => ?_))
theorem spec_l4Less.mono : ∀ a0 a1 k, LeO (spec_l4Less.f k a0 a1) (spec_l4Less.f (k + 1) a0 a1) := by
 intro a0 a1 k
 have ih0 := spec_l4Less.mono_l k
 unfold spec_l4Less.f
 repeat' first | (with_reducible first | exact ih0 _ _ _ | exact LeO.refl _ | exact LeO.none _ | refine LeO.ite ?_ ?_ | refine LeO.bind ?_ (fun _ => ?_))
set_option maxHeartbeats 8000000 in
set_option maxRecDepth 100000 in
theorem spec_l4Less.calls (k : Nat) (A0 : Option Addr) (c0 : Nat) (l0 : List Int) (A1 : Option Addr) (c1 : Nat) (l1 : List Int) (r : Bool) (w : World) (hr0 : Kd.C (Kd.int .i64) w A0 l0.length l0) (hc0 : l0.length ≤ c0) (hr1 : Kd.C (Kd.int .i64) w A1 l1.length l1) (hc1 : l1.length ≤ c1) (h : spec_l4Less.f k l0 l1 = some r) :
  Calls Try.prog 210 #[.slice A0 l0.length c0, .slice A1 l1.length c1] w fun e w' => e = .returned (.bool r) ∧ Drawn0 w w' := by
 have HR0 := Aside0.mk hr0
 have HC0 := Aside0.mk hc0
 clear hr0 hc0
 have HR1 := Aside0.mk hr1
 have HC1 := Aside0.mk hc1
 clear hr1 hc1
 have H : (spec_l4Less.l0 k l0 l1 0) = some r := h
 clear h
 have H' := Aside0.mk H
 clear H
 go_enter Try.func210, Try.ntmps210
 go_wp2
 repeat (go_quiet (fail); try go_wp2)
 go_loopg [5] k (fun kq v5 w' => ∃ (x5_1 : Int), v5 = .int .i64 x5_1 ∧ Aside0 (spec_l4Less.l0 kq l0 l1 x5_1 = some r) ∧ Aside0 (kq ≤ k) ∧ Drawn0 w w')
 case atStart => exact ⟨(0), Q8, H', ⟨Nat.le_refl _⟩, Q14⟩
 case round =>
  clear H'
  try clear c1
  try clear c2
  try clear p2
  obtain ⟨x5_1, rfl, HA, HK1, ⟨m1, rfl⟩⟩ := hrel
  cases gk with
  | zero => exact absurd HA.out (by simp [spec_l4Less.l0])
  | succ k1 =>
   have H := HA.out; clear HA
   simp only [spec_l4Less.l0] at H
   by_cases c3 : x5_1 < (l0.length : Int)
   ·rw [if_pos c3] at H
    have c3b0 := decide_eq_true c3; clear c3
    by_cases c4 : 0 ≤ x5_1
    ·rw [if_pos c4] at H
     have c4b0 := decide_eq_true c4; clear c4
     by_cases c5 : x5_1 < (l1.length : Int)
     ·rw [if_pos c5] at H
      have c5b0 := decide_eq_true c5; clear c5; have HU6 := Aside0.mk H; clear H; have p101 : 0 ≤ (x5_1 : Int) := of_decide_eq_true Q4; have q101 : x5_1 < (l0.length : Int) := of_decide_eq_true Q4; obtain ⟨ad101, e101, hx101_0⟩ := Kd.at_int HR0.out x5_1 p101 q101
      cases e101
      replace p101 := eq_true p101; replace q101 := eq_true q101; have p102 : 0 ≤ (x5_1 : Int) := of_decide_eq_true Q4; have q102 : x5_1 < (l1.length : Int) := of_decide_eq_true Q4; obtain ⟨ad102, e102, hx102_0⟩ := Kd.at_int HR1.out x5_1 p102 q102
      cases e102
      replace p102 := eq_true p102; replace q102 := eq_true q102
      go_upto_if 20 with (fail)
      repeat (go_quiet (fail); go_upto_if 20 with (fail))
      have H := HU6.out; clear HU6
      by_cases c7 : (rd l0 x5_1) = (rd l1 x5_1)
      ·rw [if_pos c7] at H
       have c7b0 := beq_iff_eq.mpr c7; have c7b1 := bne_eq_false_iff_eq.mpr c7; clear c7
       (first | rw [c7b0] | (simp only [i64_w, i32_w]; rw [c7b0]) | rw [c7b1] | skip)
       have H' := Aside0.mk H; clear H
       go_wp2
       repeat (go_quiet (fail); try go_wp2)
       go_roundg k1
       case measure => have := HK1.out; omega
       case rel => exact ⟨(wrap64 (x5_1 + 1)), Q8, H', ⟨Q39⟩, Q14⟩
      ·rw [if_neg c7] at H
       have c7b0 := beq_eq_false_iff_ne.mpr c7; have c7b1 := bne_iff_ne.mpr c7
       (first | rw [c7b0] | (simp only [i64_w, i32_w]; rw [c7b0]) | rw [c7b1] | skip)
       obtain rfl := Option.some.inj H; have p103 : 0 ≤ (x5_1 : Int) := of_decide_eq_true Q4; have q103 : x5_1 < (l0.length : Int) := of_decide_eq_true Q4; obtain ⟨ad103, e103, hx103_0⟩ := Kd.at_int HR0.out x5_1 p103 q103; obtain rfl : ad101 = ad103 := (by injection e103); replace p103 := eq_true p103; replace q103 := eq_true q103; have p104 : 0 ≤ (x5_1 : Int) := of_decide_eq_true Q4; have q104 : x5_1 < (l1.length : Int) := of_decide_eq_true Q4; obtain ⟨ad104, e104, hx104_0⟩ := Kd.at_int HR1.out x5_1 p104 q104; obtain rfl : ad102 = ad104 := (by injection e104); replace p104 := eq_true p104; replace q104 := eq_true q104
       go_wp2
       repeat (go_quiet (fail); try go_wp2)
       go_ret
       exact ⟨Q8, Q14⟩
     ·rw [if_neg c5] at H
      exact absurd H (by simp)
    ·rw [if_neg c4] at H
     exact absurd H (by simp)
   ·rw [if_neg c3] at H
    have c3b0 := decide_eq_false c3; clear c3; obtain rfl := Option.some.inj H
    go_wp2
    repeat (go_quiet (fail); try go_wp2)
    go_ret
    exact ⟨Q8, Q14⟩
end Go.Proofs.Ytcjddikalgnhpaa.P
