/- Functions of the program as Lean functions, that each call comes to what they say, and what holds of them; part 11 of 14; no conditions beyond those that each theorem names. -/
import Derived.Test.YtcjddikalgnhpaaK1
import Derived.Test.YtcjddikalgnhpaaK5
import Derived.Test.YtcjddikalgnhpaaK7
import Derived.Test.YtcjddikalgnhpaaK9
import Derived.Test.YtcjddikalgnhpaaK10
namespace Go.Proofs.Ytcjddikalgnhpaa.P
open Go.RowKit Go.Proofs.YtcjddikalgnhpaaW.PrintWords Go.Proofs.YtcjddikalgnhpaaW.PrintLast Go.Proofs.YtcjddikalgnhpaaW.PrintMore
attribute [local go_sem] max2_int min2_int max_two min_two max_three min_three max_four min_four   -- for this text's walks alone
set_option linter.unusedVariables false
set_option linter.unusedSimpArgs false
/-! ### spec_l2Induced: function 126 -/
mutual
def spec_l2Induced.l0 : Nat → List Int → Int → Int → List (S71) → Int → List (S71) → Option (Int × (List (S71)))
 | 0, _, _, _, _, _, _ => none
 | k + 1, x1, x6, x102000, x102001, x107000, x107001 => if x6 < (x1.length : Int) then (spec_l2Induced.l1 k x1 x6 (wrap64 (x6 + 1)) x102000 x102001 x107000 x107001) else (some (x107000, x107001))
def spec_l2Induced.l1 : Nat → List Int → Int → Int → Int → List (S71) → Int → List (S71) → Option (Int × (List (S71)))
 | 0, _, _, _, _, _, _, _ => none
 | k + 1, x1, x6, x7, x102000, x102001, x107000, x107001 => if x7 < (x1.length : Int) then (if 0 ≤ x6 then (if x6 < (x1.length : Int) then (if 0 ≤ x7 then ((spec_l2Near.f k x102000 x102001 (rd x1 x6) (rd x1 x7)).bind fun t109 => (if t109 = true then (if x107001.length < 8796093022208 then (spec_l2Induced.l1 k x1 x6 (wrap64 (x7 + 1)) x102000 x102001 x107000 (x107001 ++ [(⟨x6, x7⟩ : S71)])) else (none)) else (spec_l2Induced.l1 k x1 x6 (wrap64 (x7 + 1)) x102000 x102001 x107000 x107001))) else (none)) else (none)) else (none)) else (spec_l2Induced.l0 k x1 (wrap64 (x6 + 1)) x102000 x102001 x107000 x107001)
end
def spec_l2Induced.f (k : Nat) (a0_0 : Int) (l0_1 : List (S71)) (l1 : List Int) : Option (Int × (List (S71))) := spec_l2Induced.l0 k l1 0 a0_0 l0_1 (l1.length : Int) (([] : List (S71)))
theorem spec_l2Induced.mono_l : ∀ k, (∀ y0 y1 y2 y3 y4 y5, LeO (spec_l2Induced.l0 k y0 y1 y2 y3 y4 y5) (spec_l2Induced.l0 (k + 1) y0 y1 y2 y3 y4 y5)) ∧ (∀ y0 y1 y2 y3 y4 y5 y6, LeO (spec_l2Induced.l1 k y0 y1 y2 y3 y4 y5 y6) (spec_l2Induced.l1 (k + 1) y0 y1 y2 y3 y4 y5 y6))
 | 0 => ⟨fun _ _ _ _ _ _ r h => by simp [spec_l2Induced.l0] at h, fun _ _ _ _ _ _ _ r h => by simp [spec_l2Induced.l1] at h⟩
 | k + 1 => by
  obtain ⟨ih0, ih1⟩ := spec_l2Induced.mono_l k; refine ⟨?_, ?_⟩
  all_goals
   intros
   first | unfold spec_l2Induced.l0 | unfold spec_l2Induced.l1
   repeat' first | (with_reducible first | exact ih0 _ _ _ _ _ _ | exact ih1 _ _ _ _ _ _ _ | exact spec_l2Near.mono _ _ _ _ _ | exact LeO.refl _ | exact LeO.none _ | refine LeO.ite ?_ ?_ | refine LeO.bind ?_ (fun _ => ?_))
theorem spec_l2Induced.mono : ∀ a0 a1 a2 k, LeO (spec_l2Induced.f k a0 a1 a2) (spec_l2Induced.f (k + 1) a0 a1 a2) := by
 intro a0 a1 a2 k
 obtain ⟨ih0, ih1⟩ := spec_l2Induced.mono_l k
 unfold spec_l2Induced.f
 repeat' first | (with_reducible first | exact ih0 _ _ _ _ _ _ | exact ih1 _ _ _ _ _ _ _ | exact spec_l2Near.mono _ _ _ _ _ | exact LeO.refl _ | exact LeO.none _ | refine LeO.ite ?_ ?_ | refine LeO.bind ?_ (fun _ => ?_))
def spec_l2Induced.T8 : Bool × List (List Nat × List Nat) := (true, [([], []), ([], []), ([], []), ([1, 2], [1, 2]), ([3], [3]), ([], []), ([], []), ([5, 6], [5, 6]), ([7], [7]), ([0, 4, 8], [0, 4, 8])])
def spec_l2Induced.B8 : List Nat := [0, 0, 0, 6, 14, 0, 0, 96, 224, 511]
theorem spec_l2Induced.tab8 : rtab .any (opsOf Try.f126 8) = spec_l2Induced.T8 := by kernel_rfl
theorem spec_l2Induced.bits8 : waitsOk spec_l2Induced.T8.2 spec_l2Induced.B8 = true := by kernel_rfl
set_option maxHeartbeats 8000000 in
set_option maxRecDepth 100000 in
theorem spec_l2Induced.calls (k : Nat) (a0_0 : Int) (A0_1 : Option Addr) (c0_1 : Nat) (l0_1 : List (S71)) (A1 : Option Addr) (c1 : Nat) (l1 : List Int) (r1 : Int) (r2 : List (S71)) (w : World) (hr0_1 : Kd.C k71 w A0_1 l0_1.length l0_1) (hc0_1 : l0_1.length ≤ c0_1) (hr1 : Kd.C (Kd.int .i64) w A1 l1.length l1) (hc1 : l1.length ≤ c1) (h : spec_l2Induced.f k a0_0 l0_1 l1 = some (r1, r2)) :
  Calls Try.prog 126 #[.agg #[.int .i64 a0_0, .slice A0_1 l0_1.length c0_1], .slice A1 l1.length c1] w fun e w' => ∃ v1_ : Value, e = .returned (.agg #[.int .i64 r1, v1_]) ∧ Kd.R k71 71 w' w.heap.size (fun _ => True) v1_ r2 ∧ Below w.heap.size w w' := by
 have hu30 := Try.underlying30
 have hu71 := Try.underlying71
 have HR0_1 := Aside0.mk hr0_1
 have HC0_1 := Aside0.mk hc0_1
 clear hr0_1 hc0_1
 have HR1 := Aside0.mk hr1
 have HC1 := Aside0.mk hc1
 clear hr1 hc1
 have HB := am (Below.refl w.heap.size w)
 have H : (spec_l2Induced.l0 k l1 0 a0_0 l0_1 (l1.length : Int) (([] : List (S71)))) = some (r1, r2) := h
 clear h
 obtain ⟨y103, hy103⟩ : ∃ y_ : List (S71), y_ = (([] : List (S71))) := ⟨_, rfl⟩
 replace H : (spec_l2Induced.l0 k l1 0 a0_0 l0_1 (l1.length : Int) y103) = some (r1, r2) := RH hy103 H
 have Ny103 := Aside0.mk hy103
 clear hy103
 have H' := Aside0.mk H
 clear H
 go_enter Try.func126, Try.ntmps126
 go_wp2_with (first | ((with_reducible refine gate_dst (N := 2) rfl ?_); refine box_event ?hg (N := 2) ?hd (cs := #[.int .i64 a0_0, .slice A0_1 l0_1.length c0_1]) (t := 30) ?hr ?_; (case hd => rfl); (case hg => rfl); (case hr => first | (go_simp; done) | (go_simp; rfl)); intro gb101 hg w3 hbox hb; have BK101 := am (hbox); have GW101 := am ((Q25 : w.heap.size ≤ gb101)); have GE101 := am ((Q25 : w.heap.size ≤ gb101)); replace HB := am (below_step (Q1 HB) hb); clear hb hbox hg) | ((with_reducible refine gate_dst (N := 4) rfl ?_); refine box_event ?hg (N := 4) ?hd (cs := #[.int .i64 0, .slice none 0 0]) (t := 30) ?hr ?_; (case hd => rfl); (case hg => rfl); (case hr => first | (go_simp; done) | (go_simp; rfl)); intro gb102 hg w4 hbox hb; have BK102 := am (hbox); have GW102 := am ((Q25 : w.heap.size ≤ gb102)); have GE102 := am ((Q25 : w.heap.size ≤ gb102)); replace HB := am (below_step (Q1 HB) hb); have NB101_102 := am ((Q28 : gb101 ≠ gb102)); have NB102_101 := am ((Q29 : gb102 ≠ gb101)); replace BK101 := am (blk_below (g := gb101) (o := .cells #[.int .i64 a0_0, .slice A0_1 l0_1.length c0_1] 30 (0, 0)) (Q0 BK101) hb); clear hb hbox hg) | ((with_reducible refine gate_dst (N := 10) rfl ?_); refine Kd.R_lit k71 _ 71 ?hg (N := 10) ?hd (xs := ([] : List (S71))) (inner := []) (ok := fun _ => True) (okp := fun _ => True) ?hr ?hp (fun _ hk => hk) trivial (Below.refl _ _) (Nat.le_refl _) (by simp) ?_; (case hd => rfl); (case hg => rfl); (case hr => first | (go_simp; done) | (go_simp; rfl)); (case hp => exact (Reps.none _ _)); intro v104 w5 ho6 hb hg_ hnew_; clear hg_ hnew_; (first | rw [← Ny103.out] at ho6 | (simp only [Int.reduceToNat] at ho6; rw [← Ny103.out] at ho6)); have HO105 := am (Kd.R_lower ho6 (below_size (Q1 HB))); replace BK101 := am (blk_below (g := gb101) (o := .cells #[.int .i64 a0_0, .slice A0_1 l0_1.length c0_1] 30 (0, 0)) (Q0 BK101) hb); replace BK102 := am (blk_below (g := gb102) (o := .cells #[.int .i64 0, .slice none 0 0] 30 (0, 0)) (Q0 BK102) hb); replace HB := am (below_step (Q1 HB) hb); clear hb ho6; obtain ⟨Ao7, co7, eo7⟩ := Kd.R_slice HO105.out; subst eo7) | ((with_reducible refine gate_dst (N := 5) rfl ?_); refine box_event ?hg (N := 5) ?hd (cs := #[.int .i64 0, .slice none 0 0]) (t := 30) ?hr ?_; (case hd => rfl); (case hg => rfl); (case hr => first | (go_simp; done) | (go_simp; rfl)); intro gb106 hg w8 hbox hb; replace HO105 := am (Kd.R_below (Q6 HO105) hb); have BK106 := am (hbox); have GW106 := am ((Q25 : w.heap.size ≤ gb106)); have GE106 := am ((Q25 : w.heap.size ≤ gb106)); replace HB := am (below_step (Q1 HB) hb); have NB101_106 := am ((Q28 : gb101 ≠ gb106)); have NB106_101 := am ((Q29 : gb106 ≠ gb101)); replace BK101 := am (blk_below (g := gb101) (o := .cells #[.int .i64 a0_0, .slice A0_1 l0_1.length c0_1] 30 (0, 0)) (Q0 BK101) hb); have NB102_106 := am ((Q161 : gb102 ≠ gb106)); have NB106_102 := am ((Q162 : gb106 ≠ gb102)); replace BK102 := am (blk_below (g := gb102) (o := .cells #[.int .i64 0, .slice none 0 0] 30 (0, 0)) (Q0 BK102) hb); clear hb hbox hg; have hnb9 := NB106_101.out; have hnc9 := NB101_106.out; have hnb10 := NB106_102.out; have hnc10 := NB102_106.out; have hcz11_0 : w8.cell? ⟨gb106, 0, none⟩ = some (.int .i64 0) := (blk_cell BK106.out 0).trans rfl; have hcz11_1 : w8.cell? ⟨gb106, 1, none⟩ = some (.slice none 0 0) := (blk_cell BK106.out 1).trans rfl; have hfz11_0 := blk_frozen BK106.out 0; have hfz11_1 := blk_frozen BK106.out 1))
 go_loopg [6] k (fun kq v6 w' => ∃ (x6_1 : Int) (x107001_1 : List (S71)) (u107001 : Value), v6 = .int .i64 x6_1 ∧ Aside0 (spec_l2Induced.l0 kq l1 x6_1 a0_0 l0_1 (l1.length : Int) x107001_1 = some (r1, r2)) ∧ Aside0 (kq ≤ k) ∧ Aside0 (Kd.R k71 71 w' w.heap.size (fun _ => True) u107001 x107001_1) ∧ Aside0 (w'.heap[gb101]? = some (.cells #[.int .i64 a0_0, (.slice A0_1 l0_1.length c0_1)] 30 (0, 0))) ∧ Aside0 (w'.heap[gb102]? = some (.cells #[.int .i64 0, (.slice none 0 0)] 30 (0, 0))) ∧ Aside0 (w'.heap[gb106]? = some (.cells #[.int .i64 (l1.length : Int), u107001] 30 (0, 0))) ∧ Aside0 (Below w.heap.size w w'))
 case atStart => exact ⟨(0), (y103), (.slice Ao7 y103.length co7), Q11, H', ⟨Nat.le_refl _⟩, ⟨by (with_reducible repeat (first | apply Kd.R_alloc | apply Kd.R_drewN | apply Kd.R_drew)); exact Kd.R_mono (Kd.R_far (p := ⟨gb106, 1, none⟩) (Kd.R_far (p := ⟨gb106, 0, none⟩) (Kd.R_types HO105.out BK106.out (by decide)) (fun _ hk => hk.2) (.int .i64 (l1.length : Int))) (fun _ hk => hk.2) (.slice Ao7 y103.length co7)) (fun _ hk => trivial)⟩, ⟨Q2 NB101_106 BK101⟩, ⟨Q2 NB102_106 BK102⟩, ⟨Q97 BK106⟩, ⟨Q5 HB GE106⟩⟩
 case round =>
  clear H'
  try clear c1
  try clear p2
  try clear c9
  try clear c10
  try clear hcz11_0
  try clear hcz11_1
  try clear hfz11_0
  try clear hfz11_1
  obtain ⟨x6_1, x107001_1, u107001, rfl, HA, HK1, HO_107001, BK101, BK102, BK106, HB⟩ := hrel
  cases gk with
  | zero => exact absurd HA.out (by simp [spec_l2Induced.l0])
  | succ k1 =>
   have H := HA.out; clear HA
   simp only [spec_l2Induced.l0] at H
   by_cases c12 : x6_1 < (l1.length : Int)
   ·rw [if_pos c12] at H
    have c12b0 := decide_eq_true c12; clear c12; have H' := Aside0.mk H; clear H
    go_wp2
    go_loopg [7] k1 (fun kq v7 w' => ∃ (x7_2 : Int) (x107001_2 : List (S71)) (u107001 : Value), v7 = .int .i64 x7_2 ∧ Aside0 (spec_l2Induced.l1 kq l1 x6_1 x7_2 a0_0 l0_1 (l1.length : Int) x107001_2 = some (r1, r2)) ∧ Aside0 (kq ≤ k1) ∧ Aside0 (Kd.R k71 71 w' w.heap.size (fun _ => True) u107001 x107001_2) ∧ Aside0 (w'.heap[gb101]? = some (.cells #[.int .i64 a0_0, (.slice A0_1 l0_1.length c0_1)] 30 (0, 0))) ∧ Aside0 (w'.heap[gb102]? = some (.cells #[.int .i64 0, (.slice none 0 0)] 30 (0, 0))) ∧ Aside0 (w'.heap[gb106]? = some (.cells #[.int .i64 (l1.length : Int), u107001] 30 (0, 0))) ∧ Aside0 (Below w.heap.size w w'))
    case atStart => exact ⟨(wrap64 (x6_1 + 1)), (x107001_1), (u107001), Q11, H', ⟨Nat.le_refl _⟩, ⟨Q99⟩, ⟨Q0 BK101⟩, ⟨Q0 BK102⟩, ⟨Q0 BK106⟩, ⟨Q1 HB⟩⟩
    case round =>
     clear H'
     try clear c1
     try clear p2
     try clear p6
     try clear c9
     try clear c10
     try clear c12
     try clear c12b0
     try clear hcz11_0
     try clear hcz11_1
     try clear hfz11_0
     try clear hfz11_1
     try clear p2
     obtain ⟨x7_2, x107001_2, u107001, rfl, HA, HK2, HO_107001, BK101, BK102, BK106, HB⟩ := hrel
     cases gk with
     | zero => exact absurd HA.out (by simp [spec_l2Induced.l1])
     | succ k2 =>
      have H := HA.out; clear HA
      simp only [spec_l2Induced.l1] at H
      by_cases c13 : x7_2 < (l1.length : Int)
      ·rw [if_pos c13] at H
       have c13b0 := decide_eq_true c13; clear c13
       by_cases c14 : 0 ≤ x6_1
       ·rw [if_pos c14] at H
        have c14b0 := decide_eq_true c14; clear c14
        by_cases c15 : x6_1 < (l1.length : Int)
        ·rw [if_pos c15] at H
         have c15b0 := decide_eq_true c15; clear c15
         by_cases c16 : 0 ≤ x7_2
         ·rw [if_pos c16] at H
          have c16b0 := decide_eq_true c16; clear c16; replace H := (ob H); obtain ⟨t109, A170, H⟩ := H; (try dsimp only at H); have A17 := Aside0.mk A170; clear A170; have HU18 := Aside0.mk H; clear H
          try go_wp2
          replace HO_107001 := am (Kd.R_drew HO_107001.out); replace BK101 := am (blk_drew BK101.out); replace BK102 := am (blk_drew BK102.out); replace BK106 := am (blk_drew BK106.out); replace HB := am (below_drew1 HB.out); have p107 : 0 ≤ (x6_1 : Int) := of_decide_eq_true Q12; have q107 : x6_1 < (l1.length : Int) := of_decide_eq_true Q12; obtain ⟨ad107, e107, hx107_0⟩ := Kd.at_int HR1.out x6_1 p107 q107; have hw107_0 := hx107_0
          cases e107
          replace hx107_0 := (HB.out.cell (World.block_lt_of_cell? w _ hx107_0)).trans hx107_0; replace p107 := eq_true p107; replace q107 := eq_true q107; have p108 : 0 ≤ (x7_2 : Int) := of_decide_eq_true Q12; have q108 : x7_2 < (l1.length : Int) := of_decide_eq_true Q12; obtain ⟨ad108, e108, hx108_0⟩ := Kd.at_int HR1.out x7_2 p108 q108; have hw108_0 := hx108_0; obtain rfl : ad107 = ad108 := (by injection e108); replace hx108_0 := (HB.out.cell (World.block_lt_of_cell? w _ hx108_0)).trans hx108_0; replace p108 := eq_true p108; replace q108 := eq_true q108; refine start_ (n := 10) (S := fun w' => w'.cell? ⟨gb101, 0, none⟩ = some (.int .i64 a0_0) ∧ w'.cell? ⟨gb101, 1, none⟩ = some (.slice A0_1 l0_1.length c0_1) ∧ w'.cell? (ad107.add (x6_1).toNat) = some (.int .i64 (rd l1 x6_1)) ∧ w'.cell? (ad107.add (x7_2).toNat) = some (.int .i64 (rd l1 x7_2))) (ds := []) #[false, false, false, false, false, false, false, false, false, false] (by kernel_rfl) rfl rfl ⟨(blk_cell BK101.out 0).trans rfl, (blk_cell BK101.out 1).trans rfl, ((HB.out.cell (World.block_lt_of_cell? w _ hw107_0)).trans hw107_0), ((HB.out.cell (World.block_lt_of_cell? w _ hw108_0)).trans hw108_0)⟩ (fun hHeld => ?_); refine with_tabW spec_l2Induced.tab8 spec_l2Induced.bits8 (fun HT_ HW_ => ?_); generalize wr.drew = w19 at HO_107001 BK101 BK102 BK106 HB hx107_0 hx108_0 hHeld ⊢; refine pq 1 27 rfl rfl HT_ ?_; refine pq 2 28 rfl rfl HT_ ?_; refine pq 3 29 rfl rfl HT_ ?_; refine pq 5 31 rfl rfl HT_ ?_; refine pq 6 32 rfl rfl HT_ ?_; refine pq 7 33 rfl rfl HT_ ?_; refine tq4 0 26 rfl rfl HT_ HW_ hHeld ?_; refine tq4 4 30 rfl rfl HT_ HW_ hHeld ?_; refine tq4 8 34 rfl rfl HT_ HW_ hHeld ?_; refine oq 9 35 rfl rfl HT_ (fun K hK => ?_); refine goes_ Try.func137 (by kernel_rfl) rfl #[.agg #[.int .i64 a0_0, .slice A0_1 l0_1.length c0_1], .int .i64 (rd l1 x6_1), .int .i64 (rd l1 x7_2)] (by rfl) rfl rfl Q3 ?_
          with_reducible refine (spec_l2Near.calls k2 a0_0 _ _ l0_1 (rd l1 x6_1) (rd l1 x7_2) t109 _ ?side1 ?side2 A17.out).mono ?_
          (case side1 => exact (Q9 HR0_1 HB))
          (case side2 => exact HC0_1.out)
          rintro e w20 ⟨rfl, hb⟩; refine ⟨_, rfl, ?_⟩; replace HO_107001 := am (Kd.R_below Q99 hb); replace BK101 := am (blk_below (g := gb101) (o := .cells #[.int .i64 a0_0, .slice A0_1 l0_1.length c0_1] 30 (0, 0)) (Q0 BK101) hb); replace BK102 := am (blk_below (g := gb102) (o := .cells #[.int .i64 0, .slice none 0 0] 30 (0, 0)) (Q0 BK102) hb); replace BK106 := am (blk_below (g := gb106) (o := .cells #[.int .i64 (l1.length : Int), u107001] 30 (0, 0)) (Q0 BK106) hb); replace HB := am (below_step (Q1 HB) hb); (try clear hb); (try clear hb2); (try clear hk); (try clear hi); refine hK.out _ _ ⟨(blk_cell BK101.out 0).trans rfl, (blk_cell BK101.out 1).trans rfl, ((HB.out.cell (World.block_lt_of_cell? w _ hw107_0)).trans hw107_0), ((HB.out.cell (World.block_lt_of_cell? w _ hw108_0)).trans hw108_0)⟩ (fun hHeld => ?_); clear hK K; refine norm_ (a' := ?_) ?_ ?_
          rotate_left
          ·show Act.put _ (some 35) _ = _
           simp only [Act.put, List.setIfInBounds_toArray, List.set_cons_zero, List.set_cons_succ, i64_w, i32_w]
           rfl
          refine done_ (done_of HT_.out (by kernel_rfl)) ?_
          go_upto_if 35 with (fail)
          have H := HU18.out; clear HU18
          by_cases c21 : t109 = true
          ·subst c21
           have H1 : (if x107001_2.length < 8796093022208 then (spec_l2Induced.l1 k2 l1 x6_1 (wrap64 (x7_2 + 1)) a0_0 l0_1 (l1.length : Int) (x107001_2 ++ [(⟨x6_1, x7_2⟩ : S71)])) else (none)) = some (r1, r2) := by rw [if_pos rfl] at H; exact H
           clear H; have H := H1; clear H1
           by_cases c22 : x107001_2.length < 8796093022208
           ·rw [if_pos c22] at H
            have LMc22 := Aside0.mk c22; clear c22; obtain ⟨y110, hy110⟩ : ∃ y_ : List (S71), y_ = (x107001_2 ++ [(⟨x6_1, x7_2⟩ : S71)]) := ⟨_, rfl⟩; replace H : (spec_l2Induced.l1 k2 l1 x6_1 (wrap64 (x7_2 + 1)) a0_0 l0_1 (l1.length : Int) y110) = some (r1, r2) := RH hy110 H; have Ny110 := Aside0.mk hy110; clear hy110; have H' := Aside0.mk H; clear H; have hnb23 := NB106_101.out; have hnc23 := NB101_106.out; have hnb24 := NB106_102.out; have hnc24 := NB102_106.out; have hcz25_0 : w20.cell? ⟨gb106, 0, none⟩ = some (.int .i64 (l1.length : Int)) := (blk_cell BK106.out 0).trans rfl; have hcz25_1 : w20.cell? ⟨gb106, 1, none⟩ = some (u107001) := (blk_cell BK106.out 1).trans rfl; have hfz25_0 := blk_frozen BK106.out 0; have hfz25_1 := blk_frozen BK106.out 1
            go_wp2_with (first | ((with_reducible refine gate_builtin (b := .append) (xs := #[.tmp 37, .tmp 41]) rfl ?_); at_builtin; refine Kd.R_append k71 (w0 := w) w.heap.size rfl (.tmp 37) (.tmp 41) 22 71 (.agg #[(.int .i64 0), (.int .i64 0)]) 16 rfl Try.underlying22 info71 rfl (by decide) (by omega) u107001 x107001_2 (⟨x6_1, x7_2⟩ : S71) [.int .i64 x6_1, .int .i64 x7_2] (fun _ => True) (fun _ => False) rfl rfl ?aP (fun _ hk => hk.elim) ?aF ?aO ?aB ?aS ?aL ?_; (case aP => exact k71_mkM _ _ _ (⟨x6_1, x7_2⟩ : S71)); (case aB => exact (Q1 HB)); (case aF => exact (fun _ _ => trivial)); (case aO => exact Q99); (case aS => exact (below_size (Q1 HB))); (case aL => have := LMc22.out; omega); intro v111 w26 ho hb hg hat; rw [← Ny110.out] at ho; replace BK101 := am (blk_grown (g := gb101) (o := .cells #[.int .i64 a0_0, .slice A0_1 l0_1.length c0_1] 30 (0, 0)) (Q0 BK101) hg (Kd.R_ne HO_107001.out BK101.out (by decide))); replace BK102 := am (blk_grown (g := gb102) (o := .cells #[.int .i64 0, .slice none 0 0] 30 (0, 0)) (Q0 BK102) hg (Kd.R_ne HO_107001.out BK102.out (by decide))); replace BK106 := am (blk_grown (g := gb106) (o := .cells #[.int .i64 (l1.length : Int), u107001] 30 (0, 0)) (Q0 BK106) hg (Kd.R_ne HO_107001.out BK106.out (by decide))); replace HB := am (hb); have HO112 := am (ho); clear HO_107001; clear ho hb hg hat; obtain ⟨Ao27, co27, eo27⟩ := Kd.R_slice HO112.out; subst eo27; have hcz28_0 : w26.cell? ⟨gb106, 0, none⟩ = some (.int .i64 (l1.length : Int)) := (blk_cell BK106.out 0).trans rfl; have hcz28_1 : w26.cell? ⟨gb106, 1, none⟩ = some (u107001) := (blk_cell BK106.out 1).trans rfl; have hfz28_0 := blk_frozen BK106.out 0; have hfz28_1 := blk_frozen BK106.out 1))
            go_roundg k2
            case measure => have := HK1.out; have := HK2.out; omega
            case rel => exact ⟨(wrap64 (x7_2 + 1)), (y110), (.slice Ao27 y110.length co27), Q11, H', ⟨Q111⟩, ⟨by (with_reducible repeat (first | apply Kd.R_alloc | apply Kd.R_drewN | apply Kd.R_drew)); exact Kd.R_mono (Kd.R_far (p := ⟨gb106, 1, none⟩) (Kd.R_types HO112.out BK106.out (by decide)) (fun _ hk => hk.2) (.slice Ao27 y110.length co27)) (fun _ hk => trivial)⟩, ⟨Q27 NB101_106 BK101⟩, ⟨Q27 NB102_106 BK102⟩, ⟨by (with_reducible repeat (first | refine blk_drewN ?_ _ | refine blk_drew ?_ | refine blk_alloc ?_ _)); refine blk_put (cs := #[.int .i64 (l1.length : Int), u107001]) ?_ 1 _ rfl; (with_reducible repeat (first | refine blk_drewN ?_ _ | refine blk_drew ?_ | refine blk_alloc ?_ _)); exact BK106.out⟩, ⟨Q5 HB GE106⟩⟩
           ·rw [if_neg c22] at H
            exact absurd H (by simp)
          ·replace c21 := Bool.eq_false_iff.mpr c21
           subst c21; have H1 : (spec_l2Induced.l1 k2 l1 x6_1 (wrap64 (x7_2 + 1)) a0_0 l0_1 (l1.length : Int) x107001_2) = some (r1, r2) := by rw [if_neg (show ¬ (false = true) by decide)] at H; exact H
           clear H; have H := H1; clear H1; have H' := Aside0.mk H; clear H
           go_wp2
           go_roundg k2
           case measure => have := HK1.out; have := HK2.out; omega
           case rel => exact ⟨(wrap64 (x7_2 + 1)), (x107001_2), (u107001), Q11, H', ⟨Q111⟩, ⟨Q99⟩, ⟨Q0 BK101⟩, ⟨Q0 BK102⟩, ⟨Q0 BK106⟩, ⟨Q1 HB⟩⟩
         ·rw [if_neg c16] at H
          exact absurd H (by simp)
        ·rw [if_neg c15] at H
         exact absurd H (by simp)
       ·rw [if_neg c14] at H
        exact absurd H (by simp)
      ·rw [if_neg c13] at H
       have c13b0 := decide_eq_false c13; clear c13; have H' := Aside0.mk H; clear H
       go_wp2
       go_roundg k2
       case measure => have := HK1.out; have := HK2.out; omega
       case rel => exact ⟨(wrap64 (x6_1 + 1)), (x107001_2), (u107001), Q11, H', ⟨Q111⟩, ⟨Q99⟩, ⟨Q0 BK101⟩, ⟨Q0 BK102⟩, ⟨Q0 BK106⟩, ⟨Q1 HB⟩⟩
   ·rw [if_neg c12] at H
    have c12b0 := decide_eq_false c12; clear c12
    simp only [Option.some.injEq, Prod.mk.injEq] at H
    obtain ⟨rfl, rfl⟩ := H; have hnb29 := NB106_101.out; have hnc29 := NB101_106.out; have hnb30 := NB106_102.out; have hnc30 := NB102_106.out; have hcz31_0 : wr.cell? ⟨gb106, 0, none⟩ = some (.int .i64 (l1.length : Int)) := (blk_cell BK106.out 0).trans rfl; have hcz31_1 : wr.cell? ⟨gb106, 1, none⟩ = some (u107001) := (blk_cell BK106.out 1).trans rfl; have hfz31_0 := blk_frozen BK106.out 0; have hfz31_1 := blk_frozen BK106.out 1; have hnb32 := NB102_101.out; have hnc32 := NB101_102.out; have hcz33_0 : wr.cell? ⟨gb102, 0, none⟩ = some (.int .i64 0) := (blk_cell BK102.out 0).trans rfl; have hcz33_1 : wr.cell? ⟨gb102, 1, none⟩ = some (.slice none 0 0) := (blk_cell BK102.out 1).trans rfl; have hfz33_0 := blk_frozen BK102.out 0; have hfz33_1 := blk_frozen BK102.out 1; obtain ⟨Ao34, co34, eo34⟩ := Kd.R_slice HO_107001.out; subst eo34
    go_wp2
    refine bodyPost_ret (results_cell_row rfl _ _ gb102 30 #[.int .i64 (l1.length : Int), .slice Ao34 x107001_1.length co34] (0, 0) _ rfl (Q97 BK102) Try.underlying30 rfl (by kernel_rfl)) rfl ?_; exact ⟨_, Q10, by (with_reducible repeat (first | apply Kd.R_alloc | apply Kd.R_drewN | apply Kd.R_drew)); exact Kd.R_mono (Kd.R_far (p := ⟨gb102, 1, none⟩) (Kd.R_far (p := ⟨gb102, 0, none⟩) (Kd.R_types HO_107001.out BK102.out (by decide)) (fun _ hk => hk.2) (.int .i64 (l1.length : Int))) (fun _ hk => hk.2) (.slice Ao34 x107001_1.length co34)) (fun _ hk => trivial), Q5 HB GE102⟩
/-! ### spec_l2Without: function 127 -/
def spec_l2Without.l0 : Nat → List Int → Int → List Int → Int → Option (List Int)
 | 0, _, _, _, _ => none
 | k + 1, x0, x1, x5, x6 => if x6 < (x0.length : Int) then (if 0 ≤ x6 then (if (rd x0 x6) = x1 then (spec_l2Without.l0 k x0 x1 x5 (wrap64 (x6 + 1))) else (if x5.length < 17592186044416 then (spec_l2Without.l0 k x0 x1 (x5 ++ [rd x0 x6]) (wrap64 (x6 + 1))) else (none))) else (none)) else (some x5)
def spec_l2Without.f (k : Nat) (l0 : List Int) (a1 : Int) : Option (List Int) := spec_l2Without.l0 k l0 a1 (([] : List Int)) 0
theorem spec_l2Without.mono_l : ∀ k, (∀ y0 y1 y2 y3, LeO (spec_l2Without.l0 k y0 y1 y2 y3) (spec_l2Without.l0 (k + 1) y0 y1 y2 y3))
 | 0 => fun _ _ _ _ r h => by simp [spec_l2Without.l0] at h
 | k + 1 => by
  have ih0 := spec_l2Without.mono_l k
  all_goals
   intros
   first | unfold spec_l2Without.l0
   repeat' first | (with_reducible first | exact ih0 _ _ _ _ | exact LeO.refl _ | exact LeO.none _ | refine LeO.ite ?_ ?_ | refine LeO.bind ?_ (fun _ => ?_))
theorem spec_l2Without.mono : ∀ a0 a1 k, LeO (spec_l2Without.f k a0 a1) (spec_l2Without.f (k + 1) a0 a1) := by
 intro a0 a1 k
 have ih0 := spec_l2Without.mono_l k
 unfold spec_l2Without.f
 repeat' first | (with_reducible first | exact ih0 _ _ _ _ | exact LeO.refl _ | exact LeO.none _ | refine LeO.ite ?_ ?_ | refine LeO.bind ?_ (fun _ => ?_))
set_option maxHeartbeats 8000000 in
set_option maxRecDepth 100000 in
theorem spec_l2Without.calls (k : Nat) (A0 : Option Addr) (c0 : Nat) (l0 : List Int) (a1 : Int) (r : List Int) (w : World) (hr0 : Kd.C (Kd.int .i64) w A0 l0.length l0) (hc0 : l0.length ≤ c0) (h : spec_l2Without.f k l0 a1 = some r) :
  Calls Try.prog 127 #[.slice A0 l0.length c0, .int .i64 a1] w fun e w' => ∃ v0_ : Value, e = .returned (v0_) ∧ Kd.R (Kd.int .i64) 3 w' w.heap.size (fun _ => True) v0_ r ∧ Below w.heap.size w w' := by
 have HR0 := Aside0.mk hr0
 have HC0 := Aside0.mk hc0
 clear hr0 hc0
 have HB := am (Below.refl w.heap.size w)
 have H : (spec_l2Without.l0 k l0 a1 (([] : List Int)) 0) = some r := h
 clear h
 obtain ⟨y101, hy101⟩ : ∃ y_ : List Int, y_ = (([] : List Int)) := ⟨_, rfl⟩
 replace H : (spec_l2Without.l0 k l0 a1 y101 0) = some r := RH hy101 H
 have Ny101 := Aside0.mk hy101
 clear hy101
 have H' := Aside0.mk H
 clear H
 go_enter Try.func127, Try.ntmps127
 go_wp2_with (first | ((with_reducible refine gate_dst (N := 7) rfl ?_); refine Kd.R_lit (Kd.int .i64) _ 3 ?hg (N := 7) ?hd (xs := ([] : List Int)) (inner := []) (ok := fun _ => True) (okp := fun _ => True) ?hr ?hp (fun _ hk => hk) trivial (Below.refl _ _) (Nat.le_refl _) (by simp) ?_; (case hd => rfl); (case hg => rfl); (case hr => first | (go_simp; done) | (go_simp; rfl)); (case hp => exact (Reps.none _ _)); intro v102 w3 ho4 hb hg_ hnew_; clear hg_ hnew_; (first | rw [← Ny101.out] at ho4 | (simp only [Int.reduceToNat] at ho4; rw [← Ny101.out] at ho4)); have HO103 := am (Kd.R_lower ho4 (below_size (Q1 HB))); replace HB := am (below_step (Q1 HB) hb); clear hb ho4))
 go_loopg [5, 6] k (fun kq v5 v6 w' => ∃ (x5_1 : List Int) (x6_1 : Int), v6 = .int .i64 x6_1 ∧ Aside0 (spec_l2Without.l0 kq l0 a1 x5_1 x6_1 = some r) ∧ Aside0 (kq ≤ k) ∧ Aside0 (Kd.R (Kd.int .i64) 3 w' w.heap.size (fun _ => True) v5 x5_1) ∧ Aside0 (Below w.heap.size w w'))
 case atStart => exact ⟨(y101), (0), Q11, H', ⟨Nat.le_refl _⟩, ⟨Q6 HO103⟩, ⟨Q1 HB⟩⟩
 case round =>
  clear H'
  try clear c1
  try clear p2
  obtain ⟨x5_1, x6_1, rfl, HA, HK1, HO_5, HB⟩ := hrel
  cases gk with
  | zero => exact absurd HA.out (by simp [spec_l2Without.l0])
  | succ k1 =>
   have H := HA.out; clear HA
   simp only [spec_l2Without.l0] at H
   by_cases c5 : x6_1 < (l0.length : Int)
   ·rw [if_pos c5] at H
    have c5b0 := decide_eq_true c5; clear c5
    by_cases c6 : 0 ≤ x6_1
    ·rw [if_pos c6] at H
     have c6b0 := decide_eq_true c6; clear c6; have HU7 := Aside0.mk H; clear H; have p104 : 0 ≤ (x6_1 : Int) := of_decide_eq_true Q12; have q104 : x6_1 < (l0.length : Int) := of_decide_eq_true Q12; obtain ⟨ad104, e104, hx104_0⟩ := Kd.at_int HR0.out x6_1 p104 q104
     cases e104
     replace hx104_0 := (HB.out.cell (World.block_lt_of_cell? w _ hx104_0)).trans hx104_0; replace p104 := eq_true p104; replace q104 := eq_true q104
     go_upto_if 19 with (fail)
     have H := HU7.out; clear HU7
     by_cases c8 : (rd l0 x6_1) = a1
     ·rw [if_pos c8] at H
      have c8b0 := beq_iff_eq.mpr c8; have c8b1 := bne_eq_false_iff_eq.mpr c8; clear c8
      (first | rw [c8b0] | (simp only [i64_w, i32_w]; rw [c8b0]) | rw [c8b1] | skip)
      have H' := Aside0.mk H; clear H
      go_wp2
      go_roundg k1
      case measure => have := HK1.out; omega
      case rel => exact ⟨(x5_1), (wrap64 (x6_1 + 1)), Q11, H', ⟨Q95⟩, ⟨Q55⟩, ⟨Q1 HB⟩⟩
     ·rw [if_neg c8] at H
      have c8b0 := beq_eq_false_iff_ne.mpr c8; have c8b1 := bne_iff_ne.mpr c8
      (first | rw [c8b0] | (simp only [i64_w, i32_w]; rw [c8b0]) | rw [c8b1] | skip)
      by_cases c9 : x5_1.length < 17592186044416
      ·rw [if_pos c9] at H
       have LMc9 := Aside0.mk c9; clear c9; obtain ⟨y106, hy106⟩ : ∃ y_ : List Int, y_ = (x5_1 ++ [rd l0 x6_1]) := ⟨_, rfl⟩; replace H : (spec_l2Without.l0 k1 l0 a1 y106 (wrap64 (x6_1 + 1))) = some r := RH hy106 H; have Ny106 := Aside0.mk hy106; clear hy106; have H' := Aside0.mk H; clear H; have p105 : 0 ≤ (x6_1 : Int) := of_decide_eq_true Q12; have q105 : x6_1 < (l0.length : Int) := of_decide_eq_true Q12; obtain ⟨ad105, e105, hx105_0⟩ := Kd.at_int HR0.out x6_1 p105 q105; obtain rfl : ad104 = ad105 := (by injection e105); replace hx105_0 := (HB.out.cell (World.block_lt_of_cell? w _ hx105_0)).trans hx105_0; replace p105 := eq_true p105; replace q105 := eq_true q105
       go_wp2_with (first | ((with_reducible refine gate_builtin (b := .append) (xs := #[.tmp 20, .tmp 25]) rfl ?_); at_builtin; refine Kd.R_append (Kd.int .i64) (w0 := w) w.heap.size rfl (.tmp 20) (.tmp 25) 25 3 (.int .i64 0) 8 rfl Try.underlying25 info3 rfl (by decide) (by omega) u5 x5_1 (rd l0 x6_1) [.int .i64 (rd l0 x6_1)] (fun _ => True) (fun _ => False) rfl rfl ?aP (fun _ hk => hk.elim) ?aF ?aO ?aB ?aS ?aL ?_; (case aP => exact rfl); (case aB => exact (Q1 HB)); (case aF => exact (fun _ _ => trivial)); (case aO => exact Q55); (case aS => exact (below_size (Q1 HB))); (case aL => have := LMc9.out; omega); intro v107 w10 ho hb hg hat; rw [← Ny106.out] at ho; replace HB := am (hb); have HO108 := am (ho); clear HO_5; clear ho hb hg hat))
       go_roundg k1
       case measure => have := HK1.out; omega
       case rel => exact ⟨(y106), (wrap64 (x6_1 + 1)), Q11, H', ⟨Q95⟩, ⟨Q6 HO108⟩, ⟨Q1 HB⟩⟩
      ·rw [if_neg c9] at H
       exact absurd H (by simp)
    ·rw [if_neg c6] at H
     exact absurd H (by simp)
   ·rw [if_neg c5] at H
    have c5b0 := decide_eq_false c5; clear c5; obtain rfl := Option.some.inj H
    go_wp2
    go_ret
    exact ⟨_, Q10, Q55, Q1 HB⟩
/-! ### spec_RemoveNode: function 36 -/
def spec_RemoveNode.j0 : Nat → Int → Bool → Int → List (S71) → Option (Int × (List (S71)) × Bool)
 | 0, _, _, _, _ => none
 | k + 1, x1, x14, x102000, x102001 => if x14 = true then (some (0, ([] : List (S71)), false)) else ((spec_l2All.f k x102000 x102001).bind fun t105 => ((spec_l2Without.f k t105 x1).bind fun t108 => ((spec_l2Induced.f k x102000 x102001 t108).bind fun bt111 => (some (bt111.1, bt111.2, true)))))
def spec_RemoveNode.f (k : Nat) (a0_0 : Int) (l0_1 : List (S71)) (a1 : Int) : Option (Int × (List (S71)) × Bool) := (spec_l2Good.f k a0_0 l0_1).bind fun t103 => (if t103 = true then ((spec_l2Node.f a0_0 l0_1 a1).bind fun t104 => (spec_RemoveNode.j0 k a1 (!t104) a0_0 l0_1)) else (spec_RemoveNode.j0 k a1 true a0_0 l0_1))
theorem spec_RemoveNode.mono_l : ∀ k, (∀ y0 y1 y2 y3, LeO (spec_RemoveNode.j0 k y0 y1 y2 y3) (spec_RemoveNode.j0 (k + 1) y0 y1 y2 y3))
 | 0 => fun _ _ _ _ r h => by simp [spec_RemoveNode.j0] at h
 | k + 1 => by
  have ih0 := spec_RemoveNode.mono_l k
  all_goals
   intros
   first | unfold spec_RemoveNode.j0
   repeat' first | (with_reducible first | exact ih0 _ _ _ _ | exact spec_l2All.mono _ _ _ | exact spec_l2Good.mono _ _ _ | exact spec_l2Induced.mono _ _ _ _ | exact spec_l2Without.mono _ _ _ | exact LeO.refl _ | exact LeO.none _ | refine LeO.ite ?_ ?_ | refine LeO.bind ?_ (fun _ => ?_))
theorem spec_RemoveNode.mono : ∀ a0 a1 a2 k, LeO (spec_RemoveNode.f k a0 a1 a2) (spec_RemoveNode.f (k + 1) a0 a1 a2) := by
 intro a0 a1 a2 k
 have ih0 := spec_RemoveNode.mono_l k
 unfold spec_RemoveNode.f
 repeat' first | (with_reducible first | exact ih0 _ _ _ _ | exact spec_l2All.mono _ _ _ | exact spec_l2Good.mono _ _ _ | exact spec_l2Induced.mono _ _ _ _ | exact spec_l2Without.mono _ _ _ | exact LeO.refl _ | exact LeO.none _ | refine LeO.ite ?_ ?_ | refine LeO.bind ?_ (fun _ => ?_))
def spec_RemoveNode.T3 : Bool × List (List Nat × List Nat) := (true, [([], []), ([], []), ([1], [1]), ([], []), ([2, 3, 2], [2, 3]), ([0, 4, 4], [0, 4]), ([5, 5, 0, 1, 2, 3, 4, 5], [5]), ([6, 0, 1, 2, 3, 4, 5, 6], [])])
def spec_RemoveNode.B3 : List Nat := [0, 0, 2, 0, 14, 31, 63, 127]
theorem spec_RemoveNode.tab3 : rtab .any (opsOf Try.f36 3) = spec_RemoveNode.T3 := by kernel_rfl
theorem spec_RemoveNode.bits3 : waitsOk spec_RemoveNode.T3.2 spec_RemoveNode.B3 = true := by kernel_rfl
set_option maxHeartbeats 8000000 in
set_option maxRecDepth 100000 in
theorem spec_RemoveNode.calls (k : Nat) (a0_0 : Int) (A0_1 : Option Addr) (c0_1 : Nat) (l0_1 : List (S71)) (a1 : Int) (r1 : Int) (r2 : List (S71)) (r3 : Bool) (w : World) (hr0_1 : Kd.C k71 w A0_1 l0_1.length l0_1) (hc0_1 : l0_1.length ≤ c0_1) (h : spec_RemoveNode.f k a0_0 l0_1 a1 = some (r1, r2, r3)) :
  Calls Try.prog 36 #[.agg #[.int .i64 a0_0, .slice A0_1 l0_1.length c0_1], .int .i64 a1] w fun e w' => ∃ v1_ : Value, e = .returned (.tuple #[.agg #[.int .i64 r1, v1_], .bool r3]) ∧ Kd.R k71 71 w' w.heap.size (fun _ => True) v1_ r2 ∧ Below w.heap.size w w' := by
 have hu30 := Try.underlying30
 have HR0_1 := Aside0.mk hr0_1
 have HC0_1 := Aside0.mk hc0_1
 clear hr0_1 hc0_1
 have HB := am (Below.refl w.heap.size w)
 have H : ((spec_l2Good.f k a0_0 l0_1).bind fun t103 => (if t103 = true then ((spec_l2Node.f a0_0 l0_1 a1).bind fun t104 => (spec_RemoveNode.j0 k a1 (!t104) a0_0 l0_1)) else (spec_RemoveNode.j0 k a1 true a0_0 l0_1))) = some (r1, r2, r3) := h
 clear h
 have HU3 := Aside0.mk H
 clear H
 go_enter Try.func36, Try.ntmps36
 go_upto_region 1 with (first | ((with_reducible refine gate_dst (N := 2) rfl ?_); refine box_event ?hg (N := 2) ?hd (cs := #[.int .i64 a0_0, .slice A0_1 l0_1.length c0_1]) (t := 30) ?hr ?_; (case hd => rfl); (case hg => rfl); (case hr => first | (go_simp; done) | (go_simp; rfl)); intro gb101 hg w4 hbox hb; have BK101 := am (hbox); have GW101 := am ((Q25 : w.heap.size ≤ gb101)); have GE101 := am ((Q25 : w.heap.size ≤ gb101)); replace HB := am (below_step (Q1 HB) hb); clear hb hbox hg) | ((with_reducible refine gate_dst (N := 4) rfl ?_); refine box_event ?hg (N := 4) ?hd (cs := #[.int .i64 0, .slice none 0 0]) (t := 30) ?hr ?_; (case hd => rfl); (case hg => rfl); (case hr => first | (go_simp; done) | (go_simp; rfl)); intro gb102 hg w5 hbox hb; have BK102 := am (hbox); have GW102 := am ((Q25 : w.heap.size ≤ gb102)); have GE102 := am ((Q25 : w.heap.size ≤ gb102)); replace HB := am (below_step (Q1 HB) hb); have NB101_102 := am ((Q28 : gb101 ≠ gb102)); have NB102_101 := am ((Q29 : gb102 ≠ gb101)); replace BK101 := am (blk_below (g := gb101) (o := .cells #[.int .i64 a0_0, .slice A0_1 l0_1.length c0_1] 30 (0, 0)) (Q0 BK101) hb); clear hb hbox hg))
 (try simp only [Act.put, List.setIfInBounds_toArray, List.set_cons_zero, List.set_cons_succ])
 have H := HU3.out
 clear HU3
 have HC6 := Aside0.mk H
 clear H
 go_upto_region 1 with (fail)
 go_cut [14] (fun v14 wc => ∃ (kq : Nat) (x14_5 : Bool), v14 = .bool x14_5 ∧ Aside0 (spec_RemoveNode.j0 kq a1 x14_5 a0_0 l0_1 = some (r1, r2, r3)) ∧ Aside0 (kq ≤ k) ∧ Aside0 (wc.heap[gb101]? = some (.cells #[.int .i64 a0_0, (.slice A0_1 l0_1.length c0_1)] 30 (0, 0))) ∧ Aside0 (wc.heap[gb102]? = some (.cells #[.int .i64 0, (.slice none 0 0)] 30 (0, 0))) ∧ Aside0 (Below w.heap.size w wc))
 case first =>
  have H := HC6.out; clear HC6; replace H := (ob H); obtain ⟨t103, A70, H⟩ := H; (try dsimp only at H); have A7 := Aside0.mk A70; clear A70
  by_cases c8 : t103 = true
  ·subst c8
   have H1 : ((spec_l2Node.f a0_0 l0_1 a1).bind fun t104 => (spec_RemoveNode.j0 k a1 (!t104) a0_0 l0_1)) = some (r1, r2, r3) := by rw [if_pos rfl] at H; exact H
   clear H; have H := H1; clear H1; replace H := (ob H); obtain ⟨t104, A90, H⟩ := H; (try dsimp only at H); have A9 := Aside0.mk A90; clear A90; have H' := Aside0.mk H; clear H; have hnb10 := NB101_102.out; have hnc10 := NB102_101.out; have hcz11_0 : w5.cell? ⟨gb101, 0, none⟩ = some (.int .i64 a0_0) := (blk_cell BK101.out 0).trans rfl; have hcz11_1 : w5.cell? ⟨gb101, 1, none⟩ = some (.slice A0_1 l0_1.length c0_1) := (blk_cell BK101.out 1).trans rfl; have hfz11_0 := blk_frozen BK101.out 0; have hfz11_1 := blk_frozen BK101.out 1
   go_wp2_with (first | ((with_reducible refine gate_callee (f := 120) rfl ?_); refine goesL_ (some 7) rfl rfl Try.func120 (by kernel_rfl) rfl #[.agg #[.int .i64 a0_0, .slice A0_1 l0_1.length c0_1]] rfl Q3 ?_; (with_reducible refine (spec_l2Good.calls k a0_0 _ _ l0_1 true _ ?side1 ?side2 A7.out).mono ?_); (case side1 => exact (Q9 HR0_1 HB)); (case side2 => exact HC0_1.out); rintro e w12 ⟨rfl, hb⟩; refine ⟨_, rfl, ?_⟩; replace BK101 := am (blk_below (g := gb101) (o := .cells #[.int .i64 a0_0, .slice A0_1 l0_1.length c0_1] 30 (0, 0)) (Q0 BK101) hb); replace BK102 := am (blk_below (g := gb102) (o := .cells #[.int .i64 0, .slice none 0 0] 30 (0, 0)) (Q0 BK102) hb); replace HB := am (below_step (Q1 HB) hb); (try clear hb); (try clear hb2); (try clear hk); (try clear hi); have hcz13_0 : w12.cell? ⟨gb101, 0, none⟩ = some (.int .i64 a0_0) := (blk_cell BK101.out 0).trans rfl; have hcz13_1 : w12.cell? ⟨gb101, 1, none⟩ = some (.slice A0_1 l0_1.length c0_1) := (blk_cell BK101.out 1).trans rfl; have hfz13_0 := blk_frozen BK101.out 0; have hfz13_1 := blk_frozen BK101.out 1) | (go_at_call 125; (with_reducible refine (spec_l2Node.calls a0_0 _ _ l0_1 a1 t104 _ ?side1 ?side2 A9.out).mono ?_); (case side1 => exact (Q9 HR0_1 HB)); (case side2 => exact HC0_1.out); rintro e w14 ⟨rfl, hb⟩; replace BK101 := am (blk_below (g := gb101) (o := .cells #[.int .i64 a0_0, .slice A0_1 l0_1.length c0_1] 30 (0, 0)) (Q0 BK101) hb); replace BK102 := am (blk_below (g := gb102) (o := .cells #[.int .i64 0, .slice none 0 0] 30 (0, 0)) (Q0 BK102) hb); replace HB := am (below_step (Q1 HB) hb); (try clear hb); (try clear hb2); (try clear hk); (try clear hi)))
   go_meet
   case rel => exact ⟨_, (!t104), Q11, H', ⟨Q94⟩, ⟨Q0 BK101⟩, ⟨Q0 BK102⟩, ⟨Q1 HB⟩⟩
  ·replace c8 := Bool.eq_false_iff.mpr c8
   subst c8; have H1 : (spec_RemoveNode.j0 k a1 true a0_0 l0_1) = some (r1, r2, r3) := by rw [if_neg (show ¬ (false = true) by decide)] at H; exact H
   clear H; have H := H1; clear H1; have H' := Aside0.mk H; clear H; have hnb15 := NB101_102.out; have hnc15 := NB102_101.out; have hcz16_0 : w5.cell? ⟨gb101, 0, none⟩ = some (.int .i64 a0_0) := (blk_cell BK101.out 0).trans rfl; have hcz16_1 : w5.cell? ⟨gb101, 1, none⟩ = some (.slice A0_1 l0_1.length c0_1) := (blk_cell BK101.out 1).trans rfl; have hfz16_0 := blk_frozen BK101.out 0; have hfz16_1 := blk_frozen BK101.out 1
   go_wp2_with (first | ((with_reducible refine gate_callee (f := 120) rfl ?_); refine goesL_ (some 7) rfl rfl Try.func120 (by kernel_rfl) rfl #[.agg #[.int .i64 a0_0, .slice A0_1 l0_1.length c0_1]] rfl Q3 ?_; (with_reducible refine (spec_l2Good.calls k a0_0 _ _ l0_1 false _ ?side1 ?side2 A7.out).mono ?_); (case side1 => exact (Q9 HR0_1 HB)); (case side2 => exact HC0_1.out); rintro e w17 ⟨rfl, hb⟩; refine ⟨_, rfl, ?_⟩; replace BK101 := am (blk_below (g := gb101) (o := .cells #[.int .i64 a0_0, .slice A0_1 l0_1.length c0_1] 30 (0, 0)) (Q0 BK101) hb); replace BK102 := am (blk_below (g := gb102) (o := .cells #[.int .i64 0, .slice none 0 0] 30 (0, 0)) (Q0 BK102) hb); replace HB := am (below_step (Q1 HB) hb); (try clear hb); (try clear hb2); (try clear hk); (try clear hi)))
   go_meet
   case rel => exact ⟨_, (true), Q11, H', ⟨Q94⟩, ⟨Q0 BK101⟩, ⟨Q0 BK102⟩, ⟨Q1 HB⟩⟩
 case rest =>
  clear HC6
  try clear c1
  try clear p2
  try clear c3
  try clear c8
  try clear c10
  try clear c12
  try clear c15
  try clear hcz11_0
  try clear hcz11_1
  try clear hcz13_0
  try clear hcz13_1
  try clear hcz16_0
  try clear hcz16_1
  try clear hfz11_0
  try clear hfz11_1
  try clear hfz13_0
  try clear hfz13_1
  try clear hfz16_0
  try clear hfz16_1
  obtain ⟨kq, x14_5, rfl, HA, HJ5, BK101, BK102, HB⟩ := hcut
  cases kq with
  | zero => exact absurd HA.out (by simp [spec_RemoveNode.j0])
  | succ kj5 =>
   have H := HA.out; clear HA
   simp only [spec_RemoveNode.j0] at H
   by_cases c18 : x14_5 = true
   ·subst c18
    have H1 : (some (0, ([] : List (S71)), false)) = some (r1, r2, r3) := by rw [if_pos rfl] at H; exact H
    clear H; have H := H1; clear H1
    simp only [Option.some.injEq, Prod.mk.injEq] at H
    obtain ⟨rfl, rfl, rfl⟩ := H; have hnb19 := NB102_101.out; have hnc19 := NB101_102.out; have hcz20_0 : wc.cell? ⟨gb102, 0, none⟩ = some (.int .i64 0) := (blk_cell BK102.out 0).trans rfl; have hcz20_1 : wc.cell? ⟨gb102, 1, none⟩ = some (.slice none 0 0) := (blk_cell BK102.out 1).trans rfl; have hfz20_0 := blk_frozen BK102.out 0; have hfz20_1 := blk_frozen BK102.out 1
    go_wp2
    refine bodyPost_ret (results_ct rfl _ _ gb102 30 #[.int .i64 0, .slice none 0 0] (0, 0) _ rfl (Q26 BK102) Try.underlying30 rfl (by kernel_rfl)) rfl ?_; exact ⟨_, Q10, Q43, Q5 HB GE102⟩
   ·replace c18 := Bool.eq_false_iff.mpr c18
    subst c18; have H1 : ((spec_l2All.f kj5 a0_0 l0_1).bind fun t105 => ((spec_l2Without.f kj5 t105 a1).bind fun t108 => ((spec_l2Induced.f kj5 a0_0 l0_1 t108).bind fun bt111 => (some (bt111.1, bt111.2, true))))) = some (r1, r2, r3) := by rw [if_neg (show ¬ (false = true) by decide)] at H; exact H
    clear H; have H := H1; clear H1; replace H := (ob H); obtain ⟨t105, A210, H⟩ := H; (try dsimp only at H); have A21 := Aside0.mk A210; clear A210; replace H := (ob H); obtain ⟨t108, A220, H⟩ := H; (try dsimp only at H); have A22 := Aside0.mk A220; clear A220; replace H := (ob H); obtain ⟨⟨t111, t112⟩, A230, H⟩ := H; (try dsimp only at H); have A23 := Aside0.mk A230; clear A230
    simp only [Option.some.injEq, Prod.mk.injEq] at H
    obtain ⟨rfl, rfl, rfl⟩ := H
    try go_wp2
    replace BK101 := am (blk_drew BK101.out); replace BK102 := am (blk_drew BK102.out); replace HB := am (below_drew1 HB.out); refine start_ (n := 8) (S := fun w' => w'.cell? ⟨gb101, 0, none⟩ = some (.int .i64 a0_0) ∧ w'.cell? ⟨gb101, 1, none⟩ = some (.slice A0_1 l0_1.length c0_1)) (ds := []) #[false, false, false, false, false, false, false, false] (by kernel_rfl) rfl rfl ⟨(blk_cell BK101.out 0).trans rfl, (blk_cell BK101.out 1).trans rfl⟩ (fun hHeld => ?_); refine with_tabW spec_RemoveNode.tab3 spec_RemoveNode.bits3 (fun HT_ HW_ => ?_); generalize wc.drew = w24 at BK101 BK102 HB hHeld ⊢; refine pq 3 19 rfl rfl HT_ ?_; refine tq2 0 16 rfl rfl HT_ HW_ hHeld ?_; refine tq2 1 17 rfl rfl HT_ HW_ hHeld ?_; refine oq 2 18 rfl rfl HT_ (fun K hK => ?_); refine goes_ Try.func128 (by kernel_rfl) rfl #[.agg #[.int .i64 a0_0, .slice A0_1 l0_1.length c0_1]] (by rfl) rfl rfl Q3 ?_
    with_reducible refine (spec_l2All.calls kj5 a0_0 _ _ l0_1 t105 _ ?side1 ?side2 A21.out).mono ?_
    (case side1 => exact (Q9 HR0_1 HB))
    (case side2 => exact HC0_1.out)
    rintro e w25 ⟨v106, rfl, ho0, hb⟩; refine ⟨_, rfl, ?_⟩; have HO107 := am (Kd.R_lower ho0 (below_size (Q1 HB))); replace BK101 := am (blk_below (g := gb101) (o := .cells #[.int .i64 a0_0, .slice A0_1 l0_1.length c0_1] 30 (0, 0)) (Q0 BK101) hb); replace BK102 := am (blk_below (g := gb102) (o := .cells #[.int .i64 0, .slice none 0 0] 30 (0, 0)) (Q0 BK102) hb); replace HB := am (below_step (Q1 HB) hb); (try clear hb); (try clear hb2); (try clear hk); (try clear hi); (try clear ho0); obtain ⟨Ao26, co26, eo26⟩ := Kd.R_slice HO107.out
    (first | subst eo26 | (injection eo26 with f1_ f2_ f3_; have f4_ := f1_.symm; have f5_ := f3_.symm; clear f1_ f2_ f3_; subst f4_; subst f5_))
    refine hK.out _ _ ⟨(blk_cell BK101.out 0).trans rfl, (blk_cell BK101.out 1).trans rfl⟩ (fun hHeld => ?_); clear hK K; refine norm_ (a' := ?_) ?_ ?_
    rotate_left
    ·show Act.put _ (some 18) _ = _
     simp only [Act.put, List.setIfInBounds_toArray, List.set_cons_zero, List.set_cons_succ, i64_w, i32_w]
     rfl
    refine oq 4 20 rfl rfl HT_ (fun K hK => ?_); refine goes_ Try.func127 (by kernel_rfl) rfl #[.slice Ao26 t105.length co26, .int .i64 a1] (by rfl) rfl rfl Q3 ?_
    with_reducible refine (spec_l2Without.calls kj5 _ _ t105 a1 t108 _ ?side1 ?side2 A22.out).mono ?_
    (case side1 => exact (Q36 HO107))
    (case side2 => exact (Kd.R_reads' HO107.out).2.1)
    rintro e w27 ⟨v109, rfl, ho0, hb⟩; refine ⟨_, rfl, ?_⟩; have HO110 := am (Kd.R_lower (Kd.R_new' ho0 (Kd.R_lt (Q6 HO107))) (below_size (Q1 HB))); replace HO107 := am (Kd.R_elder' (Q6 HO107) (Kd.R_base ho0) hb); replace BK101 := am (blk_below (g := gb101) (o := .cells #[.int .i64 a0_0, .slice A0_1 l0_1.length c0_1] 30 (0, 0)) (Q0 BK101) hb); replace BK102 := am (blk_below (g := gb102) (o := .cells #[.int .i64 0, .slice none 0 0] 30 (0, 0)) (Q0 BK102) hb); replace HB := am (below_step (Q1 HB) hb); (try clear hb); (try clear hb2); (try clear hk); (try clear hi); (try clear ho0); obtain ⟨Ao28, co28, eo28⟩ := Kd.R_slice HO110.out
    (first | subst eo28 | (injection eo28 with f1_ f2_ f3_; have f4_ := f1_.symm; have f5_ := f3_.symm; clear f1_ f2_ f3_; subst f4_; subst f5_))
    refine hK.out _ _ ⟨(blk_cell BK101.out 0).trans rfl, (blk_cell BK101.out 1).trans rfl⟩ (fun hHeld => ?_); clear hK K; refine norm_ (a' := ?_) ?_ ?_
    rotate_left
    ·show Act.put _ (some 20) _ = _
     simp only [Act.put, List.setIfInBounds_toArray, List.set_cons_zero, List.set_cons_succ, i64_w, i32_w]
     rfl
    refine oq 5 21 rfl rfl HT_ (fun K hK => ?_); refine goes_ Try.func126 (by kernel_rfl) rfl #[.agg #[.int .i64 a0_0, .slice A0_1 l0_1.length c0_1], .slice Ao28 t108.length co28] (by rfl) rfl rfl Q3 ?_
    with_reducible refine (spec_l2Induced.calls kj5 a0_0 _ _ l0_1 _ _ t108 t111 t112 _ ?side1 ?side2 ?side3 ?side4 A23.out).mono ?_
    (case side1 => exact (Q9 HR0_1 HB))
    (case side2 => exact HC0_1.out)
    (case side3 => exact (Q36 HO110))
    (case side4 => exact (Kd.R_reads' HO110.out).2.1)
    rintro e w29 ⟨v113, rfl, ho0, hb⟩; refine ⟨_, rfl, ?_⟩; replace HO107 := am (Kd.R_below (Q6 HO107) hb); replace HO110 := am (Kd.R_below (Q6 HO110) hb); have HO114 := am (Kd.R_lower ho0 (below_size (Q1 HB))); replace BK101 := am (blk_below (g := gb101) (o := .cells #[.int .i64 a0_0, .slice A0_1 l0_1.length c0_1] 30 (0, 0)) (Q0 BK101) hb); replace BK102 := am (blk_below (g := gb102) (o := .cells #[.int .i64 0, .slice none 0 0] 30 (0, 0)) (Q0 BK102) hb); replace HB := am (below_step (Q1 HB) hb); (try clear hb); (try clear hb2); (try clear hk); (try clear hi); (try clear ho0); obtain ⟨Ao31, co31, eo31⟩ := Kd.R_slice HO114.out
    (first | subst eo31 | (injection eo31 with f1_ f2_ f3_; have f4_ := f1_.symm; have f5_ := f3_.symm; clear f1_ f2_ f3_; subst f4_; subst f5_))
    refine hK.out _ _ ⟨(blk_cell BK101.out 0).trans rfl, (blk_cell BK101.out 1).trans rfl⟩ (fun hHeld => ?_); clear hK K; refine norm_ (a' := ?_) ?_ ?_
    rotate_left
    ·show Act.put _ (some 21) _ = _
     simp only [Act.put, List.setIfInBounds_toArray, List.set_cons_zero, List.set_cons_succ, i64_w, i32_w]
     rfl
    refine one_ (i := 6) (N := none) #[true, true, true, true, true, true, true, false] rfl rfl (one_of HT_.out (by kernel_rfl)) (by decide) (fun K hK => ?_); have hs30 : w29.cell? ⟨gb102, 0, none⟩ = some (.int .i64 0) := (blk_cell BK102.out 0).trans rfl; have hfs30 := blk_frozen BK102.out 0; have hns30_0 := NB101_102.out; have hms30_0 := NB102_101.out; have hs32 : w29.cell? ⟨gb102, 1, none⟩ = some (.slice none 0 0) := (blk_cell BK102.out 1).trans rfl; have hfs32 := blk_frozen BK102.out 1; have hns32_0 := NB101_102.out; have hms32_0 := NB102_101.out; refine skip_ (w1 := ?_) (by rfl) rfl ?_ ?_
    rotate_left
    ·go_simp
     rfl
    refine hK.out _ _ ⟨((cell_far (p := ⟨gb102, _, none⟩) NB101_102.out _).trans (((cell_far (p := ⟨gb102, _, none⟩) NB101_102.out _).trans (hHeld.1)))), ((cell_far (p := ⟨gb102, _, none⟩) NB101_102.out _).trans (((cell_far (p := ⟨gb102, _, none⟩) NB101_102.out _).trans (hHeld.2))))⟩ (fun hHeld => ?_); clear hK K; refine pq 7 5 rfl rfl HT_ ?_; refine done_ (done_of HT_.out (by kernel_rfl)) ?_
    try go_wp2
    refine bodyPost_ret (results_ct rfl _ _ gb102 30 #[.int .i64 t111, .slice Ao31 t112.length co31] (0, 0) _ rfl (by (with_reducible repeat (first | refine blk_drewN ?_ _ | refine blk_drew ?_ | refine blk_alloc ?_ _)); refine blk_put (cs := #[.int .i64 t111, .slice none 0 0]) ?_ 1 _ rfl; (with_reducible repeat (first | refine blk_drewN ?_ _ | refine blk_drew ?_ | refine blk_alloc ?_ _)); refine blk_put (cs := #[.int .i64 0, .slice none 0 0]) ?_ 0 _ rfl; (with_reducible repeat (first | refine blk_drewN ?_ _ | refine blk_drew ?_ | refine blk_alloc ?_ _)); exact BK102.out) Try.underlying30 rfl (by kernel_rfl)) rfl ?_; exact ⟨_, Q10, by (with_reducible repeat (first | apply Kd.R_alloc | apply Kd.R_drewN | apply Kd.R_drew)); exact Kd.R_mono (Kd.R_far (p := ⟨gb102, 1, none⟩) (Kd.R_far (p := ⟨gb102, 0, none⟩) (Kd.R_types HO114.out BK102.out (by decide)) (fun _ hk => hk.2) (.int .i64 t111)) (fun _ hk => hk.2) (.slice Ao31 t112.length co31)) (fun _ hk => trivial), Q5 HB GE102⟩
end Go.Proofs.Ytcjddikalgnhpaa.P
