/- Functions of the program as Lean functions, that each call comes to what they say, and what holds of them; part 6 of 9; no conditions beyond those that each theorem names. -/
import Derived.Test.YtcjddikalgnhpaaK1
import Derived.Test.YtcjddikalgnhpaaK3
import Derived.Test.YtcjddikalgnhpaaK4
import Derived.Test.YtcjddikalgnhpaaK5
namespace Go.Proofs.Ytcjddikalgnhpaa.P
open Go.RowKit Go.Proofs.YtcjddikalgnhpaaW.PrintWords Go.Proofs.YtcjddikalgnhpaaW.PrintLast Go.Proofs.YtcjddikalgnhpaaW.PrintMore
attribute [local go_sem] max2_int min2_int max_two min_two max_three min_three max_four min_four   -- for this text's walks alone
set_option linter.unusedVariables false
set_option linter.unusedSimpArgs false
/-! ### spec_l4Sorted: function 173 -/
mutual
def spec_l4Sorted.l0 : Nat → List Int → List Int → Int → Option (List Int)
 | 0, _, _, _ => none
 | k + 1, x0, x3, x4 => if x4 < (x0.length : Int) then (spec_l4Sorted.l1 k x0 x3 x4 0) else (some x3)
def spec_l4Sorted.l1 : Nat → List Int → List Int → Int → Int → Option (List Int)
 | 0, _, _, _, _ => none
 | k + 1, x0, x3, x4, x5 => if x5 < (x3.length : Int) then (if 0 ≤ x5 then (if 0 ≤ x4 then (if x4 < (x0.length : Int) then (if (rd x3 x5) ≤ (rd x0 x4) then (spec_l4Sorted.l1 k x0 x3 x4 (wrap64 (x5 + 1))) else ((some (([] : List Int) : List Int)).bind fun y106 => (if x5 ≤ (x3.length : Int) then ((some (x3.take (x5 : Int).toNat : List Int)).bind fun y109 => (if y106.length + y109.length < 17592186044416 then ((some (y106 ++ y109 : List Int)).bind fun y113 => ((some (([rd x0 x4] : List Int) : List Int)).bind fun y117 => (if y113.length + y117.length < 17592186044416 then ((some (y113 ++ y117 : List Int)).bind fun y120 => ((some (x3.drop (x5 : Int).toNat : List Int)).bind fun y123 => (if y120.length + y123.length < 17592186044416 then (spec_l4Sorted.l0 k x0 (y120 ++ y123) (wrap64 (x4 + 1))) else (none)))) else (none)))) else (none))) else (none)))) else (none)) else (none)) else (none)) else ((some (([] : List Int) : List Int)).bind fun y130 => (if 0 ≤ x5 then (if x5 ≤ (x3.length : Int) then ((some (x3.take (x5 : Int).toNat : List Int)).bind fun y133 => (if y130.length + y133.length < 17592186044416 then ((some (y130 ++ y133 : List Int)).bind fun y137 => (if 0 ≤ x4 then (if x4 < (x0.length : Int) then ((some (([rd x0 x4] : List Int) : List Int)).bind fun y141 => (if y137.length + y141.length < 17592186044416 then ((some (y137 ++ y141 : List Int)).bind fun y144 => ((some (x3.drop (x5 : Int).toNat : List Int)).bind fun y147 => (if y144.length + y147.length < 17592186044416 then (spec_l4Sorted.l0 k x0 (y144 ++ y147) (wrap64 (x4 + 1))) else (none)))) else (none))) else (none)) else (none))) else (none))) else (none)) else (none)))
end
def spec_l4Sorted.f (k : Nat) (l0 : List Int) : Option (List Int) := spec_l4Sorted.l0 k l0 (([] : List Int)) 0
theorem spec_l4Sorted.mono_l : ∀ k, (∀ y0 y1 y2, LeO (spec_l4Sorted.l0 k y0 y1 y2) (spec_l4Sorted.l0 (k + 1) y0 y1 y2)) ∧ (∀ y0 y1 y2 y3, LeO (spec_l4Sorted.l1 k y0 y1 y2 y3) (spec_l4Sorted.l1 (k + 1) y0 y1 y2 y3))
 | 0 => ⟨fun _ _ _ r h => by simp [spec_l4Sorted.l0] at h, fun _ _ _ _ r h => by simp [spec_l4Sorted.l1] at h⟩
 | k + 1 => by
  obtain ⟨ih0, ih1⟩ := spec_l4Sorted.mono_l k; refine ⟨?_, ?_⟩
  all_goals
   intros
   first | unfold spec_l4Sorted.l0 | unfold spec_l4Sorted.l1
   repeat' first | (with_reducible first | exact ih0 _ _ _ | exact ih1 _ _ _ _ | exact LeO.refl _ | exact LeO.none _ | refine LeO.ite ?_ ?_ | refine LeO.bind ?_ (fun _ => ?_))
theorem spec_l4Sorted.mono : ∀ a0 k, LeO (spec_l4Sorted.f k a0) (spec_l4Sorted.f (k + 1) a0) := by
 intro a0 k
 obtain ⟨ih0, ih1⟩ := spec_l4Sorted.mono_l k
 unfold spec_l4Sorted.f
 repeat' first | (with_reducible first | exact ih0 _ _ _ | exact ih1 _ _ _ _ | exact LeO.refl _ | exact LeO.none _ | refine LeO.ite ?_ ?_ | refine LeO.bind ?_ (fun _ => ?_))
def spec_l4Sorted.T6 : Bool × List (List Nat × List Nat) := (true, [([], []), ([], []), ([1], [1]), ([0, 2], [0, 2]), ([3], [3]), ([4], [4]), ([4], [4]), ([5, 6, 4], [4, 5, 6]), ([7, 4], [4, 7]), ([4], [4]), ([4], [4]), ([9, 10, 4], [4, 9, 10]), ([11, 4], [4, 11]), ([8, 12, 4], [4, 8, 12]), ([4, 13], [4, 13])])
def spec_l4Sorted.B6 : List Nat := [0, 0, 2, 7, 15, 31, 31, 127, 255, 31, 31, 1567, 3615, 8191, 16383]
theorem spec_l4Sorted.tab6 : rtab .any (opsOf Try.f173 6) = spec_l4Sorted.T6 := by kernel_rfl
theorem spec_l4Sorted.bits6 : waitsOk spec_l4Sorted.T6.2 spec_l4Sorted.B6 = true := by kernel_rfl
def spec_l4Sorted.T8 : Bool × List (List Nat × List Nat) := (true, [([], []), ([], []), ([], []), ([1, 2], [1, 2]), ([0, 3], [0, 3]), ([], []), ([], []), ([5, 6], [5, 6]), ([7], [7]), ([8], [8]), ([4, 9, 4], [4, 9]), ([], []), ([], []), ([11, 12], [11, 12]), ([10, 13, 10], [10, 13]), ([14, 14, 0, 1, 2, 3, 4, 5, 6, 7, 8, 9, 10, 11, 12, 13, 14], [1, 11, 14])])
def spec_l4Sorted.B8 : List Nat := [0, 0, 0, 6, 15, 0, 0, 96, 224, 480, 1023, 0, 0, 6144, 16383, 32767]
theorem spec_l4Sorted.tab8 : rtab .any (opsOf Try.f173 8) = spec_l4Sorted.T8 := by kernel_rfl
theorem spec_l4Sorted.bits8 : waitsOk spec_l4Sorted.T8.2 spec_l4Sorted.B8 = true := by kernel_rfl
set_option maxHeartbeats 8000000 in
set_option maxRecDepth 100000 in
theorem spec_l4Sorted.calls (k : Nat) (A0 : Option Addr) (c0 : Nat) (l0 : List Int) (r : List Int) (w : World) (hr0 : Kd.C (Kd.int .i64) w A0 l0.length l0) (hc0 : l0.length ≤ c0) (h : spec_l4Sorted.f k l0 = some r) :
  Calls Try.prog 173 #[.slice A0 l0.length c0] w fun e w' => ∃ v0_ : Value, e = .returned (v0_) ∧ Kd.R (Kd.int .i64) 3 w' w.heap.size (fun _ => True) v0_ r ∧ Below w.heap.size w w' := by
 have HR0 := Aside0.mk hr0
 have HC0 := Aside0.mk hc0
 clear hr0 hc0
 have HB := am (Below.refl w.heap.size w)
 have H : (spec_l4Sorted.l0 k l0 (([] : List Int)) 0) = some r := h
 clear h
 obtain ⟨y101, hy101⟩ : ∃ y_ : List Int, y_ = (([] : List Int)) := ⟨_, rfl⟩
 replace H : (spec_l4Sorted.l0 k l0 y101 0) = some r := RH hy101 H
 have Ny101 := Aside0.mk hy101
 clear hy101
 have H' := Aside0.mk H
 clear H
 go_enter Try.func173, Try.ntmps173
 go_wp2_with (first | ((with_reducible refine gate_dst (N := 6) rfl ?_); refine Kd.R_lit (Kd.int .i64) _ 3 ?hg (N := 6) ?hd (xs := ([] : List Int)) (inner := []) (ok := fun _ => True) (okp := fun _ => True) ?hr ?hp (fun _ hk => hk) trivial (Below.refl _ _) (Nat.le_refl _) (by simp) ?_; (case hd => rfl); (case hg => rfl); (case hr => first | (go_simp; done) | (go_simp; rfl)); (case hp => exact (Reps.none _ _)); intro v102 w2 ho3 hb hg_ hnew_; clear hg_ hnew_; (first | rw [← Ny101.out] at ho3 | (simp only [Int.reduceToNat] at ho3; rw [← Ny101.out] at ho3)); have HO103 := am (Kd.R_lower ho3 (below_size (Q0 HB))); replace HB := am (below_step (Q0 HB) hb); clear hb ho3))
 go_loopg [3, 4] k (fun kq v3 v4 w' => ∃ (x3_1 : List Int) (x4_1 : Int), v4 = .int .i64 x4_1 ∧ Aside0 (spec_l4Sorted.l0 kq l0 x3_1 x4_1 = some r) ∧ Aside0 (kq ≤ k) ∧ Aside0 (Kd.R (Kd.int .i64) 3 w' w.heap.size (fun _ => True) v3 x3_1) ∧ Aside0 (Below w.heap.size w w'))
 case atStart => exact ⟨(y101), (0), Q8, H', ⟨Nat.le_refl _⟩, ⟨Q2 HO103⟩, ⟨Q0 HB⟩⟩
 case round =>
  clear H'
  try clear c1
  try clear p2
  obtain ⟨x3_1, x4_1, rfl, HA, HK1, HO_3, HB⟩ := hrel
  cases gk with
  | zero => exact absurd HA.out (by simp [spec_l4Sorted.l0])
  | succ k1 =>
   have H := HA.out; clear HA
   simp only [spec_l4Sorted.l0] at H
   by_cases c4 : x4_1 < (l0.length : Int)
   ·rw [if_pos c4] at H
    have c4b0 := decide_eq_true c4; clear c4; have H' := Aside0.mk H; clear H
    go_wp2
    go_loopg [5] k1 (fun kq v5 w' => ∃ (x5_2 : Int), v5 = .int .i64 x5_2 ∧ Aside0 (spec_l4Sorted.l1 kq l0 x3_1 x4_1 x5_2 = some r) ∧ Aside0 (kq ≤ k1) ∧ Aside0 (Kd.R (Kd.int .i64) 3 w' w.heap.size (fun _ => True) u3 x3_1) ∧ Aside0 (Below w.heap.size w w'))
    case atStart => exact ⟨(0), Q8, H', ⟨Nat.le_refl _⟩, ⟨Q7⟩, ⟨Q0 HB⟩⟩
    case round =>
     clear H'
     try clear c1
     try clear p2
     try clear c4
     try clear c4b0
     try clear p2
     obtain ⟨x5_2, rfl, HA, HK2, HO_3, HB⟩ := hrel
     cases gk with
     | zero => exact absurd HA.out (by simp [spec_l4Sorted.l1])
     | succ k2 =>
      have H := HA.out; clear HA
      simp only [spec_l4Sorted.l1] at H
      by_cases c5 : x5_2 < (x3_1.length : Int)
      ·rw [if_pos c5] at H
       have c5b0 := decide_eq_true c5; clear c5
       by_cases c6 : 0 ≤ x5_2
       ·rw [if_pos c6] at H
        have c6b0 := decide_eq_true c6; clear c6
        by_cases c7 : 0 ≤ x4_1
        ·rw [if_pos c7] at H
         have c7b0 := decide_eq_true c7; clear c7
         by_cases c8 : x4_1 < (l0.length : Int)
         ·rw [if_pos c8] at H
          have c8b0 := decide_eq_true c8; clear c8; have HU9 := Aside0.mk H; clear H
          try go_wp2
          replace HO_3 := am (Kd.R_drew HO_3.out); replace HB := am (below_drew1 HB.out); obtain ⟨Ao11, co11, eo11⟩ := Kd.R_slice HO_3.out
          (first | subst eo11 | (injection eo11 with f1_ f2_ f3_; have f4_ := f1_.symm; have f5_ := f3_.symm; clear f1_ f2_ f3_; subst f4_; subst f5_))
          have p104 : 0 ≤ (x5_2 : Int) := of_decide_eq_true Q4; have q104 : x5_2 < (x3_1.length : Int) := of_decide_eq_true Q4; obtain ⟨ad104, e104, hx104_0⟩ := Kd.at_int (Kd.R_reads' HO_3.out).2.2 x5_2 p104 q104
          cases e104
          replace p104 := eq_true p104; replace q104 := eq_true q104; have p105 : 0 ≤ (x4_1 : Int) := of_decide_eq_true Q4; have q105 : x4_1 < (l0.length : Int) := of_decide_eq_true Q4; obtain ⟨ad105, e105, hx105_0⟩ := Kd.at_int HR0.out x4_1 p105 q105; have hw105_0 := hx105_0
          cases e105
          replace hx105_0 := (HB.out.cell (World.block_lt_of_cell? w _ hx105_0)).trans hx105_0; replace p105 := eq_true p105; replace q105 := eq_true q105; refine start_ (n := 15) (S := fun w' => w'.cell? (ad104.add (x5_2).toNat) = some (.int .i64 (rd x3_1 x5_2)) ∧ w'.cell? (ad105.add (x4_1).toNat) = some (.int .i64 (rd l0 x4_1))) (ds := []) #[false, false, false, false, false, false, false, false, false, false, false, false, false, false, false] (by kernel_rfl) rfl rfl ⟨hx104_0, ((HB.out.cell (World.block_lt_of_cell? w _ hw105_0)).trans hw105_0)⟩ (fun hHeld => ?_); refine with_tabW spec_l4Sorted.tab6 spec_l4Sorted.bits6 (fun HT_ HW_ => ?_); generalize wr.drew = w10 at HO_3 HB hx104_0 hx105_0 hHeld ⊢; refine pq 0 13 rfl rfl HT_ ?_; refine pq 1 14 rfl rfl HT_ ?_; refine pq 2 15 rfl rfl HT_ ?_; refine pq 3 16 rfl rfl HT_ ?_; refine pq 4 17 rfl rfl HT_ ?_; refine pq 5 18 rfl rfl HT_ ?_; refine pq 6 19 rfl rfl HT_ ?_; refine pq 7 20 rfl rfl HT_ ?_; refine pq 9 22 rfl rfl HT_ ?_; refine pq 10 23 rfl rfl HT_ ?_; refine pq 11 24 rfl rfl HT_ ?_; refine tq2 8 21 rfl rfl HT_ HW_ hHeld ?_; refine tq2 12 25 rfl rfl HT_ HW_ hHeld ?_; refine pq 13 26 rfl rfl HT_ ?_; refine pq 14 27 rfl rfl HT_ ?_; refine done_ (done_of HT_.out (by kernel_rfl)) ?_
          go_upto_if 27 with (fail)
          have H := HU9.out; clear HU9
          by_cases c12 : (rd x3_1 x5_2) ≤ (rd l0 x4_1)
          ·rw [if_pos c12] at H
           have c12b0 := decide_eq_true c12; clear c12
           (first | rw [c12b0] | (simp only [i64_w, i32_w]; rw [c12b0]) | skip)
           have H' := Aside0.mk H; clear H
           go_wp2
           go_roundg k2
           case measure => have := HK1.out; have := HK2.out; omega
           case rel => exact ⟨(wrap64 (x5_2 + 1)), Q8, H', ⟨Q71⟩, ⟨Q7⟩, ⟨Q0 HB⟩⟩
          ·rw [if_neg c12] at H
           have c12b0 := decide_eq_false c12; clear c12
           (first | rw [c12b0] | (simp only [i64_w, i32_w]; rw [c12b0]) | skip)
           obtain ⟨y106, hy106⟩ : ∃ y_ : List Int, y_ = (([] : List Int)) := ⟨_, rfl⟩; replace H : (if x5_2 ≤ (x3_1.length : Int) then ((some (x3_1.take (x5_2 : Int).toNat : List Int)).bind fun y109 => (if y106.length + y109.length < 17592186044416 then ((some (y106 ++ y109 : List Int)).bind fun y113 => ((some (([rd l0 x4_1] : List Int) : List Int)).bind fun y117 => (if y113.length + y117.length < 17592186044416 then ((some (y113 ++ y117 : List Int)).bind fun y120 => ((some (x3_1.drop (x5_2 : Int).toNat : List Int)).bind fun y123 => (if y120.length + y123.length < 17592186044416 then (spec_l4Sorted.l0 k2 l0 (y120 ++ y123) (wrap64 (x4_1 + 1))) else (none)))) else (none)))) else (none))) else (none)) = some r := RH hy106 H; have Ny106 := Aside0.mk hy106; clear hy106; have c13b0 := eq_true (of_decide_eq_true Q4 : 0 ≤ x5_2)
           by_cases c14 : x5_2 ≤ (x3_1.length : Int)
           ·rw [if_pos c14] at H
            have c14b0 := eq_true c14; have c14b1 := decide_eq_true c14; clear c14; obtain ⟨y109, hy109⟩ : ∃ y_ : List Int, y_ = (x3_1.take (x5_2 : Int).toNat) := ⟨_, rfl⟩; replace H : (if y106.length + y109.length < 17592186044416 then ((some (y106 ++ y109 : List Int)).bind fun y113 => ((some (([rd l0 x4_1] : List Int) : List Int)).bind fun y117 => (if y113.length + y117.length < 17592186044416 then ((some (y113 ++ y117 : List Int)).bind fun y120 => ((some (x3_1.drop (x5_2 : Int).toNat : List Int)).bind fun y123 => (if y120.length + y123.length < 17592186044416 then (spec_l4Sorted.l0 k2 l0 (y120 ++ y123) (wrap64 (x4_1 + 1))) else (none)))) else (none)))) else (none)) = some r := RH hy109 H; have Ny109 := Aside0.mk hy109; clear hy109
            by_cases c15 : y106.length + y109.length < 17592186044416
            ·rw [if_pos c15] at H
             have LMc15 := Aside0.mk c15; clear c15; obtain ⟨y113, hy113⟩ : ∃ y_ : List Int, y_ = (y106 ++ y109) := ⟨_, rfl⟩; replace H : ((some (([rd l0 x4_1] : List Int) : List Int)).bind fun y117 => (if y113.length + y117.length < 17592186044416 then ((some (y113 ++ y117 : List Int)).bind fun y120 => ((some (x3_1.drop (x5_2 : Int).toNat : List Int)).bind fun y123 => (if y120.length + y123.length < 17592186044416 then (spec_l4Sorted.l0 k2 l0 (y120 ++ y123) (wrap64 (x4_1 + 1))) else (none)))) else (none))) = some r := RH hy113 H; have Ny113 := Aside0.mk hy113; clear hy113; obtain ⟨y117, hy117⟩ : ∃ y_ : List Int, y_ = (([rd l0 x4_1] : List Int)) := ⟨_, rfl⟩; replace H : (if y113.length + y117.length < 17592186044416 then ((some (y113 ++ y117 : List Int)).bind fun y120 => ((some (x3_1.drop (x5_2 : Int).toNat : List Int)).bind fun y123 => (if y120.length + y123.length < 17592186044416 then (spec_l4Sorted.l0 k2 l0 (y120 ++ y123) (wrap64 (x4_1 + 1))) else (none)))) else (none)) = some r := RH hy117 H; have Ny117 := Aside0.mk hy117; clear hy117
             by_cases c16 : y113.length + y117.length < 17592186044416
             ·rw [if_pos c16] at H
              have LMc16 := Aside0.mk c16; clear c16; obtain ⟨y120, hy120⟩ : ∃ y_ : List Int, y_ = (y113 ++ y117) := ⟨_, rfl⟩; replace H : ((some (x3_1.drop (x5_2 : Int).toNat : List Int)).bind fun y123 => (if y120.length + y123.length < 17592186044416 then (spec_l4Sorted.l0 k2 l0 (y120 ++ y123) (wrap64 (x4_1 + 1))) else (none))) = some r := RH hy120 H; have Ny120 := Aside0.mk hy120; clear hy120; have c17b0 := eq_true (of_decide_eq_true Q4 : 0 ≤ x5_2); have c18b0 := eq_true (of_decide_eq_true Q4 : x5_2 ≤ (x3_1.length : Int)); obtain ⟨y123, hy123⟩ : ∃ y_ : List Int, y_ = (x3_1.drop (x5_2 : Int).toNat) := ⟨_, rfl⟩; replace H : (if y120.length + y123.length < 17592186044416 then (spec_l4Sorted.l0 k2 l0 (y120 ++ y123) (wrap64 (x4_1 + 1))) else (none)) = some r := RH hy123 H; have Ny123 := Aside0.mk hy123; clear hy123
              by_cases c19 : y120.length + y123.length < 17592186044416
              ·rw [if_pos c19] at H
               have LMc19 := Aside0.mk c19; clear c19; obtain ⟨y127, hy127⟩ : ∃ y_ : List Int, y_ = (y120 ++ y123) := ⟨_, rfl⟩; replace H : (spec_l4Sorted.l0 k2 l0 y127 (wrap64 (x4_1 + 1))) = some r := RH hy127 H; have Ny127 := Aside0.mk hy127; clear hy127; have H' := Aside0.mk H; clear H
               try go_wp2
               replace HO_3 := am (Kd.R_drew HO_3.out); replace HB := am (below_drew1 HB.out); have q21 : (x5_2 : Int) ≤ ((x3_1.length : Int) : Int) := of_decide_eq_true Q4; obtain ⟨i021, hi021, _, hsz21, _⟩ := info_parts info3; have hroom21 : x3_1.length ≤ co11 := (Kd.R_reads' HO_3.out).2.1; have hC21 : Kd.C (Kd.int .i64) _ (some ad104) x3_1.length x3_1 := (Kd.R_reads' HO_3.out).2.2; have hcut21 := cut_to (P := Try.prog) 25 3 .i64 Try.underlying25 hi021 (some ad104) x3_1.length co11 x5_2 (of_decide_eq_true Q4) q21 hroom21; have hr21 := Kd.C_take (m := (x5_2 : Int).toNat) hC21 (by omega); have hy21 : y109.length = (x5_2 : Int).toNat := (by rw [Ny109.out, List.length_take]; omega); rw [← Ny109.out] at hr21; rw [← hy21] at hcut21; have HR112 := Aside0.mk hr21; have HC112 := am (show y109.length ≤ co11 from by omega); clear hr21 hC21 hroom21 hi021 hsz21; have KY21 := Aside0.mk hy21; clear hy21; have KL21 := am (show (x5_2 : Int).toNat ≤ x3_1.length from by omega); replace q21 := eq_true q21; have p116 : 0 ≤ (x4_1 : Int) := of_decide_eq_true Q4; have q116 : x4_1 < (l0.length : Int) := of_decide_eq_true Q4; obtain ⟨ad116, e116, hx116_0⟩ := Kd.at_int HR0.out x4_1 p116 q116; have hw116_0 := hx116_0; obtain rfl : ad105 = ad116 := (by injection e116); replace hx116_0 := (HB.out.cell (World.block_lt_of_cell? w _ hx116_0)).trans hx116_0; replace p116 := eq_true p116; replace q116 := eq_true q116; have q22 : (x5_2 : Int) ≤ ((x3_1.length : Int) : Int) := of_decide_eq_true Q4; obtain ⟨i022, hi022, _, hsz22, _⟩ := info_parts info3; have hroom22 : x3_1.length ≤ co11 := (Kd.R_reads' HO_3.out).2.1; have hC22 : Kd.C (Kd.int .i64) _ (some ad104) x3_1.length x3_1 := (Kd.R_reads' HO_3.out).2.2; have q022 : (0 : Int) ≤ (x5_2 : Int) := of_decide_eq_true Q4; have hcut22 := cut_from (P := Try.prog) 25 3 .i64 Try.underlying25 hi022 1 hsz22 (some ad104) x3_1.length co11 x5_2 q022 q22; have hr22 := Kd.C_drop (m := (x5_2 : Int).toNat) (c := co11) hC22 (by omega) hroom22; obtain ⟨A22, hA22⟩ : ∃ A1, A1 = (if co11 = (x5_2 : Int).toNat then (some ad104) else ((some ad104) : Option Addr).map (·.add ((x5_2 : Int).toNat * 1))) := ⟨_, rfl⟩; obtain ⟨c22, hc22⟩ : ∃ c1, c1 = co11 - (x5_2 : Int).toNat := ⟨_, rfl⟩; have hy22 : y123.length = x3_1.length - (x5_2 : Int).toNat := (by rw [Ny123.out, List.length_drop] <;> omega); rw [show (x3_1).drop (x5_2 : Int).toNat = y123 from Ny123.out.symm] at hr22; replace hr22 : Kd.C (Kd.int .i64) _ A22 y123.length y123 := (by rw [hA22]; exact hr22); rw [← hy22, ← hA22, ← hc22] at hcut22; have HR126 := Aside0.mk hr22; have HC126 := am (show y123.length ≤ c22 from by rw [hy22, hc22]; exact Nat.sub_le_sub_right hroom22 _); clear hr22 hC22 hroom22 hi022 hsz22 hc22; have KY22 := Aside0.mk hy22; have KA22 := Aside0.mk hA22; clear hy22 hA22; have KL22 := am (show (x5_2 : Int).toNat ≤ x3_1.length from by omega); replace q22 := eq_true q22; refine start_ (n := 16) (S := fun w' => w'.cell? (ad105.add (x4_1).toNat) = some (.int .i64 (rd l0 x4_1))) (ds := []) #[false, false, false, false, false, false, false, false, false, false, false, false, false, false, false, false] (by kernel_rfl) rfl rfl (((HB.out.cell (World.block_lt_of_cell? w _ hw116_0)).trans hw116_0)) (fun hHeld => ?_); refine with_tabW spec_l4Sorted.tab8 spec_l4Sorted.bits8 (fun HT_ HW_ => ?_); generalize w10.drew = w20 at HO_3 HB HR112 HR126 hx116_0 hHeld ⊢; refine pq 1 31 rfl rfl HT_ ?_; refine pq 2 32 rfl rfl HT_ ?_; refine pq 3 33 rfl rfl HT_ ?_; refine pq 5 35 rfl rfl HT_ ?_; refine pq 6 36 rfl rfl HT_ ?_; refine pq 7 37 rfl rfl HT_ ?_; refine pq 11 41 rfl rfl HT_ ?_; refine pq 12 42 rfl rfl HT_ ?_; refine pq 13 43 rfl rfl HT_ ?_; refine take_ (i := 8) (N := some 38) (v := ?_) (a' := ?_) #[false, true, true, true, false, true, true, true, true, false, false, true, true, true, false, false] rfl rfl (take_ofW HT_.out HW_.out (by kernel_rfl)) (fun _ _ _ h => h) (Or.inl ⟨by rfl, ?_⟩) hHeld ?_ ?_
               rotate_left
               ·intro w' s0
                go_simp
                with_reducible rfl
               rotate_left
               ·simp only [Act.put, List.setIfInBounds_toArray, List.set_cons_zero, List.set_cons_succ, i64_w, i32_w]
                rfl
               refine join_ (σ := Value × Value × Value) 3 #[true, true, true, true, true, true, true, true, true, true, false, true, true, true, false, false] (fun s_ => [(30, s_.1), (34, s_.2.1), (39, s_.2.2)]) (fun s_ w' => (w'.cell? (ad105.add (x4_1).toNat) = some (.int .i64 (rd l0 x4_1))) ∧ (Kd.R (Kd.int .i64) 3 w' w.heap.size (fun k_ => some k_ ≠ (s_.2.2 : Value).ownBlock ∧ some k_ ≠ (.slice (some ad104) x3_1.length co11 : Value).ownBlock) s_.2.1 y113) ∧ (Kd.R (Kd.int .i64) 3 w' w.heap.size (fun k_ => some k_ ≠ (s_.2.1 : Value).ownBlock ∧ some k_ ≠ (.slice (some ad104) x3_1.length co11 : Value).ownBlock) s_.2.2 y117) ∧ (Kd.R (Kd.int .i64) 3 w' w.heap.size (fun k_ => some k_ ≠ (s_.2.1 : Value).ownBlock ∧ some k_ ≠ (s_.2.2 : Value).ownBlock) (.slice (some ad104) x3_1.length co11) x3_1) ∧ (Below w.heap.size w w')) ?_ ?_
               rotate_left
               ·intro hCont
                refine two_ (i := 0) (j := 9) (Ni := some 30) (Nj := some 39) #[true, true, true, true, false, true, true, true, true, false, false, true, true, true, false, false] #[false, true, true, true, false, true, true, true, true, true, false, true, true, true, false, false] rfl rfl rfl rfl (two_of HT_.out (by kernel_rfl)) (by decide) (by decide) (fun K hK => ?_) (fun K hK => ?_)
                ·skip
                 refine Kd.R_lit_step (Kd.int .i64) _ 3 ?hg (N := 30) ?hd (xs := ([] : List Int)) (inner := []) (ok := fun _ => True) (okp := fun _ => True) ?hr ?hp (fun _ hk => hk) trivial (Below.refl _ _) (Nat.le_refl _) (by simp) ?_; (case hd => rfl); (case hg => rfl); (case hr => first | (go_simp; done) | (go_simp; rfl)); (case hp => exact (Reps.none _ _)); intro v107 w23 ho24 hb hg_ hnew_; clear hg_ hnew_
                 (first | rw [← Ny106.out] at ho24 | (simp only [Int.reduceToNat] at ho24; rw [← Ny106.out] at ho24))
                 have HO108 := am (Kd.R_lower (Kd.R_new' ho24 (Kd.R_lt Q7)) (below_size (Q0 HB))); replace HO_3 := am (Kd.R_elder' Q7 (Kd.R_base ho24) hb); replace HR112 := am (Kd.C_below (Q5 HR112) hb); replace HR126 := am (Kd.C_below (Q5 HR126) hb); replace HB := am (below_step (Q0 HB) hb); clear hb ho24; refine hK.out _ _ (((HB.out.cell (World.block_lt_of_cell? w _ hw116_0)).trans hw116_0)) (fun hHeld => ?_); clear hK K; refine norm_ (a' := ?_) ?_ ?_
                 rotate_left
                 ·show Act.put _ (some 30) _ = _
                  simp only [Act.put, List.setIfInBounds_toArray, List.set_cons_zero, List.set_cons_succ, i64_w, i32_w]
                  rfl
                 refine two_ (i := 4) (j := 9) (Ni := some 34) (Nj := some 39) #[true, true, true, true, true, true, true, true, true, false, false, true, true, true, false, false] #[true, true, true, true, false, true, true, true, true, true, false, true, true, true, false, false] rfl rfl rfl rfl (two_of HT_.out (by kernel_rfl)) (by decide) (by decide) (fun K hK => ?_) (fun K hK => ?_)
                 ·skip
                  refine Kd.R_append_rows_step (Kd.int .i64) (w0 := w) w.heap.size (by rfl) (.tmp 30) (.tmp 33) 25 3 (.int .i64 0) 8 rfl Try.underlying25 info3 rfl (by decide) (by omega) v107 y106 y109 _ _ _ (fun k_ => some k_ ≠ (.slice (some ad104) x3_1.length co11 : Value).ownBlock) (fun _ => False) rfl rfl ?aO ?aR (fun _ _ h => h) (fun _ h => h.elim) ?aF ?aB ?aS ?aL ?_
                  (case aR => exact Q61)
                  (case aB => exact (Q0 HB))
                  (case aF => exact (fun k_ hk => Kd.fresh' (Kd.R_lt Q7) k_ hk))
                  (case aO => exact (Q21 HO108))
                  (case aS => exact (below_size (Q0 HB)))
                  (case aL => have := LMc15.out; omega)
                  intro v114 w25 ho hb hg hat; rw [← Ny113.out] at ho; replace HB := am (hb); replace HR112 := am ((show Kd.C (Kd.int .i64) w25 (some ad104) y109.length y109 from by rw [Ny109.out]; exact Kd.C_take (m := (x5_2 : Int).toNat) ((Kd.R_reads' (Kd.R_after (ok := (fun _ => True)) Q7 hg hat)).2.2) KL21.out)); replace HR126 := am ((show Kd.C (Kd.int .i64) w25 A22 y123.length y123 from by rw [Ny123.out, KA22.out]; exact Kd.C_drop (m := (x5_2 : Int).toNat) (c := co11) ((Kd.R_reads' (Kd.R_after (ok := (fun _ => True)) Q7 hg hat)).2.2) KL22.out ((Kd.R_reads' (Kd.R_after (ok := (fun _ => True)) Q7 hg hat)).2.1))); replace HO_3 := am (Kd.R_after (ok := (fun _ => True)) Q7 hg hat); have HO115 := am (ho); clear HO108; clear ho hb hg hat; refine hK.out _ _ (((HB.out.cell (World.block_lt_of_cell? w _ hw116_0)).trans hw116_0)) (fun hHeld => ?_); clear hK K; refine norm_ (a' := ?_) ?_ ?_
                  rotate_left
                  ·show Act.put _ (some 34) _ = _
                   simp only [Act.put, List.setIfInBounds_toArray, List.set_cons_zero, List.set_cons_succ, i64_w, i32_w]
                   rfl
                  refine oq 9 39 rfl rfl HT_ (fun K hK => ?_); refine Kd.R_lit_step (Kd.int .i64) _ 3 ?hg (N := 39) ?hd (xs := ([rd l0 x4_1] : List Int)) (inner := [.int .i64 (rd l0 x4_1)]) (ok := fun _ => True) (okp := fun _ => True) ?hr ?hp (fun _ hk => hk) trivial (Below.refl _ _) (Nat.le_refl _) (by simp) ?_; (case hd => rfl); (case hg => rfl); (case hr => first | (go_simp; done) | (go_simp; rfl)); (case hp => exact (Reps.one (show Kd.M (Kd.int .i64) _ _ _ (rd l0 x4_1) [.int .i64 (rd l0 x4_1)] from rfl) (Reps.none _ _))); intro v118 w26 ho27 hb hg_ hnew_; clear hg_ hnew_
                  (first | rw [← Ny117.out] at ho27 | (simp only [Int.reduceToNat] at ho27; rw [← Ny117.out] at ho27))
                  have HO119 := am (Kd.R_lower (Kd.R_new' (Kd.R_new' ho27 (Kd.R_lt Q7)) (Kd.R_lt (Q2 HO115))) (below_size (Q0 HB))); replace HO_3 := am (Kd.R_elder' Q7 (Kd.R_base ho27) hb); replace HO115 := am (Kd.R_elder' (Q2 HO115) (Kd.R_base ho27) hb); replace HR112 := am (Kd.C_below (Q5 HR112) hb); replace HR126 := am (Kd.C_below (Q5 HR126) hb); replace HB := am (below_step (Q0 HB) hb); clear hb ho27; refine hK.out _ _ (((HB.out.cell (World.block_lt_of_cell? w _ hw116_0)).trans hw116_0)) (fun hHeld => ?_); clear hK K; refine norm_ (a' := ?_) ?_ ?_
                  rotate_left
                  ·show Act.put _ (some 39) _ = _
                   simp only [Act.put, List.setIfInBounds_toArray, List.set_cons_zero, List.set_cons_succ, i64_w, i32_w]
                   rfl
                  exact norm_ Q17 (hCont (v107, v114, v118) _ ⟨hHeld, (Q19 HO115), (by (with_reducible repeat (first | apply Kd.R_alloc | apply Kd.R_drewN | apply Kd.R_drew)); exact Kd.R_mono HO119.out (fun _ hk => ⟨hk.2, hk.1.2⟩)), Q29, (Q0 HB)⟩)
                 ·skip
                  refine Kd.R_lit_step (Kd.int .i64) _ 3 ?hg (N := 39) ?hd (xs := ([rd l0 x4_1] : List Int)) (inner := [.int .i64 (rd l0 x4_1)]) (ok := fun _ => True) (okp := fun _ => True) ?hr ?hp (fun _ hk => hk) trivial (Below.refl _ _) (Nat.le_refl _) (by simp) ?_; (case hd => rfl); (case hg => rfl); (case hr => first | (go_simp; done) | (go_simp; rfl)); (case hp => exact (Reps.one (show Kd.M (Kd.int .i64) _ _ _ (rd l0 x4_1) [.int .i64 (rd l0 x4_1)] from rfl) (Reps.none _ _))); intro v118 w25 ho26 hb hg_ hnew_; clear hg_ hnew_
                  (first | rw [← Ny117.out] at ho26 | (simp only [Int.reduceToNat] at ho26; rw [← Ny117.out] at ho26))
                  have HO119 := am (Kd.R_lower (Kd.R_new' (Kd.R_new' ho26 (Kd.R_lt Q7)) (Kd.R_lt (Q2 HO108))) (below_size (Q0 HB))); replace HO_3 := am (Kd.R_elder' Q7 (Kd.R_base ho26) hb); replace HO108 := am (Kd.R_elder' (Q2 HO108) (Kd.R_base ho26) hb); replace HR112 := am (Kd.C_below (Q5 HR112) hb); replace HR126 := am (Kd.C_below (Q5 HR126) hb); replace HB := am (below_step (Q0 HB) hb); clear hb ho26; refine hK.out _ _ (((HB.out.cell (World.block_lt_of_cell? w _ hw116_0)).trans hw116_0)) (fun hHeld => ?_); clear hK K; refine norm_ (a' := ?_) ?_ ?_
                  rotate_left
                  ·show Act.put _ (some 39) _ = _
                   simp only [Act.put, List.setIfInBounds_toArray, List.set_cons_zero, List.set_cons_succ, i64_w, i32_w]
                   rfl
                  refine oq 4 34 rfl rfl HT_ (fun K hK => ?_); refine Kd.R_append_rows_step (Kd.int .i64) (w0 := w) w.heap.size (by rfl) (.tmp 30) (.tmp 33) 25 3 (.int .i64 0) 8 rfl Try.underlying25 info3 rfl (by decide) (by omega) v107 y106 y109 _ _ _ (fun k_ => some k_ ≠ (.slice (some ad104) x3_1.length co11 : Value).ownBlock ∧ some k_ ≠ (v118 : Value).ownBlock) (fun _ => False) rfl rfl ?aO ?aR (fun _ _ h => h) (fun _ h => h.elim) ?aF ?aB ?aS ?aL ?_
                  (case aR => exact Q61)
                  (case aB => exact (Q0 HB))
                  (case aF => exact (fun k_ hk => ⟨Kd.fresh' (Kd.R_lt Q7) k_ hk, Kd.fresh' (Kd.R_lt (Q2 HO119)) k_ hk⟩))
                  (case aO => exact (Q33 HO108))
                  (case aS => exact (below_size (Q0 HB)))
                  (case aL => have := LMc15.out; omega)
                  intro v114 w27 ho hb hg hat; rw [← Ny113.out] at ho; replace HO119 := am (Kd.R_after (ok := (fun k_ => some k_ ≠ (.slice (some ad104) x3_1.length co11 : Value).ownBlock)) (Q33 HO119) hg hat); replace HB := am (hb); replace HR112 := am ((show Kd.C (Kd.int .i64) w27 (some ad104) y109.length y109 from by rw [Ny109.out]; exact Kd.C_take (m := (x5_2 : Int).toNat) ((Kd.R_reads' (Kd.R_after (ok := (fun k_ => some k_ ≠ (v118 : Value).ownBlock)) Q32 hg hat)).2.2) KL21.out)); replace HR126 := am ((show Kd.C (Kd.int .i64) w27 A22 y123.length y123 from by rw [Ny123.out, KA22.out]; exact Kd.C_drop (m := (x5_2 : Int).toNat) (c := co11) ((Kd.R_reads' (Kd.R_after (ok := (fun k_ => some k_ ≠ (v118 : Value).ownBlock)) Q32 hg hat)).2.2) KL22.out ((Kd.R_reads' (Kd.R_after (ok := (fun k_ => some k_ ≠ (v118 : Value).ownBlock)) Q32 hg hat)).2.1))); replace HO_3 := am (Kd.R_after (ok := (fun k_ => some k_ ≠ (v118 : Value).ownBlock)) Q32 hg hat); have HO115 := am (ho); clear HO108; clear ho hb hg hat; refine hK.out _ _ (((HB.out.cell (World.block_lt_of_cell? w _ hw116_0)).trans hw116_0)) (fun hHeld => ?_); clear hK K; refine norm_ (a' := ?_) ?_ ?_
                  rotate_left
                  ·show Act.put _ (some 34) _ = _
                   simp only [Act.put, List.setIfInBounds_toArray, List.set_cons_zero, List.set_cons_succ, i64_w, i32_w]
                   rfl
                  exact norm_ Q17 (hCont (v107, v114, v118) _ ⟨hHeld, (Q19 HO115), (Q19 HO119), Q22, (Q0 HB)⟩)
                ·skip
                 refine Kd.R_lit_step (Kd.int .i64) _ 3 ?hg (N := 39) ?hd (xs := ([rd l0 x4_1] : List Int)) (inner := [.int .i64 (rd l0 x4_1)]) (ok := fun _ => True) (okp := fun _ => True) ?hr ?hp (fun _ hk => hk) trivial (Below.refl _ _) (Nat.le_refl _) (by simp) ?_; (case hd => rfl); (case hg => rfl); (case hr => first | (go_simp; done) | (go_simp; rfl)); (case hp => exact (Reps.one (show Kd.M (Kd.int .i64) _ _ _ (rd l0 x4_1) [.int .i64 (rd l0 x4_1)] from rfl) (Reps.none _ _))); intro v118 w23 ho24 hb hg_ hnew_; clear hg_ hnew_
                 (first | rw [← Ny117.out] at ho24 | (simp only [Int.reduceToNat] at ho24; rw [← Ny117.out] at ho24))
                 have HO119 := am (Kd.R_lower (Kd.R_new' ho24 (Kd.R_lt Q7)) (below_size (Q0 HB))); replace HO_3 := am (Kd.R_elder' Q7 (Kd.R_base ho24) hb); replace HR112 := am (Kd.C_below (Q5 HR112) hb); replace HR126 := am (Kd.C_below (Q5 HR126) hb); replace HB := am (below_step (Q0 HB) hb); clear hb ho24; refine hK.out _ _ (((HB.out.cell (World.block_lt_of_cell? w _ hw116_0)).trans hw116_0)) (fun hHeld => ?_); clear hK K; refine norm_ (a' := ?_) ?_ ?_
                 rotate_left
                 ·show Act.put _ (some 39) _ = _
                  simp only [Act.put, List.setIfInBounds_toArray, List.set_cons_zero, List.set_cons_succ, i64_w, i32_w]
                  rfl
                 refine oq 0 30 rfl rfl HT_ (fun K hK => ?_); refine Kd.R_lit_step (Kd.int .i64) _ 3 ?hg (N := 30) ?hd (xs := ([] : List Int)) (inner := []) (ok := fun _ => True) (okp := fun _ => True) ?hr ?hp (fun _ hk => hk) trivial (Below.refl _ _) (Nat.le_refl _) (by simp) ?_; (case hd => rfl); (case hg => rfl); (case hr => first | (go_simp; done) | (go_simp; rfl)); (case hp => exact (Reps.none _ _)); intro v107 w25 ho26 hb hg_ hnew_; clear hg_ hnew_
                 (first | rw [← Ny106.out] at ho26 | (simp only [Int.reduceToNat] at ho26; rw [← Ny106.out] at ho26))
                 have HO108 := am (Kd.R_lower (Kd.R_new' (Kd.R_new' ho26 (Kd.R_lt Q7)) (Kd.R_lt (Q2 HO119))) (below_size (Q0 HB))); replace HO_3 := am (Kd.R_elder' Q7 (Kd.R_base ho26) hb); replace HO119 := am (Kd.R_elder' (Q2 HO119) (Kd.R_base ho26) hb); replace HR112 := am (Kd.C_below (Q5 HR112) hb); replace HR126 := am (Kd.C_below (Q5 HR126) hb); replace HB := am (below_step (Q0 HB) hb); clear hb ho26; refine hK.out _ _ (((HB.out.cell (World.block_lt_of_cell? w _ hw116_0)).trans hw116_0)) (fun hHeld => ?_); clear hK K; refine norm_ (a' := ?_) ?_ ?_
                 rotate_left
                 ·show Act.put _ (some 30) _ = _
                  simp only [Act.put, List.setIfInBounds_toArray, List.set_cons_zero, List.set_cons_succ, i64_w, i32_w]
                  rfl
                 refine oq 4 34 rfl rfl HT_ (fun K hK => ?_); refine Kd.R_append_rows_step (Kd.int .i64) (w0 := w) w.heap.size (by rfl) (.tmp 30) (.tmp 33) 25 3 (.int .i64 0) 8 rfl Try.underlying25 info3 rfl (by decide) (by omega) v107 y106 y109 _ _ _ (fun k_ => some k_ ≠ (.slice (some ad104) x3_1.length co11 : Value).ownBlock ∧ some k_ ≠ (v118 : Value).ownBlock) (fun _ => False) rfl rfl ?aO ?aR (fun _ _ h => h) (fun _ h => h.elim) ?aF ?aB ?aS ?aL ?_
                 (case aR => exact Q61)
                 (case aB => exact (Q0 HB))
                 (case aF => exact (fun k_ hk => ⟨Kd.fresh' (Kd.R_lt Q7) k_ hk, Kd.fresh' (Kd.R_lt (Q2 HO119)) k_ hk⟩))
                 (case aO => exact (Q33 HO108))
                 (case aS => exact (below_size (Q0 HB)))
                 (case aL => have := LMc15.out; omega)
                 intro v114 w27 ho hb hg hat; rw [← Ny113.out] at ho; replace HO119 := am (Kd.R_after (ok := (fun k_ => some k_ ≠ (.slice (some ad104) x3_1.length co11 : Value).ownBlock)) (Q33 HO119) hg hat); replace HB := am (hb); replace HR112 := am ((show Kd.C (Kd.int .i64) w27 (some ad104) y109.length y109 from by rw [Ny109.out]; exact Kd.C_take (m := (x5_2 : Int).toNat) ((Kd.R_reads' (Kd.R_after (ok := (fun k_ => some k_ ≠ (v118 : Value).ownBlock)) Q29 hg hat)).2.2) KL21.out)); replace HR126 := am ((show Kd.C (Kd.int .i64) w27 A22 y123.length y123 from by rw [Ny123.out, KA22.out]; exact Kd.C_drop (m := (x5_2 : Int).toNat) (c := co11) ((Kd.R_reads' (Kd.R_after (ok := (fun k_ => some k_ ≠ (v118 : Value).ownBlock)) Q29 hg hat)).2.2) KL22.out ((Kd.R_reads' (Kd.R_after (ok := (fun k_ => some k_ ≠ (v118 : Value).ownBlock)) Q29 hg hat)).2.1))); replace HO_3 := am (Kd.R_after (ok := (fun k_ => some k_ ≠ (v118 : Value).ownBlock)) Q29 hg hat); have HO115 := am (ho); clear HO108; clear ho hb hg hat; refine hK.out _ _ (((HB.out.cell (World.block_lt_of_cell? w _ hw116_0)).trans hw116_0)) (fun hHeld => ?_); clear hK K; refine norm_ (a' := ?_) ?_ ?_
                 rotate_left
                 ·show Act.put _ (some 34) _ = _
                  simp only [Act.put, List.setIfInBounds_toArray, List.set_cons_zero, List.set_cons_succ, i64_w, i32_w]
                  rfl
                 exact norm_ Q17 (hCont (v107, v114, v118) _ ⟨hHeld, (Q19 HO115), (Q19 HO119), Q22, (Q0 HB)⟩)
               rintro ⟨v107, v114, v118⟩ w28 ⟨hS_, h0_, h1_, h2_, h3_⟩; have HO115 : Aside0 (Kd.R (Kd.int .i64) 3 w28 w.heap.size (fun k_ => some k_ ≠ (v118 : Value).ownBlock ∧ some k_ ≠ (.slice (some ad104) x3_1.length co11 : Value).ownBlock) v114 y113) := ⟨h0_⟩; have HO119 : Aside0 (Kd.R (Kd.int .i64) 3 w28 w.heap.size (fun k_ => some k_ ≠ (v114 : Value).ownBlock ∧ some k_ ≠ (.slice (some ad104) x3_1.length co11 : Value).ownBlock) v118 y117) := ⟨h1_⟩; replace HO_3 : Aside0 (Kd.R (Kd.int .i64) 3 w28 w.heap.size (fun k_ => some k_ ≠ (v114 : Value).ownBlock ∧ some k_ ≠ (v118 : Value).ownBlock) (.slice (some ad104) x3_1.length co11) x3_1) := ⟨h2_⟩; replace HB : Aside0 (Below w.heap.size w w28) := ⟨h3_⟩; clear h0_ h1_ h2_ h3_; have hHeld : w28.cell? (ad105.add (x4_1).toNat) = some (.int .i64 (rd l0 x4_1)) := hS_; have HR112 := am (show Kd.C (Kd.int .i64) w28 (some ad104) y109.length y109 from by rw [Ny109.out]; exact Kd.C_take (m := (x5_2 : Int).toNat) ((Kd.R_reads' HO_3.out).2.2) KL21.out); have HR126 := am (show Kd.C (Kd.int .i64) w28 A22 y123.length y123 from by rw [Ny123.out, KA22.out]; exact Kd.C_drop (m := (x5_2 : Int).toNat) (c := co11) ((Kd.R_reads' HO_3.out).2.2) KL22.out ((Kd.R_reads' HO_3.out).2.1)); obtain ⟨Ao30, co30, eo30⟩ := Kd.R_slice HO119.out
               (first | subst eo30 | (injection eo30 with f1_ f2_ f3_; have f4_ := f1_.symm; have f5_ := f3_.symm; clear f1_ f2_ f3_; subst f4_; subst f5_))
               refine norm_ (a' := ?_) ?_ ?_
               rotate_left
               ·simp only [putAll, Act.put, List.setIfInBounds_toArray, List.set_cons_zero, List.set_cons_succ]
                rfl
               refine oq 10 40 rfl rfl HT_ (fun K hK => ?_); refine Kd.R_append_rows_step (Kd.int .i64) (w0 := w) w.heap.size (by rfl) (.tmp 34) (.tmp 39) 25 3 (.int .i64 0) 8 rfl Try.underlying25 info3 rfl (by decide) (by omega) v114 y113 y117 _ _ _ (fun k_ => some k_ ≠ (.slice (some ad104) x3_1.length co11 : Value).ownBlock ∧ some k_ ≠ (.slice Ao30 y117.length co30 : Value).ownBlock) (fun _ => False) rfl rfl ?aO ?aR (fun _ _ h => h) (fun _ h => h.elim) ?aF ?aB ?aS ?aL ?_
               (case aR => exact (Q15 HO119))
               (case aB => exact (Q0 HB))
               (case aF => exact (fun k_ hk => ⟨Kd.fresh' (Kd.R_lt Q7) k_ hk, Kd.fresh' (Kd.R_lt (Q2 HO119)) k_ hk⟩))
               (case aO => exact (Q19 HO115))
               (case aS => exact (below_size (Q0 HB)))
               (case aL => have := LMc16.out; omega)
               intro v121 w29 ho hb hg hat; rw [← Ny120.out] at ho; replace HO119 := am (Kd.R_after (ok := (fun k_ => some k_ ≠ (.slice (some ad104) x3_1.length co11 : Value).ownBlock)) (Q19 HO119) hg hat); replace HB := am (hb); replace HR112 := am ((show Kd.C (Kd.int .i64) w29 (some ad104) y109.length y109 from by rw [Ny109.out]; exact Kd.C_take (m := (x5_2 : Int).toNat) ((Kd.R_reads' (Kd.R_after (ok := (fun k_ => some k_ ≠ (.slice Ao30 y117.length co30 : Value).ownBlock)) Q22 hg hat)).2.2) KL21.out)); replace HR126 := am ((show Kd.C (Kd.int .i64) w29 A22 y123.length y123 from by rw [Ny123.out, KA22.out]; exact Kd.C_drop (m := (x5_2 : Int).toNat) (c := co11) ((Kd.R_reads' (Kd.R_after (ok := (fun k_ => some k_ ≠ (.slice Ao30 y117.length co30 : Value).ownBlock)) Q22 hg hat)).2.2) KL22.out ((Kd.R_reads' (Kd.R_after (ok := (fun k_ => some k_ ≠ (.slice Ao30 y117.length co30 : Value).ownBlock)) Q22 hg hat)).2.1))); replace HO_3 := am (Kd.R_after (ok := (fun k_ => some k_ ≠ (.slice Ao30 y117.length co30 : Value).ownBlock)) Q22 hg hat); have HO122 := am (ho); clear HO115; clear ho hb hg hat; refine hK.out _ _ (((HB.out.cell (World.block_lt_of_cell? w _ hw116_0)).trans hw116_0)) (fun hHeld => ?_); clear hK K; refine norm_ (a' := ?_) ?_ ?_
               rotate_left
               ·show Act.put _ (some 40) _ = _
                simp only [Act.put, List.setIfInBounds_toArray, List.set_cons_zero, List.set_cons_succ, i64_w, i32_w]
                rfl
               refine oq 14 44 rfl rfl HT_ (fun K hK => ?_); refine Kd.R_append_rows_step (Kd.int .i64) (w0 := w) w.heap.size (by rfl) (.tmp 40) (.tmp 43) 25 3 (.int .i64 0) 8 rfl Try.underlying25 info3 rfl (by decide) (by omega) v121 y120 y123 _ _ _ (fun k_ => some k_ ≠ (.slice (some ad104) x3_1.length co11 : Value).ownBlock ∧ some k_ ≠ (.slice Ao30 y117.length co30 : Value).ownBlock) (fun _ => False) rfl rfl ?aO ?aR (fun _ _ h => h) (fun _ h => h.elim) ?aF ?aB ?aS ?aL ?_
               (case aR => exact (by repeat (first | exact (Q5 HR126) | (with_reducible refine Kd.C_alloc ?_ _) | (with_reducible refine Kd.C_drewN ?_ _) | (with_reducible refine Kd.C_drew ?_))))
               (case aB => exact (Q0 HB))
               (case aF => exact (fun k_ hk => ⟨Kd.fresh' (Kd.R_lt Q7) k_ hk, Kd.fresh' (Kd.R_lt (Q2 HO119)) k_ hk⟩))
               (case aO => exact (Q2 HO122))
               (case aS => exact (below_size (Q0 HB)))
               (case aL => have := LMc19.out; omega)
               intro v128 w31 ho hb hg hat; rw [← Ny127.out] at ho; replace HO119 := am (Kd.R_after (ok := (fun k_ => some k_ ≠ (.slice (some ad104) x3_1.length co11 : Value).ownBlock)) (Q2 HO119) hg hat); replace HB := am (hb); replace HR112 := am ((show Kd.C (Kd.int .i64) w31 (some ad104) y109.length y109 from by rw [Ny109.out]; exact Kd.C_take (m := (x5_2 : Int).toNat) ((Kd.R_reads' (Kd.R_after (ok := (fun k_ => some k_ ≠ (.slice Ao30 y117.length co30 : Value).ownBlock)) Q7 hg hat)).2.2) KL21.out)); replace HR126 := am ((show Kd.C (Kd.int .i64) w31 A22 y123.length y123 from by rw [Ny123.out, KA22.out]; exact Kd.C_drop (m := (x5_2 : Int).toNat) (c := co11) ((Kd.R_reads' (Kd.R_after (ok := (fun k_ => some k_ ≠ (.slice Ao30 y117.length co30 : Value).ownBlock)) Q7 hg hat)).2.2) KL22.out ((Kd.R_reads' (Kd.R_after (ok := (fun k_ => some k_ ≠ (.slice Ao30 y117.length co30 : Value).ownBlock)) Q7 hg hat)).2.1))); replace HO_3 := am (Kd.R_after (ok := (fun k_ => some k_ ≠ (.slice Ao30 y117.length co30 : Value).ownBlock)) Q7 hg hat); have HO129 := am (ho); clear HO122; clear ho hb hg hat; refine hK.out _ _ (((HB.out.cell (World.block_lt_of_cell? w _ hw116_0)).trans hw116_0)) (fun hHeld => ?_); clear hK K; refine norm_ (a' := ?_) ?_ ?_
               rotate_left
               ·show Act.put _ (some 44) _ = _
                simp only [Act.put, List.setIfInBounds_toArray, List.set_cons_zero, List.set_cons_succ, i64_w, i32_w]
                rfl
               refine pq 15 3 rfl rfl HT_ ?_; refine done_ (done_of HT_.out (by kernel_rfl)) ?_
               try go_wp2
               go_roundg k2
               case measure => have := HK1.out; have := HK2.out; omega
               case rel => exact ⟨(y127), (wrap64 (x4_1 + 1)), Q8, H', ⟨Q71⟩, ⟨Q42 HO129⟩, ⟨Q0 HB⟩⟩
              ·rw [if_neg c19] at H
               exact absurd H (by simp)
             ·rw [if_neg c16] at H
              exact absurd H (by simp)
            ·rw [if_neg c15] at H
             exact absurd H (by simp)
           ·rw [if_neg c14] at H
            exact absurd H (by simp)
         ·rw [if_neg c8] at H
          exact absurd H (by simp)
        ·rw [if_neg c7] at H
         exact absurd H (by simp)
       ·rw [if_neg c6] at H
        exact absurd H (by simp)
      ·rw [if_neg c5] at H
       have c5b0 := decide_eq_false c5; clear c5; have HU32 := Aside0.mk H; clear H
       try go_wp2
       replace HO_3 := am (Kd.R_drew HO_3.out); replace HB := am (below_drew1 HB.out); obtain ⟨Ao34, co34, eo34⟩ := Kd.R_slice HO_3.out
       (first | subst eo34 | (injection eo34 with f1_ f2_ f3_; have f4_ := f1_.symm; have f5_ := f3_.symm; clear f1_ f2_ f3_; subst f4_; subst f5_))
       refine start_ (n := 15) (S := fun w' => True) (ds := []) #[false, false, false, false, false, false, false, false, false, false, false, false, false, false, false] (by kernel_rfl) rfl rfl trivial (fun hHeld => ?_); refine with_tabW spec_l4Sorted.tab6 spec_l4Sorted.bits6 (fun HT_ HW_ => ?_); generalize wr.drew = w33 at HO_3 HB hHeld ⊢; refine pq 0 13 rfl rfl HT_ ?_; refine pq 1 14 rfl rfl HT_ ?_; refine pq 2 15 rfl rfl HT_ ?_; refine pq 3 16 rfl rfl HT_ ?_; refine pq 4 17 rfl rfl HT_ ?_; refine pu 5 18 rfl rfl HT_ ?_; refine pu 6 19 rfl rfl HT_ ?_; refine pu 7 20 rfl rfl HT_ ?_; refine pu 8 21 rfl rfl HT_ ?_; refine pu 9 22 rfl rfl HT_ ?_; refine pu 10 23 rfl rfl HT_ ?_; refine pu 11 24 rfl rfl HT_ ?_; refine pu 12 25 rfl rfl HT_ ?_; refine pu 13 26 rfl rfl HT_ ?_; refine pq 14 27 rfl rfl HT_ ?_; refine done_ (done_of HT_.out (by kernel_rfl)) ?_
       go_upto_if 27 with (fail)
       have H := HU32.out; clear HU32; obtain ⟨y130, hy130⟩ : ∃ y_ : List Int, y_ = (([] : List Int)) := ⟨_, rfl⟩; replace H : (if 0 ≤ x5_2 then (if x5_2 ≤ (x3_1.length : Int) then ((some (x3_1.take (x5_2 : Int).toNat : List Int)).bind fun y133 => (if y130.length + y133.length < 17592186044416 then ((some (y130 ++ y133 : List Int)).bind fun y137 => (if 0 ≤ x4_1 then (if x4_1 < (l0.length : Int) then ((some (([rd l0 x4_1] : List Int) : List Int)).bind fun y141 => (if y137.length + y141.length < 17592186044416 then ((some (y137 ++ y141 : List Int)).bind fun y144 => ((some (x3_1.drop (x5_2 : Int).toNat : List Int)).bind fun y147 => (if y144.length + y147.length < 17592186044416 then (spec_l4Sorted.l0 k2 l0 (y144 ++ y147) (wrap64 (x4_1 + 1))) else (none)))) else (none))) else (none)) else (none))) else (none))) else (none)) else (none)) = some r := RH hy130 H; have Ny130 := Aside0.mk hy130; clear hy130
       by_cases c35 : 0 ≤ x5_2
       ·rw [if_pos c35] at H
        have c35b0 := eq_true c35; have c35b1 := decide_eq_true c35; clear c35
        by_cases c36 : x5_2 ≤ (x3_1.length : Int)
        ·rw [if_pos c36] at H
         have c36b0 := eq_true c36; have c36b1 := decide_eq_true c36; clear c36; obtain ⟨y133, hy133⟩ : ∃ y_ : List Int, y_ = (x3_1.take (x5_2 : Int).toNat) := ⟨_, rfl⟩; replace H : (if y130.length + y133.length < 17592186044416 then ((some (y130 ++ y133 : List Int)).bind fun y137 => (if 0 ≤ x4_1 then (if x4_1 < (l0.length : Int) then ((some (([rd l0 x4_1] : List Int) : List Int)).bind fun y141 => (if y137.length + y141.length < 17592186044416 then ((some (y137 ++ y141 : List Int)).bind fun y144 => ((some (x3_1.drop (x5_2 : Int).toNat : List Int)).bind fun y147 => (if y144.length + y147.length < 17592186044416 then (spec_l4Sorted.l0 k2 l0 (y144 ++ y147) (wrap64 (x4_1 + 1))) else (none)))) else (none))) else (none)) else (none))) else (none)) = some r := RH hy133 H; have Ny133 := Aside0.mk hy133; clear hy133
         by_cases c37 : y130.length + y133.length < 17592186044416
         ·rw [if_pos c37] at H
          have LMc37 := Aside0.mk c37; clear c37; obtain ⟨y137, hy137⟩ : ∃ y_ : List Int, y_ = (y130 ++ y133) := ⟨_, rfl⟩; replace H : (if 0 ≤ x4_1 then (if x4_1 < (l0.length : Int) then ((some (([rd l0 x4_1] : List Int) : List Int)).bind fun y141 => (if y137.length + y141.length < 17592186044416 then ((some (y137 ++ y141 : List Int)).bind fun y144 => ((some (x3_1.drop (x5_2 : Int).toNat : List Int)).bind fun y147 => (if y144.length + y147.length < 17592186044416 then (spec_l4Sorted.l0 k2 l0 (y144 ++ y147) (wrap64 (x4_1 + 1))) else (none)))) else (none))) else (none)) else (none)) = some r := RH hy137 H; have Ny137 := Aside0.mk hy137; clear hy137
          by_cases c38 : 0 ≤ x4_1
          ·rw [if_pos c38] at H
           have c38b0 := decide_eq_true c38; clear c38
           (first | rw [c38b0] | (simp only [i64_w, i32_w]; rw [c38b0]) | skip)
           by_cases c39 : x4_1 < (l0.length : Int)
           ·rw [if_pos c39] at H
            have c39b0 := decide_eq_true c39; clear c39; obtain ⟨y141, hy141⟩ : ∃ y_ : List Int, y_ = (([rd l0 x4_1] : List Int)) := ⟨_, rfl⟩; replace H : (if y137.length + y141.length < 17592186044416 then ((some (y137 ++ y141 : List Int)).bind fun y144 => ((some (x3_1.drop (x5_2 : Int).toNat : List Int)).bind fun y147 => (if y144.length + y147.length < 17592186044416 then (spec_l4Sorted.l0 k2 l0 (y144 ++ y147) (wrap64 (x4_1 + 1))) else (none)))) else (none)) = some r := RH hy141 H; have Ny141 := Aside0.mk hy141; clear hy141
            by_cases c40 : y137.length + y141.length < 17592186044416
            ·rw [if_pos c40] at H
             have LMc40 := Aside0.mk c40; clear c40; obtain ⟨y144, hy144⟩ : ∃ y_ : List Int, y_ = (y137 ++ y141) := ⟨_, rfl⟩; replace H : ((some (x3_1.drop (x5_2 : Int).toNat : List Int)).bind fun y147 => (if y144.length + y147.length < 17592186044416 then (spec_l4Sorted.l0 k2 l0 (y144 ++ y147) (wrap64 (x4_1 + 1))) else (none))) = some r := RH hy144 H; have Ny144 := Aside0.mk hy144; clear hy144; have c41b0 := eq_true (of_decide_eq_true Q4 : 0 ≤ x5_2); have c42b0 := eq_true (of_decide_eq_true Q4 : x5_2 ≤ (x3_1.length : Int)); obtain ⟨y147, hy147⟩ : ∃ y_ : List Int, y_ = (x3_1.drop (x5_2 : Int).toNat) := ⟨_, rfl⟩; replace H : (if y144.length + y147.length < 17592186044416 then (spec_l4Sorted.l0 k2 l0 (y144 ++ y147) (wrap64 (x4_1 + 1))) else (none)) = some r := RH hy147 H; have Ny147 := Aside0.mk hy147; clear hy147
             by_cases c43 : y144.length + y147.length < 17592186044416
             ·rw [if_pos c43] at H
              have LMc43 := Aside0.mk c43; clear c43; obtain ⟨y151, hy151⟩ : ∃ y_ : List Int, y_ = (y144 ++ y147) := ⟨_, rfl⟩; replace H : (spec_l4Sorted.l0 k2 l0 y151 (wrap64 (x4_1 + 1))) = some r := RH hy151 H; have Ny151 := Aside0.mk hy151; clear hy151; have H' := Aside0.mk H; clear H
              try go_wp2
              replace HO_3 := am (Kd.R_drew HO_3.out); replace HB := am (below_drew1 HB.out); have q45 : (x5_2 : Int) ≤ ((x3_1.length : Int) : Int) := of_decide_eq_true Q4; obtain ⟨i045, hi045, _, hsz45, _⟩ := info_parts info3; have hroom45 : x3_1.length ≤ co34 := (Kd.R_reads' HO_3.out).2.1; have hC45 : Kd.C (Kd.int .i64) _ Ao34 x3_1.length x3_1 := (Kd.R_reads' HO_3.out).2.2; have hcut45 := cut_to (P := Try.prog) 25 3 .i64 Try.underlying25 hi045 Ao34 x3_1.length co34 x5_2 (of_decide_eq_true Q4) q45 hroom45; have hr45 := Kd.C_take (m := (x5_2 : Int).toNat) hC45 (by omega); have hy45 : y133.length = (x5_2 : Int).toNat := (by rw [Ny133.out, List.length_take]; omega); rw [← Ny133.out] at hr45; rw [← hy45] at hcut45; have HR136 := Aside0.mk hr45; have HC136 := am (show y133.length ≤ co34 from by omega); clear hr45 hC45 hroom45 hi045 hsz45; have KY45 := Aside0.mk hy45; clear hy45; have KL45 := am (show (x5_2 : Int).toNat ≤ x3_1.length from by omega); replace q45 := eq_true q45; have p140 : 0 ≤ (x4_1 : Int) := of_decide_eq_true Q4; have q140 : x4_1 < (l0.length : Int) := of_decide_eq_true Q4; obtain ⟨ad140, e140, hx140_0⟩ := Kd.at_int HR0.out x4_1 p140 q140; have hw140_0 := hx140_0
              cases e140
              replace hx140_0 := (HB.out.cell (World.block_lt_of_cell? w _ hx140_0)).trans hx140_0; replace p140 := eq_true p140; replace q140 := eq_true q140; have q46 : (x5_2 : Int) ≤ ((x3_1.length : Int) : Int) := of_decide_eq_true Q4; obtain ⟨i046, hi046, _, hsz46, _⟩ := info_parts info3; have hroom46 : x3_1.length ≤ co34 := (Kd.R_reads' HO_3.out).2.1; have hC46 : Kd.C (Kd.int .i64) _ Ao34 x3_1.length x3_1 := (Kd.R_reads' HO_3.out).2.2; have q046 : (0 : Int) ≤ (x5_2 : Int) := of_decide_eq_true Q4; have hcut46 := cut_from (P := Try.prog) 25 3 .i64 Try.underlying25 hi046 1 hsz46 Ao34 x3_1.length co34 x5_2 q046 q46; have hr46 := Kd.C_drop (m := (x5_2 : Int).toNat) (c := co34) hC46 (by omega) hroom46; obtain ⟨A46, hA46⟩ : ∃ A1, A1 = (if co34 = (x5_2 : Int).toNat then Ao34 else (Ao34 : Option Addr).map (·.add ((x5_2 : Int).toNat * 1))) := ⟨_, rfl⟩; obtain ⟨c46, hc46⟩ : ∃ c1, c1 = co34 - (x5_2 : Int).toNat := ⟨_, rfl⟩; have hy46 : y147.length = x3_1.length - (x5_2 : Int).toNat := (by rw [Ny147.out, List.length_drop] <;> omega); rw [show (x3_1).drop (x5_2 : Int).toNat = y147 from Ny147.out.symm] at hr46; replace hr46 : Kd.C (Kd.int .i64) _ A46 y147.length y147 := (by rw [hA46]; exact hr46); rw [← hy46, ← hA46, ← hc46] at hcut46; have HR150 := Aside0.mk hr46; have HC150 := am (show y147.length ≤ c46 from by rw [hy46, hc46]; exact Nat.sub_le_sub_right hroom46 _); clear hr46 hC46 hroom46 hi046 hsz46 hc46; have KY46 := Aside0.mk hy46; have KA46 := Aside0.mk hA46; clear hy46 hA46; have KL46 := am (show (x5_2 : Int).toNat ≤ x3_1.length from by omega); replace q46 := eq_true q46; refine start_ (n := 16) (S := fun w' => w'.cell? (ad140.add (x4_1).toNat) = some (.int .i64 (rd l0 x4_1))) (ds := []) #[false, false, false, false, false, false, false, false, false, false, false, false, false, false, false, false] (by kernel_rfl) rfl rfl (((HB.out.cell (World.block_lt_of_cell? w _ hw140_0)).trans hw140_0)) (fun hHeld => ?_); refine with_tabW spec_l4Sorted.tab8 spec_l4Sorted.bits8 (fun HT_ HW_ => ?_); generalize w33.drew = w44 at HO_3 HB HR136 HR150 hx140_0 hHeld ⊢; refine pq 1 31 rfl rfl HT_ ?_; refine pq 2 32 rfl rfl HT_ ?_; refine pq 3 33 rfl rfl HT_ ?_; refine pq 5 35 rfl rfl HT_ ?_; refine pq 6 36 rfl rfl HT_ ?_; refine pq 7 37 rfl rfl HT_ ?_; refine pq 11 41 rfl rfl HT_ ?_; refine pq 12 42 rfl rfl HT_ ?_; refine pq 13 43 rfl rfl HT_ ?_; refine take_ (i := 8) (N := some 38) (v := ?_) (a' := ?_) #[false, true, true, true, false, true, true, true, true, false, false, true, true, true, false, false] rfl rfl (take_ofW HT_.out HW_.out (by kernel_rfl)) (fun _ _ _ h => h) (Or.inl ⟨by rfl, ?_⟩) hHeld ?_ ?_
              rotate_left
              ·intro w' s0
               go_simp
               with_reducible rfl
              rotate_left
              ·simp only [Act.put, List.setIfInBounds_toArray, List.set_cons_zero, List.set_cons_succ, i64_w, i32_w]
               rfl
              refine join_ (σ := Value × Value × Value) 3 #[true, true, true, true, true, true, true, true, true, true, false, true, true, true, false, false] (fun s_ => [(30, s_.1), (34, s_.2.1), (39, s_.2.2)]) (fun s_ w' => (w'.cell? (ad140.add (x4_1).toNat) = some (.int .i64 (rd l0 x4_1))) ∧ (Kd.R (Kd.int .i64) 3 w' w.heap.size (fun k_ => some k_ ≠ (s_.2.2 : Value).ownBlock ∧ some k_ ≠ (.slice Ao34 x3_1.length co34 : Value).ownBlock) s_.2.1 y137) ∧ (Kd.R (Kd.int .i64) 3 w' w.heap.size (fun k_ => some k_ ≠ (s_.2.1 : Value).ownBlock ∧ some k_ ≠ (.slice Ao34 x3_1.length co34 : Value).ownBlock) s_.2.2 y141) ∧ (Kd.R (Kd.int .i64) 3 w' w.heap.size (fun k_ => some k_ ≠ (s_.2.1 : Value).ownBlock ∧ some k_ ≠ (s_.2.2 : Value).ownBlock) (.slice Ao34 x3_1.length co34) x3_1) ∧ (Below w.heap.size w w')) ?_ ?_
              rotate_left
              ·intro hCont
               refine two_ (i := 0) (j := 9) (Ni := some 30) (Nj := some 39) #[true, true, true, true, false, true, true, true, true, false, false, true, true, true, false, false] #[false, true, true, true, false, true, true, true, true, true, false, true, true, true, false, false] rfl rfl rfl rfl (two_of HT_.out (by kernel_rfl)) (by decide) (by decide) (fun K hK => ?_) (fun K hK => ?_)
               ·skip
                refine Kd.R_lit_step (Kd.int .i64) _ 3 ?hg (N := 30) ?hd (xs := ([] : List Int)) (inner := []) (ok := fun _ => True) (okp := fun _ => True) ?hr ?hp (fun _ hk => hk) trivial (Below.refl _ _) (Nat.le_refl _) (by simp) ?_; (case hd => rfl); (case hg => rfl); (case hr => first | (go_simp; done) | (go_simp; rfl)); (case hp => exact (Reps.none _ _)); intro v131 w47 ho48 hb hg_ hnew_; clear hg_ hnew_
                (first | rw [← Ny130.out] at ho48 | (simp only [Int.reduceToNat] at ho48; rw [← Ny130.out] at ho48))
                have HO132 := am (Kd.R_lower (Kd.R_new' ho48 (Kd.R_lt Q7)) (below_size (Q0 HB))); replace HO_3 := am (Kd.R_elder' Q7 (Kd.R_base ho48) hb); replace HR136 := am (Kd.C_below (Q5 HR136) hb); replace HR150 := am (Kd.C_below (Q5 HR150) hb); replace HB := am (below_step (Q0 HB) hb); clear hb ho48; refine hK.out _ _ (((HB.out.cell (World.block_lt_of_cell? w _ hw140_0)).trans hw140_0)) (fun hHeld => ?_); clear hK K; refine norm_ (a' := ?_) ?_ ?_
                rotate_left
                ·show Act.put _ (some 30) _ = _
                 simp only [Act.put, List.setIfInBounds_toArray, List.set_cons_zero, List.set_cons_succ, i64_w, i32_w]
                 rfl
                refine two_ (i := 4) (j := 9) (Ni := some 34) (Nj := some 39) #[true, true, true, true, true, true, true, true, true, false, false, true, true, true, false, false] #[true, true, true, true, false, true, true, true, true, true, false, true, true, true, false, false] rfl rfl rfl rfl (two_of HT_.out (by kernel_rfl)) (by decide) (by decide) (fun K hK => ?_) (fun K hK => ?_)
                ·skip
                 refine Kd.R_append_rows_step (Kd.int .i64) (w0 := w) w.heap.size (by rfl) (.tmp 30) (.tmp 33) 25 3 (.int .i64 0) 8 rfl Try.underlying25 info3 rfl (by decide) (by omega) v131 y130 y133 _ _ _ (fun k_ => some k_ ≠ (.slice Ao34 x3_1.length co34 : Value).ownBlock) (fun _ => False) rfl rfl ?aO ?aR (fun _ _ h => h) (fun _ h => h.elim) ?aF ?aB ?aS ?aL ?_
                 (case aR => exact Q62)
                 (case aB => exact (Q0 HB))
                 (case aF => exact (fun k_ hk => Kd.fresh' (Kd.R_lt Q7) k_ hk))
                 (case aO => exact (Q21 HO132))
                 (case aS => exact (below_size (Q0 HB)))
                 (case aL => have := LMc37.out; omega)
                 intro v138 w49 ho hb hg hat; rw [← Ny137.out] at ho; replace HB := am (hb); replace HR136 := am ((show Kd.C (Kd.int .i64) w49 Ao34 y133.length y133 from by rw [Ny133.out]; exact Kd.C_take (m := (x5_2 : Int).toNat) ((Kd.R_reads' (Kd.R_after (ok := (fun _ => True)) Q7 hg hat)).2.2) KL45.out)); replace HR150 := am ((show Kd.C (Kd.int .i64) w49 A46 y147.length y147 from by rw [Ny147.out, KA46.out]; exact Kd.C_drop (m := (x5_2 : Int).toNat) (c := co34) ((Kd.R_reads' (Kd.R_after (ok := (fun _ => True)) Q7 hg hat)).2.2) KL46.out ((Kd.R_reads' (Kd.R_after (ok := (fun _ => True)) Q7 hg hat)).2.1))); replace HO_3 := am (Kd.R_after (ok := (fun _ => True)) Q7 hg hat); have HO139 := am (ho); clear HO132; clear ho hb hg hat; refine hK.out _ _ (((HB.out.cell (World.block_lt_of_cell? w _ hw140_0)).trans hw140_0)) (fun hHeld => ?_); clear hK K; refine norm_ (a' := ?_) ?_ ?_
                 rotate_left
                 ·show Act.put _ (some 34) _ = _
                  simp only [Act.put, List.setIfInBounds_toArray, List.set_cons_zero, List.set_cons_succ, i64_w, i32_w]
                  rfl
                 refine oq 9 39 rfl rfl HT_ (fun K hK => ?_); refine Kd.R_lit_step (Kd.int .i64) _ 3 ?hg (N := 39) ?hd (xs := ([rd l0 x4_1] : List Int)) (inner := [.int .i64 (rd l0 x4_1)]) (ok := fun _ => True) (okp := fun _ => True) ?hr ?hp (fun _ hk => hk) trivial (Below.refl _ _) (Nat.le_refl _) (by simp) ?_; (case hd => rfl); (case hg => rfl); (case hr => first | (go_simp; done) | (go_simp; rfl)); (case hp => exact (Reps.one (show Kd.M (Kd.int .i64) _ _ _ (rd l0 x4_1) [.int .i64 (rd l0 x4_1)] from rfl) (Reps.none _ _))); intro v142 w50 ho51 hb hg_ hnew_; clear hg_ hnew_
                 (first | rw [← Ny141.out] at ho51 | (simp only [Int.reduceToNat] at ho51; rw [← Ny141.out] at ho51))
                 have HO143 := am (Kd.R_lower (Kd.R_new' (Kd.R_new' ho51 (Kd.R_lt Q7)) (Kd.R_lt (Q2 HO139))) (below_size (Q0 HB))); replace HO_3 := am (Kd.R_elder' Q7 (Kd.R_base ho51) hb); replace HO139 := am (Kd.R_elder' (Q2 HO139) (Kd.R_base ho51) hb); replace HR136 := am (Kd.C_below (Q5 HR136) hb); replace HR150 := am (Kd.C_below (Q5 HR150) hb); replace HB := am (below_step (Q0 HB) hb); clear hb ho51; refine hK.out _ _ (((HB.out.cell (World.block_lt_of_cell? w _ hw140_0)).trans hw140_0)) (fun hHeld => ?_); clear hK K; refine norm_ (a' := ?_) ?_ ?_
                 rotate_left
                 ·show Act.put _ (some 39) _ = _
                  simp only [Act.put, List.setIfInBounds_toArray, List.set_cons_zero, List.set_cons_succ, i64_w, i32_w]
                  rfl
                 exact norm_ Q17 (hCont (v131, v138, v142) _ ⟨hHeld, (Q19 HO139), (by (with_reducible repeat (first | apply Kd.R_alloc | apply Kd.R_drewN | apply Kd.R_drew)); exact Kd.R_mono HO143.out (fun _ hk => ⟨hk.2, hk.1.2⟩)), Q29, (Q0 HB)⟩)
                ·skip
                 refine Kd.R_lit_step (Kd.int .i64) _ 3 ?hg (N := 39) ?hd (xs := ([rd l0 x4_1] : List Int)) (inner := [.int .i64 (rd l0 x4_1)]) (ok := fun _ => True) (okp := fun _ => True) ?hr ?hp (fun _ hk => hk) trivial (Below.refl _ _) (Nat.le_refl _) (by simp) ?_; (case hd => rfl); (case hg => rfl); (case hr => first | (go_simp; done) | (go_simp; rfl)); (case hp => exact (Reps.one (show Kd.M (Kd.int .i64) _ _ _ (rd l0 x4_1) [.int .i64 (rd l0 x4_1)] from rfl) (Reps.none _ _))); intro v142 w49 ho50 hb hg_ hnew_; clear hg_ hnew_
                 (first | rw [← Ny141.out] at ho50 | (simp only [Int.reduceToNat] at ho50; rw [← Ny141.out] at ho50))
                 have HO143 := am (Kd.R_lower (Kd.R_new' (Kd.R_new' ho50 (Kd.R_lt Q7)) (Kd.R_lt (Q2 HO132))) (below_size (Q0 HB))); replace HO_3 := am (Kd.R_elder' Q7 (Kd.R_base ho50) hb); replace HO132 := am (Kd.R_elder' (Q2 HO132) (Kd.R_base ho50) hb); replace HR136 := am (Kd.C_below (Q5 HR136) hb); replace HR150 := am (Kd.C_below (Q5 HR150) hb); replace HB := am (below_step (Q0 HB) hb); clear hb ho50; refine hK.out _ _ (((HB.out.cell (World.block_lt_of_cell? w _ hw140_0)).trans hw140_0)) (fun hHeld => ?_); clear hK K; refine norm_ (a' := ?_) ?_ ?_
                 rotate_left
                 ·show Act.put _ (some 39) _ = _
                  simp only [Act.put, List.setIfInBounds_toArray, List.set_cons_zero, List.set_cons_succ, i64_w, i32_w]
                  rfl
                 refine oq 4 34 rfl rfl HT_ (fun K hK => ?_); refine Kd.R_append_rows_step (Kd.int .i64) (w0 := w) w.heap.size (by rfl) (.tmp 30) (.tmp 33) 25 3 (.int .i64 0) 8 rfl Try.underlying25 info3 rfl (by decide) (by omega) v131 y130 y133 _ _ _ (fun k_ => some k_ ≠ (.slice Ao34 x3_1.length co34 : Value).ownBlock ∧ some k_ ≠ (v142 : Value).ownBlock) (fun _ => False) rfl rfl ?aO ?aR (fun _ _ h => h) (fun _ h => h.elim) ?aF ?aB ?aS ?aL ?_
                 (case aR => exact Q62)
                 (case aB => exact (Q0 HB))
                 (case aF => exact (fun k_ hk => ⟨Kd.fresh' (Kd.R_lt Q7) k_ hk, Kd.fresh' (Kd.R_lt (Q2 HO143)) k_ hk⟩))
                 (case aO => exact (Q33 HO132))
                 (case aS => exact (below_size (Q0 HB)))
                 (case aL => have := LMc37.out; omega)
                 intro v138 w51 ho hb hg hat; rw [← Ny137.out] at ho; replace HO143 := am (Kd.R_after (ok := (fun k_ => some k_ ≠ (.slice Ao34 x3_1.length co34 : Value).ownBlock)) (Q33 HO143) hg hat); replace HB := am (hb); replace HR136 := am ((show Kd.C (Kd.int .i64) w51 Ao34 y133.length y133 from by rw [Ny133.out]; exact Kd.C_take (m := (x5_2 : Int).toNat) ((Kd.R_reads' (Kd.R_after (ok := (fun k_ => some k_ ≠ (v142 : Value).ownBlock)) Q32 hg hat)).2.2) KL45.out)); replace HR150 := am ((show Kd.C (Kd.int .i64) w51 A46 y147.length y147 from by rw [Ny147.out, KA46.out]; exact Kd.C_drop (m := (x5_2 : Int).toNat) (c := co34) ((Kd.R_reads' (Kd.R_after (ok := (fun k_ => some k_ ≠ (v142 : Value).ownBlock)) Q32 hg hat)).2.2) KL46.out ((Kd.R_reads' (Kd.R_after (ok := (fun k_ => some k_ ≠ (v142 : Value).ownBlock)) Q32 hg hat)).2.1))); replace HO_3 := am (Kd.R_after (ok := (fun k_ => some k_ ≠ (v142 : Value).ownBlock)) Q32 hg hat); have HO139 := am (ho); clear HO132; clear ho hb hg hat; refine hK.out _ _ (((HB.out.cell (World.block_lt_of_cell? w _ hw140_0)).trans hw140_0)) (fun hHeld => ?_); clear hK K; refine norm_ (a' := ?_) ?_ ?_
                 rotate_left
                 ·show Act.put _ (some 34) _ = _
                  simp only [Act.put, List.setIfInBounds_toArray, List.set_cons_zero, List.set_cons_succ, i64_w, i32_w]
                  rfl
                 exact norm_ Q17 (hCont (v131, v138, v142) _ ⟨hHeld, (Q19 HO139), (Q19 HO143), Q22, (Q0 HB)⟩)
               ·skip
                refine Kd.R_lit_step (Kd.int .i64) _ 3 ?hg (N := 39) ?hd (xs := ([rd l0 x4_1] : List Int)) (inner := [.int .i64 (rd l0 x4_1)]) (ok := fun _ => True) (okp := fun _ => True) ?hr ?hp (fun _ hk => hk) trivial (Below.refl _ _) (Nat.le_refl _) (by simp) ?_; (case hd => rfl); (case hg => rfl); (case hr => first | (go_simp; done) | (go_simp; rfl)); (case hp => exact (Reps.one (show Kd.M (Kd.int .i64) _ _ _ (rd l0 x4_1) [.int .i64 (rd l0 x4_1)] from rfl) (Reps.none _ _))); intro v142 w47 ho48 hb hg_ hnew_; clear hg_ hnew_
                (first | rw [← Ny141.out] at ho48 | (simp only [Int.reduceToNat] at ho48; rw [← Ny141.out] at ho48))
                have HO143 := am (Kd.R_lower (Kd.R_new' ho48 (Kd.R_lt Q7)) (below_size (Q0 HB))); replace HO_3 := am (Kd.R_elder' Q7 (Kd.R_base ho48) hb); replace HR136 := am (Kd.C_below (Q5 HR136) hb); replace HR150 := am (Kd.C_below (Q5 HR150) hb); replace HB := am (below_step (Q0 HB) hb); clear hb ho48; refine hK.out _ _ (((HB.out.cell (World.block_lt_of_cell? w _ hw140_0)).trans hw140_0)) (fun hHeld => ?_); clear hK K; refine norm_ (a' := ?_) ?_ ?_
                rotate_left
                ·show Act.put _ (some 39) _ = _
                 simp only [Act.put, List.setIfInBounds_toArray, List.set_cons_zero, List.set_cons_succ, i64_w, i32_w]
                 rfl
                refine oq 0 30 rfl rfl HT_ (fun K hK => ?_); refine Kd.R_lit_step (Kd.int .i64) _ 3 ?hg (N := 30) ?hd (xs := ([] : List Int)) (inner := []) (ok := fun _ => True) (okp := fun _ => True) ?hr ?hp (fun _ hk => hk) trivial (Below.refl _ _) (Nat.le_refl _) (by simp) ?_; (case hd => rfl); (case hg => rfl); (case hr => first | (go_simp; done) | (go_simp; rfl)); (case hp => exact (Reps.none _ _)); intro v131 w49 ho50 hb hg_ hnew_; clear hg_ hnew_
                (first | rw [← Ny130.out] at ho50 | (simp only [Int.reduceToNat] at ho50; rw [← Ny130.out] at ho50))
                have HO132 := am (Kd.R_lower (Kd.R_new' (Kd.R_new' ho50 (Kd.R_lt Q7)) (Kd.R_lt (Q2 HO143))) (below_size (Q0 HB))); replace HO_3 := am (Kd.R_elder' Q7 (Kd.R_base ho50) hb); replace HO143 := am (Kd.R_elder' (Q2 HO143) (Kd.R_base ho50) hb); replace HR136 := am (Kd.C_below (Q5 HR136) hb); replace HR150 := am (Kd.C_below (Q5 HR150) hb); replace HB := am (below_step (Q0 HB) hb); clear hb ho50; refine hK.out _ _ (((HB.out.cell (World.block_lt_of_cell? w _ hw140_0)).trans hw140_0)) (fun hHeld => ?_); clear hK K; refine norm_ (a' := ?_) ?_ ?_
                rotate_left
                ·show Act.put _ (some 30) _ = _
                 simp only [Act.put, List.setIfInBounds_toArray, List.set_cons_zero, List.set_cons_succ, i64_w, i32_w]
                 rfl
                refine oq 4 34 rfl rfl HT_ (fun K hK => ?_); refine Kd.R_append_rows_step (Kd.int .i64) (w0 := w) w.heap.size (by rfl) (.tmp 30) (.tmp 33) 25 3 (.int .i64 0) 8 rfl Try.underlying25 info3 rfl (by decide) (by omega) v131 y130 y133 _ _ _ (fun k_ => some k_ ≠ (.slice Ao34 x3_1.length co34 : Value).ownBlock ∧ some k_ ≠ (v142 : Value).ownBlock) (fun _ => False) rfl rfl ?aO ?aR (fun _ _ h => h) (fun _ h => h.elim) ?aF ?aB ?aS ?aL ?_
                (case aR => exact Q62)
                (case aB => exact (Q0 HB))
                (case aF => exact (fun k_ hk => ⟨Kd.fresh' (Kd.R_lt Q7) k_ hk, Kd.fresh' (Kd.R_lt (Q2 HO143)) k_ hk⟩))
                (case aO => exact (Q33 HO132))
                (case aS => exact (below_size (Q0 HB)))
                (case aL => have := LMc37.out; omega)
                intro v138 w51 ho hb hg hat; rw [← Ny137.out] at ho; replace HO143 := am (Kd.R_after (ok := (fun k_ => some k_ ≠ (.slice Ao34 x3_1.length co34 : Value).ownBlock)) (Q33 HO143) hg hat); replace HB := am (hb); replace HR136 := am ((show Kd.C (Kd.int .i64) w51 Ao34 y133.length y133 from by rw [Ny133.out]; exact Kd.C_take (m := (x5_2 : Int).toNat) ((Kd.R_reads' (Kd.R_after (ok := (fun k_ => some k_ ≠ (v142 : Value).ownBlock)) Q29 hg hat)).2.2) KL45.out)); replace HR150 := am ((show Kd.C (Kd.int .i64) w51 A46 y147.length y147 from by rw [Ny147.out, KA46.out]; exact Kd.C_drop (m := (x5_2 : Int).toNat) (c := co34) ((Kd.R_reads' (Kd.R_after (ok := (fun k_ => some k_ ≠ (v142 : Value).ownBlock)) Q29 hg hat)).2.2) KL46.out ((Kd.R_reads' (Kd.R_after (ok := (fun k_ => some k_ ≠ (v142 : Value).ownBlock)) Q29 hg hat)).2.1))); replace HO_3 := am (Kd.R_after (ok := (fun k_ => some k_ ≠ (v142 : Value).ownBlock)) Q29 hg hat); have HO139 := am (ho); clear HO132; clear ho hb hg hat; refine hK.out _ _ (((HB.out.cell (World.block_lt_of_cell? w _ hw140_0)).trans hw140_0)) (fun hHeld => ?_); clear hK K; refine norm_ (a' := ?_) ?_ ?_
                rotate_left
                ·show Act.put _ (some 34) _ = _
                 simp only [Act.put, List.setIfInBounds_toArray, List.set_cons_zero, List.set_cons_succ, i64_w, i32_w]
                 rfl
                exact norm_ Q17 (hCont (v131, v138, v142) _ ⟨hHeld, (Q19 HO139), (Q19 HO143), Q22, (Q0 HB)⟩)
              rintro ⟨v131, v138, v142⟩ w52 ⟨hS_, h0_, h1_, h2_, h3_⟩; have HO139 : Aside0 (Kd.R (Kd.int .i64) 3 w52 w.heap.size (fun k_ => some k_ ≠ (v142 : Value).ownBlock ∧ some k_ ≠ (.slice Ao34 x3_1.length co34 : Value).ownBlock) v138 y137) := ⟨h0_⟩; have HO143 : Aside0 (Kd.R (Kd.int .i64) 3 w52 w.heap.size (fun k_ => some k_ ≠ (v138 : Value).ownBlock ∧ some k_ ≠ (.slice Ao34 x3_1.length co34 : Value).ownBlock) v142 y141) := ⟨h1_⟩; replace HO_3 : Aside0 (Kd.R (Kd.int .i64) 3 w52 w.heap.size (fun k_ => some k_ ≠ (v138 : Value).ownBlock ∧ some k_ ≠ (v142 : Value).ownBlock) (.slice Ao34 x3_1.length co34) x3_1) := ⟨h2_⟩; replace HB : Aside0 (Below w.heap.size w w52) := ⟨h3_⟩; clear h0_ h1_ h2_ h3_; have hHeld : w52.cell? (ad140.add (x4_1).toNat) = some (.int .i64 (rd l0 x4_1)) := hS_; have HR136 := am (show Kd.C (Kd.int .i64) w52 Ao34 y133.length y133 from by rw [Ny133.out]; exact Kd.C_take (m := (x5_2 : Int).toNat) ((Kd.R_reads' HO_3.out).2.2) KL45.out); have HR150 := am (show Kd.C (Kd.int .i64) w52 A46 y147.length y147 from by rw [Ny147.out, KA46.out]; exact Kd.C_drop (m := (x5_2 : Int).toNat) (c := co34) ((Kd.R_reads' HO_3.out).2.2) KL46.out ((Kd.R_reads' HO_3.out).2.1)); obtain ⟨Ao54, co54, eo54⟩ := Kd.R_slice HO143.out
              (first | subst eo54 | (injection eo54 with f1_ f2_ f3_; have f4_ := f1_.symm; have f5_ := f3_.symm; clear f1_ f2_ f3_; subst f4_; subst f5_))
              refine norm_ (a' := ?_) ?_ ?_
              rotate_left
              ·simp only [putAll, Act.put, List.setIfInBounds_toArray, List.set_cons_zero, List.set_cons_succ]
               rfl
              refine oq 10 40 rfl rfl HT_ (fun K hK => ?_); refine Kd.R_append_rows_step (Kd.int .i64) (w0 := w) w.heap.size (by rfl) (.tmp 34) (.tmp 39) 25 3 (.int .i64 0) 8 rfl Try.underlying25 info3 rfl (by decide) (by omega) v138 y137 y141 _ _ _ (fun k_ => some k_ ≠ (.slice Ao34 x3_1.length co34 : Value).ownBlock ∧ some k_ ≠ (.slice Ao54 y141.length co54 : Value).ownBlock) (fun _ => False) rfl rfl ?aO ?aR (fun _ _ h => h) (fun _ h => h.elim) ?aF ?aB ?aS ?aL ?_
              (case aR => exact (Q15 HO143))
              (case aB => exact (Q0 HB))
              (case aF => exact (fun k_ hk => ⟨Kd.fresh' (Kd.R_lt Q7) k_ hk, Kd.fresh' (Kd.R_lt (Q2 HO143)) k_ hk⟩))
              (case aO => exact (Q19 HO139))
              (case aS => exact (below_size (Q0 HB)))
              (case aL => have := LMc40.out; omega)
              intro v145 w53 ho hb hg hat; rw [← Ny144.out] at ho; replace HO143 := am (Kd.R_after (ok := (fun k_ => some k_ ≠ (.slice Ao34 x3_1.length co34 : Value).ownBlock)) (Q19 HO143) hg hat); replace HB := am (hb); replace HR136 := am ((show Kd.C (Kd.int .i64) w53 Ao34 y133.length y133 from by rw [Ny133.out]; exact Kd.C_take (m := (x5_2 : Int).toNat) ((Kd.R_reads' (Kd.R_after (ok := (fun k_ => some k_ ≠ (.slice Ao54 y141.length co54 : Value).ownBlock)) Q22 hg hat)).2.2) KL45.out)); replace HR150 := am ((show Kd.C (Kd.int .i64) w53 A46 y147.length y147 from by rw [Ny147.out, KA46.out]; exact Kd.C_drop (m := (x5_2 : Int).toNat) (c := co34) ((Kd.R_reads' (Kd.R_after (ok := (fun k_ => some k_ ≠ (.slice Ao54 y141.length co54 : Value).ownBlock)) Q22 hg hat)).2.2) KL46.out ((Kd.R_reads' (Kd.R_after (ok := (fun k_ => some k_ ≠ (.slice Ao54 y141.length co54 : Value).ownBlock)) Q22 hg hat)).2.1))); replace HO_3 := am (Kd.R_after (ok := (fun k_ => some k_ ≠ (.slice Ao54 y141.length co54 : Value).ownBlock)) Q22 hg hat); have HO146 := am (ho); clear HO139; clear ho hb hg hat; refine hK.out _ _ (((HB.out.cell (World.block_lt_of_cell? w _ hw140_0)).trans hw140_0)) (fun hHeld => ?_); clear hK K; refine norm_ (a' := ?_) ?_ ?_
              rotate_left
              ·show Act.put _ (some 40) _ = _
               simp only [Act.put, List.setIfInBounds_toArray, List.set_cons_zero, List.set_cons_succ, i64_w, i32_w]
               rfl
              refine oq 14 44 rfl rfl HT_ (fun K hK => ?_); refine Kd.R_append_rows_step (Kd.int .i64) (w0 := w) w.heap.size (by rfl) (.tmp 40) (.tmp 43) 25 3 (.int .i64 0) 8 rfl Try.underlying25 info3 rfl (by decide) (by omega) v145 y144 y147 _ _ _ (fun k_ => some k_ ≠ (.slice Ao34 x3_1.length co34 : Value).ownBlock ∧ some k_ ≠ (.slice Ao54 y141.length co54 : Value).ownBlock) (fun _ => False) rfl rfl ?aO ?aR (fun _ _ h => h) (fun _ h => h.elim) ?aF ?aB ?aS ?aL ?_
              (case aR => exact (by repeat (first | exact (Q5 HR150) | (with_reducible refine Kd.C_alloc ?_ _) | (with_reducible refine Kd.C_drewN ?_ _) | (with_reducible refine Kd.C_drew ?_))))
              (case aB => exact (Q0 HB))
              (case aF => exact (fun k_ hk => ⟨Kd.fresh' (Kd.R_lt Q7) k_ hk, Kd.fresh' (Kd.R_lt (Q2 HO143)) k_ hk⟩))
              (case aO => exact (Q2 HO146))
              (case aS => exact (below_size (Q0 HB)))
              (case aL => have := LMc43.out; omega)
              intro v152 w55 ho hb hg hat; rw [← Ny151.out] at ho; replace HO143 := am (Kd.R_after (ok := (fun k_ => some k_ ≠ (.slice Ao34 x3_1.length co34 : Value).ownBlock)) (Q2 HO143) hg hat); replace HB := am (hb); replace HR136 := am ((show Kd.C (Kd.int .i64) w55 Ao34 y133.length y133 from by rw [Ny133.out]; exact Kd.C_take (m := (x5_2 : Int).toNat) ((Kd.R_reads' (Kd.R_after (ok := (fun k_ => some k_ ≠ (.slice Ao54 y141.length co54 : Value).ownBlock)) Q7 hg hat)).2.2) KL45.out)); replace HR150 := am ((show Kd.C (Kd.int .i64) w55 A46 y147.length y147 from by rw [Ny147.out, KA46.out]; exact Kd.C_drop (m := (x5_2 : Int).toNat) (c := co34) ((Kd.R_reads' (Kd.R_after (ok := (fun k_ => some k_ ≠ (.slice Ao54 y141.length co54 : Value).ownBlock)) Q7 hg hat)).2.2) KL46.out ((Kd.R_reads' (Kd.R_after (ok := (fun k_ => some k_ ≠ (.slice Ao54 y141.length co54 : Value).ownBlock)) Q7 hg hat)).2.1))); replace HO_3 := am (Kd.R_after (ok := (fun k_ => some k_ ≠ (.slice Ao54 y141.length co54 : Value).ownBlock)) Q7 hg hat); have HO153 := am (ho); clear HO146; clear ho hb hg hat; refine hK.out _ _ (((HB.out.cell (World.block_lt_of_cell? w _ hw140_0)).trans hw140_0)) (fun hHeld => ?_); clear hK K; refine norm_ (a' := ?_) ?_ ?_
              rotate_left
              ·show Act.put _ (some 44) _ = _
               simp only [Act.put, List.setIfInBounds_toArray, List.set_cons_zero, List.set_cons_succ, i64_w, i32_w]
               rfl
              refine pq 15 3 rfl rfl HT_ ?_; refine done_ (done_of HT_.out (by kernel_rfl)) ?_
              try go_wp2
              go_roundg k2
              case measure => have := HK1.out; have := HK2.out; omega
              case rel => exact ⟨(y151), (wrap64 (x4_1 + 1)), Q8, H', ⟨Q71⟩, ⟨Q42 HO153⟩, ⟨Q0 HB⟩⟩
             ·rw [if_neg c43] at H
              exact absurd H (by simp)
            ·rw [if_neg c40] at H
             exact absurd H (by simp)
           ·rw [if_neg c39] at H
            exact absurd H (by simp)
          ·rw [if_neg c38] at H
           exact absurd H (by simp)
         ·rw [if_neg c37] at H
          exact absurd H (by simp)
        ·rw [if_neg c36] at H
         exact absurd H (by simp)
       ·rw [if_neg c35] at H
        exact absurd H (by simp)
   ·rw [if_neg c4] at H
    have c4b0 := decide_eq_false c4; clear c4; obtain rfl := Option.some.inj H
    go_wp2
    go_ret
    exact ⟨_, Q9, Q7, Q0 HB⟩
/-! ### spec_l4Moves: function 98 -/
mutual
def spec_l4Moves.l0 : Nat → List Int → List (List Int) → Int → Int → List (S71) → Option ((List (List Int)))
 | 0, _, _, _, _, _ => none
 | k + 1, x1, x5, x6, x102000, x102001 => if x6 < (x1.length : Int) then (if 0 ≤ x6 then ((spec_l2Ball.f k x102000 x102001 (rd x1 x6)).bind fun t112 => (spec_l4Moves.l1 k x1 x5 x6 (([] : List (List Int))) t112 0 x102000 x102001)) else (none)) else (spec_l4Moves.l3 k x5 (([] : List (List Int))) 0)
def spec_l4Moves.l1 : Nat → List Int → List (List Int) → Int → List (List Int) → List Int → Int → Int → List (S71) → Option ((List (List Int)))
 | 0, _, _, _, _, _, _, _, _ => none
 | k + 1, x1, x5, x6, x7, x8, x9, x102000, x102001 => if x9 < (x5.length : Int) then (spec_l4Moves.l2 k x1 x5 x6 x7 x8 x9 0 x102000 x102001) else (spec_l4Moves.l0 k x1 x7 (wrap64 (x6 + 1)) x102000 x102001)
def spec_l4Moves.l2 : Nat → List Int → List (List Int) → Int → List (List Int) → List Int → Int → Int → Int → List (S71) → Option ((List (List Int)))
 | 0, _, _, _, _, _, _, _, _, _ => none
 | k + 1, x1, x5, x6, x7, x8, x9, x10, x102000, x102001 => if x10 < (x8.length : Int) then (if 0 ≤ x9 then (if x9 < (x5.length : Int) then ((spec_l1Own.f (rd_L2 x5 x9)).bind fun t116 => (if 0 ≤ x10 then ((some (([rd x8 x10] : List Int) : List Int)).bind fun y120 => (if t116.length + y120.length < 17592186044416 then ((some (([(t116 ++ y120)] : List (List Int)) : List (List Int))).bind fun y126 => (if x7.length + y126.length < 5864062014805 then (spec_l4Moves.l2 k x1 x5 x6 (x7 ++ y126) x8 x9 (wrap64 (x10 + 1)) x102000 x102001) else (none))) else (none))) else (none))) else (none)) else (none)) else (spec_l4Moves.l1 k x1 x5 x6 x7 x8 (wrap64 (x9 + 1)) x102000 x102001)
def spec_l4Moves.l3 : Nat → List (List Int) → List (List Int) → Int → Option ((List (List Int)))
 | 0, _, _, _ => none
 | k + 1, x5, x11, x12 => if x12 < (x5.length : Int) then (if 0 ≤ x12 then ((spec_l4Sorted.f k (rd_L2 x5 x12)).bind fun t136 => ((spec_l4Put.f k x11 t136).bind fun t139 => (spec_l4Moves.l3 k x5 t139 (wrap64 (x12 + 1))))) else (none)) else (some x11)
end
def spec_l4Moves.f (k : Nat) (a0_0 : Int) (l0_1 : List (S71)) (l1 : List Int) : Option ((List (List Int))) := spec_l4Moves.l0 k l1 (([(([] : List Int))] : List (List Int))) 0 a0_0 l0_1
theorem spec_l4Moves.mono_l : ∀ k, (∀ y0 y1 y2 y3 y4, LeO (spec_l4Moves.l0 k y0 y1 y2 y3 y4) (spec_l4Moves.l0 (k + 1) y0 y1 y2 y3 y4)) ∧ (∀ y0 y1 y2 y3 y4 y5 y6 y7, LeO (spec_l4Moves.l1 k y0 y1 y2 y3 y4 y5 y6 y7) (spec_l4Moves.l1 (k + 1) y0 y1 y2 y3 y4 y5 y6 y7)) ∧ (∀ y0 y1 y2 y3 y4 y5 y6 y7 y8, LeO (spec_l4Moves.l2 k y0 y1 y2 y3 y4 y5 y6 y7 y8) (spec_l4Moves.l2 (k + 1) y0 y1 y2 y3 y4 y5 y6 y7 y8)) ∧ (∀ y0 y1 y2, LeO (spec_l4Moves.l3 k y0 y1 y2) (spec_l4Moves.l3 (k + 1) y0 y1 y2))
 | 0 => ⟨fun _ _ _ _ _ r h => by simp [spec_l4Moves.l0] at h, fun _ _ _ _ _ _ _ _ r h => by simp [spec_l4Moves.l1] at h, fun _ _ _ _ _ _ _ _ _ r h => by simp [spec_l4Moves.l2] at h, fun _ _ _ r h => by simp [spec_l4Moves.l3] at h⟩
 | k + 1 => by
  obtain ⟨ih0, ih1, ih2, ih3⟩ := spec_l4Moves.mono_l k; refine ⟨?_, ?_, ?_, ?_⟩
  all_goals
   intros
   first | unfold spec_l4Moves.l0 | unfold spec_l4Moves.l1 | unfold spec_l4Moves.l2 | unfold spec_l4Moves.l3
   repeat' first | (with_reducible first | exact ih0 _ _ _ _ _ | exact ih1 _ _ _ _ _ _ _ _ | exact ih2 _ _ _ _ _ _ _ _ _ | exact ih3 _ _ _ | exact spec_l2Ball.mono _ _ _ _ | exact spec_l4Put.mono _ _ _ | exact spec_l4Sorted.mono _ _ | exact LeO.refl _ | exact LeO.none _ | refine LeO.ite ?_ ?_ | refine LeO.bind ?_ (fun _ => ?_))
theorem spec_l4Moves.mono : ∀ a0 a1 a2 k, LeO (spec_l4Moves.f k a0 a1 a2) (spec_l4Moves.f (k + 1) a0 a1 a2) := by
 intro a0 a1 a2 k
 obtain ⟨ih0, ih1, ih2, ih3⟩ := spec_l4Moves.mono_l k
 unfold spec_l4Moves.f
 repeat' first | (with_reducible first | exact ih0 _ _ _ _ _ | exact ih1 _ _ _ _ _ _ _ _ | exact ih2 _ _ _ _ _ _ _ _ _ | exact ih3 _ _ _ | exact spec_l2Ball.mono _ _ _ _ | exact spec_l4Put.mono _ _ _ | exact spec_l4Sorted.mono _ _ | exact LeO.refl _ | exact LeO.none _ | refine LeO.ite ?_ ?_ | refine LeO.bind ?_ (fun _ => ?_))
def spec_l4Moves.T5 : Bool × List (List Nat × List Nat) := (true, [([], []), ([], []), ([], []), ([], []), ([2, 3], [2, 3]), ([4], [4]), ([1, 5], [1, 5]), ([0, 6, 0], [0]), ([6, 7, 0, 1, 2, 3, 4, 5, 6, 7], [6])])
def spec_l4Moves.B5 : List Nat := [0, 0, 0, 0, 12, 28, 62, 127, 255]
theorem spec_l4Moves.tab5 : rtab .any (opsOf Try.f98 5) = spec_l4Moves.T5 := by kernel_rfl
theorem spec_l4Moves.bits5 : waitsOk spec_l4Moves.T5.2 spec_l4Moves.B5 = true := by kernel_rfl
def spec_l4Moves.T12 : Bool × List (List Nat × List Nat) := (true, [([], []), ([], []), ([], []), ([1, 2], [1, 2]), ([3], [3]), ([4], [4]), ([], []), ([], []), ([6, 7], [6, 7]), ([8], [8]), ([9], [9]), ([5, 10, 5], [5, 10]), ([11], [11]), ([0, 12, 11], [0, 12]), ([13, 13, 0, 1, 2, 3, 4, 5, 6, 7, 8, 9, 10, 11, 12, 13], [0, 13])])
def spec_l4Moves.B12 : List Nat := [0, 0, 0, 6, 14, 30, 0, 0, 192, 448, 960, 2046, 4094, 8191, 16383]
theorem spec_l4Moves.tab12 : rtab .any (opsOf Try.f98 12) = spec_l4Moves.T12 := by kernel_rfl
theorem spec_l4Moves.bits12 : waitsOk spec_l4Moves.T12.2 spec_l4Moves.B12 = true := by kernel_rfl
set_option maxHeartbeats 8000000 in
set_option maxRecDepth 100000 in
theorem spec_l4Moves.calls (k : Nat) (a0_0 : Int) (A0_1 : Option Addr) (c0_1 : Nat) (l0_1 : List (S71)) (A1 : Option Addr) (c1 : Nat) (l1 : List Int) (r : List (List Int)) (w : World) (hr0_1 : Kd.C k71 w A0_1 l0_1.length l0_1) (hc0_1 : l0_1.length ≤ c0_1) (hr1 : Kd.C (Kd.int .i64) w A1 l1.length l1) (hc1 : l1.length ≤ c1) (h : spec_l4Moves.f k a0_0 l0_1 l1 = some r) :
  Calls Try.prog 98 #[.agg #[.int .i64 a0_0, .slice A0_1 l0_1.length c0_1], .slice A1 l1.length c1] w fun e w' => ∃ v0_ : Value, e = .returned (v0_) ∧ Kd.V (Kd.slice 3 (Kd.int .i64)) 25 w' w.heap.size (fun k_ => (w.heap.size ≤ k_)) v0_ r ∧ Below w.heap.size w w' := by
 have hu30 := Try.underlying30
 have HR0_1 := Aside0.mk hr0_1
 have HC0_1 := Aside0.mk hc0_1
 clear hr0_1 hc0_1
 have HR1 := Aside0.mk hr1
 have HC1 := Aside0.mk hc1
 clear hr1 hc1
 have HB := am (Below.refl w.heap.size w)
 have H : (spec_l4Moves.l0 k l1 (([(([] : List Int))] : List (List Int))) 0 a0_0 l0_1) = some r := h
 clear h
 obtain ⟨y102, hy102⟩ : ∃ y_ : List Int, y_ = (([] : List Int)) := ⟨_, rfl⟩
 replace H : (spec_l4Moves.l0 k l1 (([y102] : List (List Int))) 0 a0_0 l0_1) = some r := RH hy102 H
 have Ny102 := Aside0.mk hy102
 clear hy102
 obtain ⟨y105, hy105⟩ : ∃ y_ : List (List Int), y_ = (([y102] : List (List Int))) := ⟨_, rfl⟩
 replace H : (spec_l4Moves.l0 k l1 y105 0 a0_0 l0_1) = some r := RH hy105 H
 have Ny105 := Aside0.mk hy105
 clear hy105
 have H' := Aside0.mk H
 clear H
 go_enter Try.func98, Try.ntmps98
 go_wp2_with (first | ((with_reducible refine gate_dst (N := 2) rfl ?_); refine box_event ?hg (N := 2) ?hd (cs := #[.int .i64 a0_0, .slice A0_1 l0_1.length c0_1]) (t := 30) ?hr ?_; (case hd => rfl); (case hg => rfl); (case hr => first | (go_simp; done) | (go_simp; rfl)); intro gb101 hg w3 hbox hb; have BK101 := am (hbox); have GW101 := am ((Q26 : w.heap.size ≤ gb101)); have GE101 := am ((Q26 : w.heap.size ≤ gb101)); replace HB := am (below_step (Q0 HB) hb); clear hb hbox hg) | ((with_reducible refine gate_dst (N := 13) rfl ?_); refine Kd.R_lit (Kd.int .i64) _ 3 ?hg (N := 13) ?hd (xs := ([] : List Int)) (inner := []) (ok := fun _ => True) (okp := fun _ => True) ?hr ?hp (fun _ hk => hk) trivial (Below.refl _ _) (Nat.le_refl _) (by simp) ?_; (case hd => rfl); (case hg => rfl); (case hr => first | (go_simp; done) | (go_simp; rfl)); (case hp => exact (Reps.none _ _)); intro v103 w4 ho5 hb hg_ hnew_; clear hg_ hnew_; (first | rw [← Ny102.out] at ho5 | (simp only [Int.reduceToNat] at ho5; rw [← Ny102.out] at ho5)); have HO104 := am (Kd.R_lower (Kd.R_newM (M := fun k_ => (w.heap.size ≤ k_)) ho5 (below_size (Q0 HB)) (fun k_ h_ => h_)) (below_size (Q0 HB))); replace BK101 := am (blk_below (g := gb101) (o := .cells #[.int .i64 a0_0, .slice A0_1 l0_1.length c0_1] 30 (0, 0)) (Q1 BK101) hb); replace HB := am (below_step (Q0 HB) hb); clear hb ho5; obtain ⟨Ao6, co6, eo6⟩ := Kd.R_slice HO104.out; subst eo6) | ((with_reducible refine gate_dst (N := 14) rfl ?_); refine Kd.N_lit (Kd.slice 3 (Kd.int .i64)) _ 25 ?hg (N' := 14) ?hd (xs := ([y102] : List (List Int))) (inner := [.slice Ao6 y102.length co6]) (ok := (fun k_ => (w.heap.size ≤ k_) ∧ k_ ≠ gb101)) (okp := (fun k_ => (w.heap.size ≤ k_) ∧ k_ ≠ gb101)) ?hr ?hp (fun _ hk => hk) ((show ∀ k_, w4.heap.size ≤ k_ → (fun k_ => (w.heap.size ≤ k_) ∧ k_ ≠ gb101) k_ from fun k_ hk => ⟨(Nat.le_trans (below_size (Q0 HB)) hk), Kd.freshB (g := gb101) (o := .cells #[.int .i64 a0_0, .slice A0_1 l0_1.length c0_1] 30 (0, 0)) (Q1 BK101) k_ hk⟩) _ (Nat.le_refl _)) (Below.refl _ _) (Nat.le_refl _) (by simp) ?_; (case hd => rfl); (case hg => rfl); (case hr => first | (go_simp; done) | (go_simp; rfl)); (case hp => exact (Reps.one (show Kd.FK (Kd.slice 3 (Kd.int .i64)) _ _ y102 [.slice Ao6 y102.length co6] from (Kd.FK_slice_mk (Kd.R_reads' (Kd.R_mono (ok' := (fun k_ => (w.heap.size ≤ k_) ∧ k_ ≠ gb101)) (Kd.R_types (HO104.out) BK101.out (by decide)) (fun k_ hk => ⟨hk.1.1, hk.2⟩))).2.1 (Kd.R_F (Kd.R_mono (ok' := (fun k_ => (w.heap.size ≤ k_) ∧ k_ ≠ gb101)) (Kd.R_types (HO104.out) BK101.out (by decide)) (fun k_ hk => ⟨hk.1.1, hk.2⟩))))) (Reps.none _ _))); intro v106 w7 ho8 hb hg_ hnew_; clear hg_ hnew_; (first | rw [← Ny105.out] at ho8 | (simp only [Int.reduceToNat] at ho8; rw [← Ny105.out] at ho8)); have HO107 := am (Kd.N_lower ho8 (below_size (Q0 HB))); replace BK101 := am (blk_below (g := gb101) (o := .cells #[.int .i64 a0_0, .slice A0_1 l0_1.length c0_1] 30 (0, 0)) (Q1 BK101) hb); replace HB := am (below_step (Q0 HB) hb); clear HO104; clear hb ho8))
 go_loopg [5, 6] k (fun kq v5 v6 w' => ∃ (x5_1 : List (List Int)) (x6_1 : Int), v6 = .int .i64 x6_1 ∧ Aside0 (spec_l4Moves.l0 kq l1 x5_1 x6_1 a0_0 l0_1 = some r) ∧ Aside0 (kq ≤ k) ∧ Aside0 (Kd.N (Kd.slice 3 (Kd.int .i64)) 25 w' w.heap.size (fun k_ => (w.heap.size ≤ k_) ∧ k_ ≠ gb101) v5 x5_1) ∧ Aside0 (w'.heap[gb101]? = some (.cells #[.int .i64 a0_0, (.slice A0_1 l0_1.length c0_1)] 30 (0, 0))) ∧ Aside0 (Below w.heap.size w w'))
 case atStart => exact ⟨(y105), (0), Q8, H', ⟨Nat.le_refl _⟩, ⟨Q10 HO107⟩, ⟨Q1 BK101⟩, ⟨Q0 HB⟩⟩
 case round =>
  clear H'
  try clear c1
  try clear p2
  obtain ⟨x5_1, x6_1, rfl, HA, HK1, HO_5, BK101, HB⟩ := hrel
  cases gk with
  | zero => exact absurd HA.out (by simp [spec_l4Moves.l0])
  | succ k1 =>
   have H := HA.out; clear HA
   simp only [spec_l4Moves.l0] at H
   by_cases c9 : x6_1 < (l1.length : Int)
   ·rw [if_pos c9] at H
    have c9b0 := decide_eq_true c9; clear c9; obtain ⟨y108, hy108⟩ : ∃ y_ : List (List Int), y_ = (([] : List (List Int))) := ⟨_, rfl⟩; replace H : (if 0 ≤ x6_1 then ((spec_l2Ball.f k1 a0_0 l0_1 (rd l1 x6_1)).bind fun t112 => (spec_l4Moves.l1 k1 l1 x5_1 x6_1 y108 t112 0 a0_0 l0_1)) else (none)) = some r := RH hy108 H; have Ny108 := Aside0.mk hy108; clear hy108
    by_cases c10 : 0 ≤ x6_1
    ·rw [if_pos c10] at H
     have c10b0 := decide_eq_true c10; clear c10; replace H := (ob H); obtain ⟨t112, A110, H⟩ := H; (try dsimp only at H); have A11 := Aside0.mk A110; clear A110; have H' := Aside0.mk H; clear H
     try go_wp2
     replace HO_5 := am (Kd.N_drew HO_5.out); replace BK101 := am (blk_drew BK101.out); replace HB := am (below_drew1 HB.out); have p111 : 0 ≤ (x6_1 : Int) := of_decide_eq_true Q4; have q111 : x6_1 < (l1.length : Int) := of_decide_eq_true Q4; obtain ⟨ad111, e111, hx111_0⟩ := Kd.at_int HR1.out x6_1 p111 q111; have hw111_0 := hx111_0
     cases e111
     replace hx111_0 := (HB.out.cell (World.block_lt_of_cell? w _ hx111_0)).trans hx111_0; replace p111 := eq_true p111; replace q111 := eq_true q111; refine start_ (n := 9) (S := fun w' => w'.cell? ⟨gb101, 0, none⟩ = some (.int .i64 a0_0) ∧ w'.cell? ⟨gb101, 1, none⟩ = some (.slice A0_1 l0_1.length c0_1) ∧ w'.cell? (ad111.add (x6_1).toNat) = some (.int .i64 (rd l1 x6_1))) (ds := []) #[false, false, false, false, false, false, false, false, false] (by kernel_rfl) rfl rfl ⟨(blk_cell BK101.out 0).trans rfl, (blk_cell BK101.out 1).trans rfl, ((HB.out.cell (World.block_lt_of_cell? w _ hw111_0)).trans hw111_0)⟩ (fun hHeld => ?_); refine with_tabW spec_l4Moves.tab5 spec_l4Moves.bits5 (fun HT_ HW_ => ?_); generalize wr.drew = w12 at HO_5 BK101 HB hx111_0 hHeld ⊢; refine pq 2 23 rfl rfl HT_ ?_; refine pq 3 24 rfl rfl HT_ ?_; refine pq 4 25 rfl rfl HT_ ?_; refine tq3 1 22 rfl rfl HT_ HW_ hHeld ?_; refine tq3 5 26 rfl rfl HT_ HW_ hHeld ?_; refine join_ (σ := Value × Value) 2 #[true, true, true, true, true, true, true, false, false] (fun s_ => [(21, s_.1), (27, s_.2)]) (fun s_ w' => (w'.cell? ⟨gb101, 0, none⟩ = some (.int .i64 a0_0) ∧ w'.cell? ⟨gb101, 1, none⟩ = some (.slice A0_1 l0_1.length c0_1) ∧ w'.cell? (ad111.add (x6_1).toNat) = some (.int .i64 (rd l1 x6_1))) ∧ (Kd.N (Kd.slice 3 (Kd.int .i64)) 25 w' w.heap.size (fun k_ => (w.heap.size ≤ k_) ∧ some k_ ≠ (s_.2 : Value).ownBlock ∧ some k_ ≠ (u5 : Value).ownBlock ∧ k_ ≠ gb101) s_.1 y108) ∧ (Kd.R (Kd.int .i64) 3 w' w.heap.size (fun k_ => (w.heap.size ≤ k_)) s_.2 t112) ∧ (Kd.N (Kd.slice 3 (Kd.int .i64)) 25 w' w.heap.size (fun k_ => (w.heap.size ≤ k_) ∧ some k_ ≠ (s_.1 : Value).ownBlock ∧ some k_ ≠ (s_.2 : Value).ownBlock ∧ k_ ≠ gb101) u5 x5_1) ∧ (w'.heap[gb101]? = some (.cells #[.int .i64 a0_0, .slice A0_1 l0_1.length c0_1] 30 (0, 0))) ∧ (Below w.heap.size w w')) ?_ ?_
     rotate_left
     ·intro hCont
      refine two_ (i := 0) (j := 6) (Ni := some 21) (Nj := some 27) #[true, true, true, true, true, true, false, false, false] #[false, true, true, true, true, true, true, false, false] rfl rfl rfl rfl (two_of HT_.out (by kernel_rfl)) (by decide) (by decide) (fun K hK => ?_) (fun K hK => ?_)
      ·skip
       refine Kd.N_lit_step (Kd.slice 3 (Kd.int .i64)) _ 25 ?hg (N' := 21) ?hd (xs := ([] : List (List Int))) (inner := []) (ok := (fun k_ => (w.heap.size ≤ k_) ∧ some k_ ≠ (u5 : Value).ownBlock ∧ k_ ≠ gb101)) (okp := (fun k_ => (w.heap.size ≤ k_) ∧ some k_ ≠ (u5 : Value).ownBlock ∧ k_ ≠ gb101)) ?hr ?hp (fun _ hk => hk) ((show ∀ k_, w12.heap.size ≤ k_ → (fun k_ => (w.heap.size ≤ k_) ∧ some k_ ≠ (u5 : Value).ownBlock ∧ k_ ≠ gb101) k_ from fun k_ hk => ⟨(Nat.le_trans (below_size (Q0 HB)) hk), Kd.fresh' (Kd.N_lt Q16) k_ hk, Kd.freshB (g := gb101) (o := .cells #[.int .i64 a0_0, .slice A0_1 l0_1.length c0_1] 30 (0, 0)) (Q1 BK101) k_ hk⟩) _ (Nat.le_refl _)) (Below.refl _ _) (Nat.le_refl _) (by simp) ?_; (case hd => rfl); (case hg => rfl); (case hr => first | (go_simp; done) | (go_simp; rfl)); (case hp => exact (Reps.none _ _)); intro v109 w13 ho14 hb hg_ hnew_; clear hg_ hnew_
       (first | rw [← Ny108.out] at ho14 | (simp only [Int.reduceToNat] at ho14; rw [← Ny108.out] at ho14))
       replace HO_5 := am (Kd.N_elder' Q16 (Kd.N_base ho14) hb); have HO110 := am (Kd.N_lower ho14 (below_size (Q0 HB))); replace BK101 := am (blk_below (g := gb101) (o := .cells #[.int .i64 a0_0, .slice A0_1 l0_1.length c0_1] 30 (0, 0)) (Q1 BK101) hb); replace HB := am (below_step (Q0 HB) hb); clear hb ho14; refine hK.out _ _ ⟨(blk_cell BK101.out 0).trans rfl, (blk_cell BK101.out 1).trans rfl, ((HB.out.cell (World.block_lt_of_cell? w _ hw111_0)).trans hw111_0)⟩ (fun hHeld => ?_); clear hK K; refine norm_ (a' := ?_) ?_ ?_
       rotate_left
       ·show Act.put _ (some 21) _ = _
        simp only [Act.put, List.setIfInBounds_toArray, List.set_cons_zero, List.set_cons_succ, i64_w, i32_w]
        rfl
       refine oq 6 27 rfl rfl HT_ (fun K hK => ?_); refine goes_ Try.func170 (by kernel_rfl) rfl #[.agg #[.int .i64 a0_0, .slice A0_1 l0_1.length c0_1], .int .i64 (rd l1 x6_1)] (by rfl) rfl rfl Q3 ?_
       with_reducible refine (spec_l2Ball.calls k1 a0_0 _ _ l0_1 (rd l1 x6_1) t112 _ ?side1 ?side2 A11.out).mono ?_
       (case side1 => exact (Q6 HR0_1 HB))
       (case side2 => exact HC0_1.out)
       rintro e w15 ⟨v113, rfl, ho0, hb⟩; refine ⟨_, rfl, ?_⟩; replace HO_5 := am (Kd.N_elder' Q16 (Kd.R_base ho0) hb); replace HO110 := am (Kd.N_elder' (Q10 HO110) (Kd.R_base ho0) hb); have HO114 := am (Kd.R_lower (Kd.R_newM (M := fun k_ => (w.heap.size ≤ k_)) ho0 (below_size (Q0 HB)) (fun k_ h_ => h_)) (below_size (Q0 HB))); replace BK101 := am (blk_below (g := gb101) (o := .cells #[.int .i64 a0_0, .slice A0_1 l0_1.length c0_1] 30 (0, 0)) (Q1 BK101) hb); replace HB := am (below_step (Q0 HB) hb); (try clear hb); (try clear hb2); (try clear hk); (try clear hi); (try clear ho0); refine hK.out _ _ ⟨(blk_cell BK101.out 0).trans rfl, (blk_cell BK101.out 1).trans rfl, ((HB.out.cell (World.block_lt_of_cell? w _ hw111_0)).trans hw111_0)⟩ (fun hHeld => ?_); clear hK K; refine norm_ (a' := ?_) ?_ ?_
       rotate_left
       ·show Act.put _ (some 27) _ = _
        simp only [Act.put, List.setIfInBounds_toArray, List.set_cons_zero, List.set_cons_succ, i64_w, i32_w]
        rfl
       exact norm_ Q17 (hCont (v109, v113) _ ⟨hHeld, (by (with_reducible repeat (first | apply Kd.N_alloc | apply Kd.N_drewN | apply Kd.N_drew)); exact Kd.N_mono HO110.out (fun _ hk => ⟨hk.1.1, ⟨hk.2, ⟨hk.1.2.1, hk.1.2.2⟩⟩⟩)), (by (with_reducible repeat (first | apply Kd.R_alloc | apply Kd.R_drewN | apply Kd.R_drew)); exact Kd.R_mono HO114.out (fun _ hk => hk.1)), (by (with_reducible repeat (first | apply Kd.N_alloc | apply Kd.N_drewN | apply Kd.N_drew)); exact Kd.N_mono HO_5.out (fun _ hk => ⟨hk.1.1.1, ⟨hk.1.2, ⟨hk.2, hk.1.1.2⟩⟩⟩)), (Q1 BK101), (Q0 HB)⟩)
      ·skip
       refine goes_ Try.func170 (by kernel_rfl) rfl #[.agg #[.int .i64 a0_0, .slice A0_1 l0_1.length c0_1], .int .i64 (rd l1 x6_1)] (by rfl) rfl rfl Q3 ?_
       with_reducible refine (spec_l2Ball.calls k1 a0_0 _ _ l0_1 (rd l1 x6_1) t112 _ ?side1 ?side2 A11.out).mono ?_
       (case side1 => exact (Q6 HR0_1 HB))
       (case side2 => exact HC0_1.out)
       rintro e w13 ⟨v113, rfl, ho0, hb⟩; refine ⟨_, rfl, ?_⟩; replace HO_5 := am (Kd.N_elder' Q16 (Kd.R_base ho0) hb); have HO114 := am (Kd.R_lower (Kd.R_newM (M := fun k_ => (w.heap.size ≤ k_)) ho0 (below_size (Q0 HB)) (fun k_ h_ => h_)) (below_size (Q0 HB))); replace BK101 := am (blk_below (g := gb101) (o := .cells #[.int .i64 a0_0, .slice A0_1 l0_1.length c0_1] 30 (0, 0)) (Q1 BK101) hb); replace HB := am (below_step (Q0 HB) hb); (try clear hb); (try clear hb2); (try clear hk); (try clear hi); (try clear ho0); refine hK.out _ _ ⟨(blk_cell BK101.out 0).trans rfl, (blk_cell BK101.out 1).trans rfl, ((HB.out.cell (World.block_lt_of_cell? w _ hw111_0)).trans hw111_0)⟩ (fun hHeld => ?_); clear hK K; refine norm_ (a' := ?_) ?_ ?_
       rotate_left
       ·show Act.put _ (some 27) _ = _
        simp only [Act.put, List.setIfInBounds_toArray, List.set_cons_zero, List.set_cons_succ, i64_w, i32_w]
        rfl
       refine oq 0 21 rfl rfl HT_ (fun K hK => ?_); refine Kd.N_lit_step (Kd.slice 3 (Kd.int .i64)) _ 25 ?hg (N' := 21) ?hd (xs := ([] : List (List Int))) (inner := []) (ok := (fun k_ => (w.heap.size ≤ k_) ∧ some k_ ≠ (u5 : Value).ownBlock ∧ some k_ ≠ (v113 : Value).ownBlock ∧ k_ ≠ gb101)) (okp := (fun k_ => (w.heap.size ≤ k_) ∧ some k_ ≠ (u5 : Value).ownBlock ∧ some k_ ≠ (v113 : Value).ownBlock ∧ k_ ≠ gb101)) ?hr ?hp (fun _ hk => hk) ((show ∀ k_, w13.heap.size ≤ k_ → (fun k_ => (w.heap.size ≤ k_) ∧ some k_ ≠ (u5 : Value).ownBlock ∧ some k_ ≠ (v113 : Value).ownBlock ∧ k_ ≠ gb101) k_ from fun k_ hk => ⟨(Nat.le_trans (below_size (Q0 HB)) hk), Kd.fresh' (Kd.N_lt Q16) k_ hk, Kd.fresh' (Kd.R_lt (Q2 HO114)) k_ hk, Kd.freshB (g := gb101) (o := .cells #[.int .i64 a0_0, .slice A0_1 l0_1.length c0_1] 30 (0, 0)) (Q1 BK101) k_ hk⟩) _ (Nat.le_refl _)) (Below.refl _ _) (Nat.le_refl _) (by simp) ?_; (case hd => rfl); (case hg => rfl); (case hr => first | (go_simp; done) | (go_simp; rfl)); (case hp => exact (Reps.none _ _)); intro v109 w14 ho15 hb hg_ hnew_; clear hg_ hnew_
       (first | rw [← Ny108.out] at ho15 | (simp only [Int.reduceToNat] at ho15; rw [← Ny108.out] at ho15))
       replace HO_5 := am (Kd.N_elder' Q16 (Kd.N_base ho15) hb); replace HO114 := am (Kd.R_below (Q2 HO114) hb); have HO110 := am (Kd.N_lower ho15 (below_size (Q0 HB))); replace BK101 := am (blk_below (g := gb101) (o := .cells #[.int .i64 a0_0, .slice A0_1 l0_1.length c0_1] 30 (0, 0)) (Q1 BK101) hb); replace HB := am (below_step (Q0 HB) hb); clear hb ho15; refine hK.out _ _ ⟨(blk_cell BK101.out 0).trans rfl, (blk_cell BK101.out 1).trans rfl, ((HB.out.cell (World.block_lt_of_cell? w _ hw111_0)).trans hw111_0)⟩ (fun hHeld => ?_); clear hK K; refine norm_ (a' := ?_) ?_ ?_
       rotate_left
       ·show Act.put _ (some 21) _ = _
        simp only [Act.put, List.setIfInBounds_toArray, List.set_cons_zero, List.set_cons_succ, i64_w, i32_w]
        rfl
       exact norm_ Q17 (hCont (v109, v113) _ ⟨hHeld, (by (with_reducible repeat (first | apply Kd.N_alloc | apply Kd.N_drewN | apply Kd.N_drew)); exact Kd.N_mono HO110.out (fun _ hk => ⟨hk.1, ⟨hk.2.2.1, ⟨hk.2.1, hk.2.2.2⟩⟩⟩)), (by (with_reducible repeat (first | apply Kd.R_alloc | apply Kd.R_drewN | apply Kd.R_drew)); exact Kd.R_mono HO114.out (fun _ hk => hk.1)), (by (with_reducible repeat (first | apply Kd.N_alloc | apply Kd.N_drewN | apply Kd.N_drew)); exact Kd.N_mono HO_5.out (fun _ hk => ⟨hk.1.1.1, ⟨hk.2, ⟨hk.1.2, hk.1.1.2⟩⟩⟩)), (Q1 BK101), (Q0 HB)⟩)
     rintro ⟨v109, v113⟩ w16 ⟨hS_, h0_, h1_, h2_, h3_, h4_⟩; have HO110 : Aside0 (Kd.N (Kd.slice 3 (Kd.int .i64)) 25 w16 w.heap.size (fun k_ => (w.heap.size ≤ k_) ∧ some k_ ≠ (v113 : Value).ownBlock ∧ some k_ ≠ (u5 : Value).ownBlock ∧ k_ ≠ gb101) v109 y108) := ⟨h0_⟩; have HO114 : Aside0 (Kd.R (Kd.int .i64) 3 w16 w.heap.size (fun k_ => (w.heap.size ≤ k_)) v113 t112) := ⟨h1_⟩; replace HO_5 : Aside0 (Kd.N (Kd.slice 3 (Kd.int .i64)) 25 w16 w.heap.size (fun k_ => (w.heap.size ≤ k_) ∧ some k_ ≠ (v109 : Value).ownBlock ∧ some k_ ≠ (v113 : Value).ownBlock ∧ k_ ≠ gb101) u5 x5_1) := ⟨h2_⟩; replace BK101 : Aside0 (w16.heap[gb101]? = some (.cells #[.int .i64 a0_0, .slice A0_1 l0_1.length c0_1] 30 (0, 0))) := ⟨h3_⟩; replace HB : Aside0 (Below w.heap.size w w16) := ⟨h4_⟩; clear h0_ h1_ h2_ h3_ h4_; have hHeld : w16.cell? ⟨gb101, 0, none⟩ = some (.int .i64 a0_0) ∧ w16.cell? ⟨gb101, 1, none⟩ = some (.slice A0_1 l0_1.length c0_1) ∧ w16.cell? (ad111.add (x6_1).toNat) = some (.int .i64 (rd l1 x6_1)) := hS_; refine norm_ (a' := ?_) ?_ ?_
     rotate_left
     ·simp only [putAll, Act.put, List.setIfInBounds_toArray, List.set_cons_zero, List.set_cons_succ]
      rfl
     refine pq 7 7 rfl rfl HT_ ?_; refine pq 8 8 rfl rfl HT_ ?_; refine done_ (done_of HT_.out (by kernel_rfl)) ?_
     try go_wp2
     go_loopg [7, 9] k1 (fun kq v7 v9 w' => ∃ (x7_2 : List (List Int)) (x9_2 : Int), v9 = .int .i64 x9_2 ∧ Aside0 (spec_l4Moves.l1 kq l1 x5_1 x6_1 x7_2 t112 x9_2 a0_0 l0_1 = some r) ∧ Aside0 (kq ≤ k1) ∧ Aside0 (Kd.N (Kd.slice 3 (Kd.int .i64)) 25 w' w.heap.size (fun k_ => (w.heap.size ≤ k_) ∧ some k_ ≠ (v7 : Value).ownBlock ∧ some k_ ≠ (v113 : Value).ownBlock ∧ k_ ≠ gb101) u5 x5_1) ∧ Aside0 (Kd.N (Kd.slice 3 (Kd.int .i64)) 25 w' w.heap.size (fun k_ => (w.heap.size ≤ k_) ∧ some k_ ≠ (u5 : Value).ownBlock ∧ some k_ ≠ (v113 : Value).ownBlock ∧ k_ ≠ gb101) v7 x7_2) ∧ Aside0 (Kd.R (Kd.int .i64) 3 w' w.heap.size (fun k_ => (w.heap.size ≤ k_)) v113 t112) ∧ Aside0 (w'.heap[gb101]? = some (.cells #[.int .i64 a0_0, (.slice A0_1 l0_1.length c0_1)] 30 (0, 0))) ∧ Aside0 (Below w.heap.size w w'))
     case atStart => exact ⟨(y108), (0), Q8, H', ⟨Nat.le_refl _⟩, ⟨Q16⟩, ⟨by (with_reducible repeat (first | apply Kd.N_alloc | apply Kd.N_drewN | apply Kd.N_drew)); exact Kd.N_mono HO110.out (fun _ hk => ⟨hk.1, ⟨hk.2.2.1, ⟨hk.2.1, hk.2.2.2⟩⟩⟩)⟩, ⟨Q2 HO114⟩, ⟨Q1 BK101⟩, ⟨Q0 HB⟩⟩
     case round =>
      clear H'
      try clear c1
      try clear p1
      try clear q1
      try clear hx1
      try clear p2
      try clear c9
      try clear c9b0
      try clear c10
      try clear c10b0
      try clear p11
      try clear q11
      try clear hx11
      try clear hx111_0
      try clear p111
      try clear p2
      try clear q111
      obtain ⟨x7_2, x9_2, rfl, HA, HK2, HO_5, HO_7, HO_8, BK101, HB⟩ := hrel
      cases gk with
      | zero => exact absurd HA.out (by simp [spec_l4Moves.l1])
      | succ k2 =>
       have H := HA.out; clear HA
       simp only [spec_l4Moves.l1] at H
       by_cases c17 : x9_2 < (x5_1.length : Int)
       ·rw [if_pos c17] at H
        have c17b0 := decide_eq_true c17; clear c17; have H' := Aside0.mk H; clear H; obtain ⟨Ao18, co18, eo18⟩ := Kd.N_slice HO_5.out; subst eo18
        go_wp2
        go_loopg [7, 10] k2 (fun kq v7 v10 w' => ∃ (x7_3 : List (List Int)) (x10_3 : Int), v10 = .int .i64 x10_3 ∧ Aside0 (spec_l4Moves.l2 kq l1 x5_1 x6_1 x7_3 t112 x9_2 x10_3 a0_0 l0_1 = some r) ∧ Aside0 (kq ≤ k2) ∧ Aside0 (Kd.N (Kd.slice 3 (Kd.int .i64)) 25 w' w.heap.size (fun k_ => (w.heap.size ≤ k_) ∧ some k_ ≠ (v7 : Value).ownBlock ∧ some k_ ≠ (v113 : Value).ownBlock ∧ k_ ≠ gb101) (.slice Ao18 x5_1.length co18) x5_1) ∧ Aside0 (Kd.N (Kd.slice 3 (Kd.int .i64)) 25 w' w.heap.size (fun k_ => (w.heap.size ≤ k_) ∧ some k_ ≠ ((.slice Ao18 x5_1.length co18) : Value).ownBlock ∧ some k_ ≠ (v113 : Value).ownBlock ∧ k_ ≠ gb101) v7 x7_3) ∧ Aside0 (Kd.R (Kd.int .i64) 3 w' w.heap.size (fun k_ => (w.heap.size ≤ k_)) v113 t112) ∧ Aside0 (w'.heap[gb101]? = some (.cells #[.int .i64 a0_0, (.slice A0_1 l0_1.length c0_1)] 30 (0, 0))) ∧ Aside0 (Below w.heap.size w w'))
        case atStart => exact ⟨(x7_2), (0), Q8, H', ⟨Nat.le_refl _⟩, ⟨Q16⟩, ⟨Q34⟩, ⟨Q23⟩, ⟨Q1 BK101⟩, ⟨Q0 HB⟩⟩
        case round =>
         clear H'
         try clear c1
         try clear p1
         try clear q1
         try clear hx1
         try clear p2
         try clear c9
         try clear c9b0
         try clear c10
         try clear c10b0
         try clear p11
         try clear q11
         try clear hx11
         try clear c17
         try clear c17b0
         try clear hx111_0
         try clear p1
         try clear p11
         try clear p111
         try clear p2
         try clear q1
         try clear q11
         try clear q111
         obtain ⟨x7_3, x10_3, rfl, HA, HK3, HO_5, HO_7, HO_8, BK101, HB⟩ := hrel
         cases gk with
         | zero => exact absurd HA.out (by simp [spec_l4Moves.l2])
         | succ k3 =>
          have H := HA.out; clear HA
          simp only [spec_l4Moves.l2] at H
          by_cases c19 : x10_3 < (t112.length : Int)
          ·rw [if_pos c19] at H
           have c19b0 := decide_eq_true c19; clear c19
           by_cases c20 : 0 ≤ x9_2
           ·rw [if_pos c20] at H
            have c20b0 := decide_eq_true c20; clear c20
            by_cases c21 : x9_2 < (x5_1.length : Int)
            ·rw [if_pos c21] at H
             have c21b0 := decide_eq_true c21; clear c21; replace H := (ob H); obtain ⟨t116, A220, H⟩ := H; (try dsimp only at H); have A22 := Aside0.mk A220; clear A220
             by_cases c23 : 0 ≤ x10_3
             ·rw [if_pos c23] at H
              have c23b0 := decide_eq_true c23; clear c23; obtain ⟨y120, hy120⟩ : ∃ y_ : List Int, y_ = (([rd t112 x10_3] : List Int)) := ⟨_, rfl⟩; replace H : (if t116.length + y120.length < 17592186044416 then ((some (([(t116 ++ y120)] : List (List Int)) : List (List Int))).bind fun y126 => (if x7_3.length + y126.length < 5864062014805 then (spec_l4Moves.l2 k3 l1 x5_1 x6_1 (x7_3 ++ y126) t112 x9_2 (wrap64 (x10_3 + 1)) a0_0 l0_1) else (none))) else (none)) = some r := RH hy120 H; have Ny120 := Aside0.mk hy120; clear hy120
              by_cases c24 : t116.length + y120.length < 17592186044416
              ·rw [if_pos c24] at H
               have LMc24 := Aside0.mk c24; clear c24; obtain ⟨y123, hy123⟩ : ∃ y_ : List Int, y_ = (t116 ++ y120) := ⟨_, rfl⟩; replace H : ((some (([y123] : List (List Int)) : List (List Int))).bind fun y126 => (if x7_3.length + y126.length < 5864062014805 then (spec_l4Moves.l2 k3 l1 x5_1 x6_1 (x7_3 ++ y126) t112 x9_2 (wrap64 (x10_3 + 1)) a0_0 l0_1) else (none))) = some r := RH hy123 H; have Ny123 := Aside0.mk hy123; clear hy123; obtain ⟨y126, hy126⟩ : ∃ y_ : List (List Int), y_ = (([y123] : List (List Int))) := ⟨_, rfl⟩; replace H : (if x7_3.length + y126.length < 5864062014805 then (spec_l4Moves.l2 k3 l1 x5_1 x6_1 (x7_3 ++ y126) t112 x9_2 (wrap64 (x10_3 + 1)) a0_0 l0_1) else (none)) = some r := RH hy126 H; have Ny126 := Aside0.mk hy126; clear hy126
               by_cases c25 : x7_3.length + y126.length < 5864062014805
               ·rw [if_pos c25] at H
                have LMc25 := Aside0.mk c25; clear c25; obtain ⟨y129, hy129⟩ : ∃ y_ : List (List Int), y_ = (x7_3 ++ y126) := ⟨_, rfl⟩; replace H : (spec_l4Moves.l2 k3 l1 x5_1 x6_1 y129 t112 x9_2 (wrap64 (x10_3 + 1)) a0_0 l0_1) = some r := RH hy129 H; have Ny129 := Aside0.mk hy129; clear hy129; have H' := Aside0.mk H; clear H; obtain ⟨Ao26, co26, eo26⟩ := Kd.R_slice HO_8.out; subst eo26; obtain ⟨Ao27, co27, eo27⟩ := Kd.N_slice HO_7.out; subst eo27
                try go_wp2
                replace HO_5 := am (Kd.N_drew HO_5.out); replace HO_7 := am (Kd.N_drew HO_7.out); replace HO_8 := am (Kd.R_drew HO_8.out); replace BK101 := am (blk_drew BK101.out); replace HB := am (below_drew1 HB.out); have p115 : 0 ≤ (x9_2 : Int) := of_decide_eq_true Q4; have q115 : x9_2 < (x5_1.length : Int) := of_decide_eq_true Q4; obtain ⟨ad115, A115_0, c115_0, e115, hx115_0, hl115_0, hi115_0⟩ := at_L2 (Kd.N_reads' HO_5.out).2.2 x9_2 p115 q115
                cases e115
                obtain ⟨ce115, hce115, hMe115, hcc115⟩ := Kd.N_get HO_5.out [] x9_2 p115 (by first | exact q115 | exact of_decide_eq_true Q4 | (have e_ := (Kd.N_reads' HO_5.out).1; omega)); obtain ⟨ua115_0, uc115_0, rfl, ul115_0, ge115_0⟩ := Kd.FK_slice_open hMe115; have hv115_0 := hcc115 0 _ rfl; rw [Nat.add_zero, show ((Kd.slice 3 (Kd.int .i64))).sz = 1 from rfl, Nat.mul_one] at hv115_0; replace hv115_0 := Option.some.inj (hv115_0.symm.trans hx115_0)
                injection hv115_0 with hva_ hvn_ hvc_
                rw [hva_] at ge115_0; rw [hvc_] at ul115_0; have HL115_0 := am (show Kd.V (Kd.int .i64) 3 _ w.heap.size _ _ (rd_L2 x5_1 x9_2) from Kd.V_mk ul115_0 ge115_0); clear hva_ hvn_ hvc_ ge115_0 ul115_0; clear hcc115 hce115; have HR115_0 := Aside0.mk hi115_0; have HC115_0 := Aside0.mk hl115_0; clear hi115_0 hl115_0; replace p115 := eq_true p115; replace q115 := eq_true q115; have p119 : 0 ≤ (x10_3 : Int) := of_decide_eq_true Q4; have q119 : x10_3 < (t112.length : Int) := of_decide_eq_true Q4; obtain ⟨ad119, e119, hx119_0⟩ := Kd.at_int (Kd.R_reads' HO_8.out).2.2 x10_3 p119 q119
                cases e119
                replace p119 := eq_true p119; replace q119 := eq_true q119; refine start_ (n := 15) (S := fun w' => w'.cell? (ad115.add (x9_2).toNat) = some (.slice A115_0 (rd_L2 x5_1 x9_2).length c115_0) ∧ w'.cell? (ad119.add (x10_3).toNat) = some (.int .i64 (rd t112 x10_3))) (ds := [11, 12, 13]) #[false, false, false, false, false, false, false, false, false, false, false, false, false, false, false] (by kernel_rfl) rfl rfl ⟨hx115_0, hx119_0⟩ (fun hHeld => ?_); refine with_tabW spec_l4Moves.tab12 spec_l4Moves.bits12 (fun HT_ HW_ => ?_); generalize wr.drew = w28 at HO_5 HO_7 HO_8 BK101 HB HL115_0 HR115_0 hx115_0 hx119_0 hHeld ⊢; refine pq 0 40 rfl rfl HT_ ?_; refine pq 1 41 rfl rfl HT_ ?_; refine pq 2 42 rfl rfl HT_ ?_; refine pq 3 43 rfl rfl HT_ ?_; refine pq 6 46 rfl rfl HT_ ?_; refine pq 7 47 rfl rfl HT_ ?_; refine pq 8 48 rfl rfl HT_ ?_; refine tq2 4 44 rfl rfl HT_ HW_ hHeld ?_; refine tq2 9 49 rfl rfl HT_ HW_ hHeld ?_; refine join_ (σ := Value × Value) 4 #[true, true, true, true, true, true, true, true, true, true, true, false, false, false, false] (fun s_ => [(45, s_.1), (50, s_.2)]) (fun s_ w' => (w'.cell? (ad115.add (x9_2).toNat) = some (.slice A115_0 (rd_L2 x5_1 x9_2).length c115_0) ∧ w'.cell? (ad119.add (x10_3).toNat) = some (.int .i64 (rd t112 x10_3))) ∧ (Kd.V (Kd.int .i64) 3 w' w.heap.size (fun k_ => (w.heap.size ≤ k_) ∧ some k_ ≠ (s_.1 : Value).ownBlock ∧ some k_ ≠ (s_.2 : Value).ownBlock ∧ some k_ ≠ (.slice (some ad115) x5_1.length co18 : Value).ownBlock ∧ some k_ ≠ (.slice Ao27 x7_3.length co27 : Value).ownBlock ∧ some k_ ≠ (.slice (some ad119) t112.length co26 : Value).ownBlock ∧ k_ ≠ gb101) (.slice A115_0 (rd_L2 x5_1 x9_2).length c115_0) (rd_L2 x5_1 x9_2)) ∧ (Kd.R (Kd.int .i64) 3 w' w.heap.size (fun k_ => (w.heap.size ≤ k_) ∧ some k_ ≠ (s_.2 : Value).ownBlock ∧ some k_ ≠ (.slice (some ad119) t112.length co26 : Value).ownBlock) s_.1 t116) ∧ (Kd.R (Kd.int .i64) 3 w' w.heap.size (fun k_ => (w.heap.size ≤ k_) ∧ some k_ ≠ (s_.1 : Value).ownBlock ∧ some k_ ≠ (.slice (some ad119) t112.length co26 : Value).ownBlock) s_.2 y120) ∧ (Kd.N (Kd.slice 3 (Kd.int .i64)) 25 w' w.heap.size (fun k_ => (w.heap.size ≤ k_) ∧ some k_ ≠ (s_.1 : Value).ownBlock ∧ some k_ ≠ (s_.2 : Value).ownBlock ∧ some k_ ≠ (.slice Ao27 x7_3.length co27 : Value).ownBlock ∧ some k_ ≠ (.slice (some ad119) t112.length co26 : Value).ownBlock ∧ k_ ≠ gb101) (.slice (some ad115) x5_1.length co18) x5_1) ∧ (Kd.N (Kd.slice 3 (Kd.int .i64)) 25 w' w.heap.size (fun k_ => (w.heap.size ≤ k_) ∧ some k_ ≠ (s_.1 : Value).ownBlock ∧ some k_ ≠ (s_.2 : Value).ownBlock ∧ some k_ ≠ (.slice (some ad115) x5_1.length co18 : Value).ownBlock ∧ some k_ ≠ (.slice (some ad119) t112.length co26 : Value).ownBlock ∧ k_ ≠ gb101) (.slice Ao27 x7_3.length co27) x7_3) ∧ (Kd.R (Kd.int .i64) 3 w' w.heap.size (fun k_ => (w.heap.size ≤ k_) ∧ some k_ ≠ (s_.1 : Value).ownBlock ∧ some k_ ≠ (s_.2 : Value).ownBlock) (.slice (some ad119) t112.length co26) t112) ∧ (w'.heap[gb101]? = some (.cells #[.int .i64 a0_0, .slice A0_1 l0_1.length c0_1] 30 (0, 0))) ∧ (Below w.heap.size w w')) ?_ ?_
                rotate_left
                ·intro hCont
                 refine two_ (i := 5) (j := 10) (Ni := some 45) (Nj := some 50) #[true, true, true, true, true, true, true, true, true, true, false, false, false, false, false] #[true, true, true, true, true, false, true, true, true, true, true, false, false, false, false] rfl rfl rfl rfl (two_of HT_.out (by kernel_rfl)) (by decide) (by decide) (fun K hK => ?_) (fun K hK => ?_)
                 ·skip
                  refine goes_ Try.func171 (by kernel_rfl) rfl #[.slice A115_0 (rd_L2 x5_1 x9_2).length c115_0] (by rfl) rfl rfl Q3 ?_
                  with_reducible refine (spec_l1Own.calls _ _ (rd_L2 x5_1 x9_2) t116 _ ?side1 ?side2 A22.out).mono ?_
                  (case side1 => exact Q84)
                  (case side2 => exact HC115_0.out)
                  rintro e w29 ⟨v117, rfl, ho0, hb⟩; have HS0_ := (hb.cell (World.block_lt_of_cell? _ _ (hHeld.1))).trans (hHeld.1); have HS1_ := (hb.cell (World.block_lt_of_cell? _ _ (hHeld.2))).trans (hHeld.2); refine ⟨_, rfl, ?_⟩; replace HO_5 := am (Kd.N_elder' Q16 (Kd.R_base ho0) hb); replace HO_7 := am (Kd.N_elder' Q34 (Kd.R_base ho0) hb); replace HL115_0 := am (Kd.V_elder' Q58 (Kd.R_base ho0) hb); have HO118 := am (Kd.R_lower (Kd.R_new' (Kd.R_newM (M := fun k_ => (w.heap.size ≤ k_)) ho0 (below_size (Q0 HB)) (fun k_ h_ => h_)) (Kd.R_lt Q23)) (below_size (Q0 HB))); replace HO_8 := am (Kd.R_elder' Q23 (Kd.R_base ho0) hb); replace BK101 := am (blk_below (g := gb101) (o := .cells #[.int .i64 a0_0, .slice A0_1 l0_1.length c0_1] 30 (0, 0)) (Q1 BK101) hb); replace HR115_0 := am (Kd.C_below (Q5 HR115_0) hb); replace HB := am (below_step (Q0 HB) hb); (try clear hb); (try clear hb2); (try clear hk); (try clear hi); (try clear ho0); refine hK.out _ _ ⟨HS0_, HS1_⟩ (fun hHeld => ?_); clear hK K; refine norm_ (a' := ?_) ?_ ?_
                  rotate_left
                  ·show Act.put _ (some 45) _ = _
                   simp only [Act.put, List.setIfInBounds_toArray, List.set_cons_zero, List.set_cons_succ, i64_w, i32_w]
                   rfl
                  refine oq 10 50 rfl rfl HT_ (fun K hK => ?_); refine Kd.R_lit_step (Kd.int .i64) _ 3 ?hg (N := 50) ?hd (xs := ([rd t112 x10_3] : List Int)) (inner := [.int .i64 (rd t112 x10_3)]) (ok := fun _ => True) (okp := fun _ => True) ?hr ?hp (fun _ hk => hk) trivial (Below.refl _ _) (Nat.le_refl _) (by simp) ?_; (case hd => rfl); (case hg => rfl); (case hr => first | (go_simp; done) | (go_simp; rfl)); (case hp => exact (Reps.one (show Kd.M (Kd.int .i64) _ _ _ (rd t112 x10_3) [.int .i64 (rd t112 x10_3)] from rfl) (Reps.none _ _))); intro v121 w30 ho31 hb hg_ hnew_; have HS0_ := (hb.cell (World.block_lt_of_cell? _ _ (hHeld.1))).trans (hHeld.1); have HS1_ := (hb.cell (World.block_lt_of_cell? _ _ (hHeld.2))).trans (hHeld.2); clear hg_ hnew_
                  (first | rw [← Ny120.out] at ho31 | (simp only [Int.reduceToNat] at ho31; rw [← Ny120.out] at ho31))
                  replace HO_5 := am (Kd.N_elder' Q16 (Kd.R_base ho31) hb); replace HO_7 := am (Kd.N_elder' Q34 (Kd.R_base ho31) hb); replace HL115_0 := am (Kd.V_elder' Q58 (Kd.R_base ho31) hb); have HO122 := am (Kd.R_lower (Kd.R_new' (Kd.R_new' (Kd.R_newM (M := fun k_ => (w.heap.size ≤ k_)) ho31 (below_size (Q0 HB)) (fun k_ h_ => h_)) (Kd.R_lt Q23)) (Kd.R_lt (Q2 HO118))) (below_size (Q0 HB))); replace HO_8 := am (Kd.R_elder' Q23 (Kd.R_base ho31) hb); replace HO118 := am (Kd.R_elder' (Q2 HO118) (Kd.R_base ho31) hb); replace BK101 := am (blk_below (g := gb101) (o := .cells #[.int .i64 a0_0, .slice A0_1 l0_1.length c0_1] 30 (0, 0)) (Q1 BK101) hb); replace HR115_0 := am (Kd.C_below (Q5 HR115_0) hb); replace HB := am (below_step (Q0 HB) hb); clear hb ho31; refine hK.out _ _ ⟨HS0_, HS1_⟩ (fun hHeld => ?_); clear hK K; refine norm_ (a' := ?_) ?_ ?_
                  rotate_left
                  ·show Act.put _ (some 50) _ = _
                   simp only [Act.put, List.setIfInBounds_toArray, List.set_cons_zero, List.set_cons_succ, i64_w, i32_w]
                   rfl
                  exact norm_ Q17 (hCont (v117, v121) _ ⟨hHeld, (by (with_reducible repeat (first | apply Kd.V_alloc | apply Kd.V_drewN | apply Kd.V_drew)); exact Kd.V_mono HL115_0.out (fun _ hk => ⟨hk.1.1.1.1, ⟨hk.1.2, ⟨hk.2, ⟨hk.1.1.2, ⟨hk.1.1.1.2.1, ⟨hk.1.1.1.2.2.1, hk.1.1.1.2.2.2⟩⟩⟩⟩⟩⟩)), (Q54 HO118), (Q54 HO122), (by (with_reducible repeat (first | apply Kd.N_alloc | apply Kd.N_drewN | apply Kd.N_drew)); exact Kd.N_mono HO_5.out (fun _ hk => ⟨hk.1.1.1, ⟨hk.1.2, ⟨hk.2, ⟨hk.1.1.2.1, ⟨hk.1.1.2.2.1, hk.1.1.2.2.2⟩⟩⟩⟩⟩)), (by (with_reducible repeat (first | apply Kd.N_alloc | apply Kd.N_drewN | apply Kd.N_drew)); exact Kd.N_mono HO_7.out (fun _ hk => ⟨hk.1.1.1, ⟨hk.1.2, ⟨hk.2, ⟨hk.1.1.2.1, ⟨hk.1.1.2.2.1, hk.1.1.2.2.2⟩⟩⟩⟩⟩)), (by (with_reducible repeat (first | apply Kd.R_alloc | apply Kd.R_drewN | apply Kd.R_drew)); exact Kd.R_mono HO_8.out (fun _ hk => ⟨hk.1.1, ⟨hk.1.2, hk.2⟩⟩)), (Q1 BK101), (Q0 HB)⟩)
                 ·skip
                  refine Kd.R_lit_step (Kd.int .i64) _ 3 ?hg (N := 50) ?hd (xs := ([rd t112 x10_3] : List Int)) (inner := [.int .i64 (rd t112 x10_3)]) (ok := fun _ => True) (okp := fun _ => True) ?hr ?hp (fun _ hk => hk) trivial (Below.refl _ _) (Nat.le_refl _) (by simp) ?_; (case hd => rfl); (case hg => rfl); (case hr => first | (go_simp; done) | (go_simp; rfl)); (case hp => exact (Reps.one (show Kd.M (Kd.int .i64) _ _ _ (rd t112 x10_3) [.int .i64 (rd t112 x10_3)] from rfl) (Reps.none _ _))); intro v121 w29 ho30 hb hg_ hnew_; have HS0_ := (hb.cell (World.block_lt_of_cell? _ _ (hHeld.1))).trans (hHeld.1); have HS1_ := (hb.cell (World.block_lt_of_cell? _ _ (hHeld.2))).trans (hHeld.2); clear hg_ hnew_
                  (first | rw [← Ny120.out] at ho30 | (simp only [Int.reduceToNat] at ho30; rw [← Ny120.out] at ho30))
                  replace HO_5 := am (Kd.N_elder' Q16 (Kd.R_base ho30) hb); replace HO_7 := am (Kd.N_elder' Q34 (Kd.R_base ho30) hb); replace HL115_0 := am (Kd.V_elder' Q58 (Kd.R_base ho30) hb); have HO122 := am (Kd.R_lower (Kd.R_new' (Kd.R_newM (M := fun k_ => (w.heap.size ≤ k_)) ho30 (below_size (Q0 HB)) (fun k_ h_ => h_)) (Kd.R_lt Q23)) (below_size (Q0 HB))); replace HO_8 := am (Kd.R_elder' Q23 (Kd.R_base ho30) hb); replace BK101 := am (blk_below (g := gb101) (o := .cells #[.int .i64 a0_0, .slice A0_1 l0_1.length c0_1] 30 (0, 0)) (Q1 BK101) hb); replace HR115_0 := am (Kd.C_below (Q5 HR115_0) hb); replace HB := am (below_step (Q0 HB) hb); clear hb ho30; refine hK.out _ _ ⟨HS0_, HS1_⟩ (fun hHeld => ?_); clear hK K; refine norm_ (a' := ?_) ?_ ?_
                  rotate_left
                  ·show Act.put _ (some 50) _ = _
                   simp only [Act.put, List.setIfInBounds_toArray, List.set_cons_zero, List.set_cons_succ, i64_w, i32_w]
                   rfl
                  refine oq 5 45 rfl rfl HT_ (fun K hK => ?_); refine goes_ Try.func171 (by kernel_rfl) rfl #[.slice A115_0 (rd_L2 x5_1 x9_2).length c115_0] (by rfl) rfl rfl Q3 ?_
                  with_reducible refine (spec_l1Own.calls _ _ (rd_L2 x5_1 x9_2) t116 _ ?side1 ?side2 A22.out).mono ?_
                  (case side1 => exact Q84)
                  (case side2 => exact HC115_0.out)
                  rintro e w31 ⟨v117, rfl, ho0, hb⟩; have HS0_ := (hb.cell (World.block_lt_of_cell? _ _ (hHeld.1))).trans (hHeld.1); have HS1_ := (hb.cell (World.block_lt_of_cell? _ _ (hHeld.2))).trans (hHeld.2); refine ⟨_, rfl, ?_⟩; replace HO_5 := am (Kd.N_elder' Q16 (Kd.R_base ho0) hb); replace HO_7 := am (Kd.N_elder' Q34 (Kd.R_base ho0) hb); replace HL115_0 := am (Kd.V_elder' Q58 (Kd.R_base ho0) hb); have HO118 := am (Kd.R_lower (Kd.R_new' (Kd.R_new' (Kd.R_newM (M := fun k_ => (w.heap.size ≤ k_)) ho0 (below_size (Q0 HB)) (fun k_ h_ => h_)) (Kd.R_lt Q23)) (Kd.R_lt (Q2 HO122))) (below_size (Q0 HB))); replace HO_8 := am (Kd.R_elder' Q23 (Kd.R_base ho0) hb); replace HO122 := am (Kd.R_elder' (Q2 HO122) (Kd.R_base ho0) hb); replace BK101 := am (blk_below (g := gb101) (o := .cells #[.int .i64 a0_0, .slice A0_1 l0_1.length c0_1] 30 (0, 0)) (Q1 BK101) hb); replace HR115_0 := am (Kd.C_below (Q5 HR115_0) hb); replace HB := am (below_step (Q0 HB) hb); (try clear hb); (try clear hb2); (try clear hk); (try clear hi); (try clear ho0); refine hK.out _ _ ⟨HS0_, HS1_⟩ (fun hHeld => ?_); clear hK K; refine norm_ (a' := ?_) ?_ ?_
                  rotate_left
                  ·show Act.put _ (some 45) _ = _
                   simp only [Act.put, List.setIfInBounds_toArray, List.set_cons_zero, List.set_cons_succ, i64_w, i32_w]
                   rfl
                  exact norm_ Q17 (hCont (v117, v121) _ ⟨hHeld, (by (with_reducible repeat (first | apply Kd.V_alloc | apply Kd.V_drewN | apply Kd.V_drew)); exact Kd.V_mono HL115_0.out (fun _ hk => ⟨hk.1.1.1.1, ⟨hk.2, ⟨hk.1.2, ⟨hk.1.1.2, ⟨hk.1.1.1.2.1, ⟨hk.1.1.1.2.2.1, hk.1.1.1.2.2.2⟩⟩⟩⟩⟩⟩)), (Q54 HO118), (Q54 HO122), (by (with_reducible repeat (first | apply Kd.N_alloc | apply Kd.N_drewN | apply Kd.N_drew)); exact Kd.N_mono HO_5.out (fun _ hk => ⟨hk.1.1.1, ⟨hk.2, ⟨hk.1.2, ⟨hk.1.1.2.1, ⟨hk.1.1.2.2.1, hk.1.1.2.2.2⟩⟩⟩⟩⟩)), (by (with_reducible repeat (first | apply Kd.N_alloc | apply Kd.N_drewN | apply Kd.N_drew)); exact Kd.N_mono HO_7.out (fun _ hk => ⟨hk.1.1.1, ⟨hk.2, ⟨hk.1.2, ⟨hk.1.1.2.1, ⟨hk.1.1.2.2.1, hk.1.1.2.2.2⟩⟩⟩⟩⟩)), (by (with_reducible repeat (first | apply Kd.R_alloc | apply Kd.R_drewN | apply Kd.R_drew)); exact Kd.R_mono HO_8.out (fun _ hk => ⟨hk.1.1, ⟨hk.2, hk.1.2⟩⟩)), (Q1 BK101), (Q0 HB)⟩)
                rintro ⟨v117, v121⟩ w32 ⟨hS_, h0_, h1_, h2_, h3_, h4_, h5_, h6_, h7_⟩; have HL115_0 : Aside0 (Kd.V (Kd.int .i64) 3 w32 w.heap.size (fun k_ => (w.heap.size ≤ k_) ∧ some k_ ≠ (v117 : Value).ownBlock ∧ some k_ ≠ (v121 : Value).ownBlock ∧ some k_ ≠ (.slice (some ad115) x5_1.length co18 : Value).ownBlock ∧ some k_ ≠ (.slice Ao27 x7_3.length co27 : Value).ownBlock ∧ some k_ ≠ (.slice (some ad119) t112.length co26 : Value).ownBlock ∧ k_ ≠ gb101) (.slice A115_0 (rd_L2 x5_1 x9_2).length c115_0) (rd_L2 x5_1 x9_2)) := ⟨h0_⟩; have HO118 : Aside0 (Kd.R (Kd.int .i64) 3 w32 w.heap.size (fun k_ => (w.heap.size ≤ k_) ∧ some k_ ≠ (v121 : Value).ownBlock ∧ some k_ ≠ (.slice (some ad119) t112.length co26 : Value).ownBlock) v117 t116) := ⟨h1_⟩; have HO122 : Aside0 (Kd.R (Kd.int .i64) 3 w32 w.heap.size (fun k_ => (w.heap.size ≤ k_) ∧ some k_ ≠ (v117 : Value).ownBlock ∧ some k_ ≠ (.slice (some ad119) t112.length co26 : Value).ownBlock) v121 y120) := ⟨h2_⟩; replace HO_5 : Aside0 (Kd.N (Kd.slice 3 (Kd.int .i64)) 25 w32 w.heap.size (fun k_ => (w.heap.size ≤ k_) ∧ some k_ ≠ (v117 : Value).ownBlock ∧ some k_ ≠ (v121 : Value).ownBlock ∧ some k_ ≠ (.slice Ao27 x7_3.length co27 : Value).ownBlock ∧ some k_ ≠ (.slice (some ad119) t112.length co26 : Value).ownBlock ∧ k_ ≠ gb101) (.slice (some ad115) x5_1.length co18) x5_1) := ⟨h3_⟩; replace HO_7 : Aside0 (Kd.N (Kd.slice 3 (Kd.int .i64)) 25 w32 w.heap.size (fun k_ => (w.heap.size ≤ k_) ∧ some k_ ≠ (v117 : Value).ownBlock ∧ some k_ ≠ (v121 : Value).ownBlock ∧ some k_ ≠ (.slice (some ad115) x5_1.length co18 : Value).ownBlock ∧ some k_ ≠ (.slice (some ad119) t112.length co26 : Value).ownBlock ∧ k_ ≠ gb101) (.slice Ao27 x7_3.length co27) x7_3) := ⟨h4_⟩; replace HO_8 : Aside0 (Kd.R (Kd.int .i64) 3 w32 w.heap.size (fun k_ => (w.heap.size ≤ k_) ∧ some k_ ≠ (v117 : Value).ownBlock ∧ some k_ ≠ (v121 : Value).ownBlock) (.slice (some ad119) t112.length co26) t112) := ⟨h5_⟩; replace BK101 : Aside0 (w32.heap[gb101]? = some (.cells #[.int .i64 a0_0, .slice A0_1 l0_1.length c0_1] 30 (0, 0))) := ⟨h6_⟩; replace HB : Aside0 (Below w.heap.size w w32) := ⟨h7_⟩; clear h0_ h1_ h2_ h3_ h4_ h5_ h6_ h7_; have hHeld : w32.cell? (ad115.add (x9_2).toNat) = some (.slice A115_0 (rd_L2 x5_1 x9_2).length c115_0) ∧ w32.cell? (ad119.add (x10_3).toNat) = some (.int .i64 (rd t112 x10_3)) := hS_; obtain ⟨Ao34, co34, eo34⟩ := Kd.R_slice HO122.out
                (first | subst eo34 | (injection eo34 with f1_ f2_ f3_; have f4_ := f1_.symm; have f5_ := f3_.symm; clear f1_ f2_ f3_; subst f4_; subst f5_))
                refine norm_ (a' := ?_) ?_ ?_
                rotate_left
                ·simp only [putAll, Act.put, List.setIfInBounds_toArray, List.set_cons_zero, List.set_cons_succ]
                 rfl
                refine last_ (i := 11) (N := some 51) #[true, true, true, true, true, true, true, true, true, true, true, true, false, false, false] rfl rfl (one_of HT_.out (by kernel_rfl)) (by decide) (fun K hK => ?_); refine Kd.R_append_rows_step (Kd.int .i64) (w0 := w) w.heap.size (by rfl) (.tmp 45) (.tmp 50) 25 3 (.int .i64 0) 8 rfl Try.underlying25 info3 rfl (by decide) (by omega) v117 t116 y120 _ _ _ (fun k_ => (w.heap.size ≤ k_) ∧ some k_ ≠ (.slice (some ad119) t112.length co26 : Value).ownBlock ∧ some k_ ≠ (.slice Ao34 y120.length co34 : Value).ownBlock) (fun _ => False) rfl rfl ?aO ?aR (fun _ _ h => h) (fun _ h => h.elim) ?aF ?aB ?aS ?aL ?_
                (case aR => exact (Q15 HO122))
                (case aB => exact (Q0 HB))
                (case aF => exact (fun k_ hk => ⟨(Nat.le_trans (below_size (Q0 HB)) hk), Kd.fresh' (Kd.R_lt Q23) k_ hk, Kd.fresh' (Kd.R_lt (Q2 HO122)) k_ hk⟩))
                (case aO => exact (by (with_reducible repeat (first | apply Kd.R_alloc | apply Kd.R_drewN | apply Kd.R_drew)); exact Kd.R_mono HO118.out (fun _ hk => ⟨hk.1, ⟨hk.2.2, hk.2.1⟩⟩)))
                (case aS => exact (below_size (Q0 HB)))
                (case aL => have := LMc24.out; omega)
                intro v124 w33 ho hb hg hat; rw [← Ny123.out] at ho; replace HO_5 := am (Kd.N_afterv (ok := (fun k_ => (w.heap.size ≤ k_) ∧ some k_ ≠ (.slice Ao27 x7_3.length co27 : Value).ownBlock ∧ some k_ ≠ (.slice (some ad119) t112.length co26 : Value).ownBlock ∧ some k_ ≠ (.slice Ao34 y120.length co34 : Value).ownBlock ∧ k_ ≠ gb101)) (by (with_reducible repeat (first | apply Kd.N_alloc | apply Kd.N_drewN | apply Kd.N_drew)); exact Kd.N_mono HO_5.out (fun _ hk => ⟨⟨hk.1, ⟨hk.2.2.2.1, ⟨hk.2.2.2.2.1, ⟨hk.2.2.1, hk.2.2.2.2.2⟩⟩⟩⟩, hk.2.1⟩)) hg hat); replace HO_7 := am (Kd.N_afterv (ok := (fun k_ => (w.heap.size ≤ k_) ∧ some k_ ≠ (.slice (some ad115) x5_1.length co18 : Value).ownBlock ∧ some k_ ≠ (.slice (some ad119) t112.length co26 : Value).ownBlock ∧ some k_ ≠ (.slice Ao34 y120.length co34 : Value).ownBlock ∧ k_ ≠ gb101)) (by (with_reducible repeat (first | apply Kd.N_alloc | apply Kd.N_drewN | apply Kd.N_drew)); exact Kd.N_mono HO_7.out (fun _ hk => ⟨⟨hk.1, ⟨hk.2.2.2.1, ⟨hk.2.2.2.2.1, ⟨hk.2.2.1, hk.2.2.2.2.2⟩⟩⟩⟩, hk.2.1⟩)) hg hat); replace HO_8 := am (Kd.R_after (ok := (fun k_ => (w.heap.size ≤ k_) ∧ some k_ ≠ (.slice Ao34 y120.length co34 : Value).ownBlock)) (by (with_reducible repeat (first | apply Kd.R_alloc | apply Kd.R_drewN | apply Kd.R_drew)); exact Kd.R_mono HO_8.out (fun _ hk => ⟨⟨hk.1, hk.2.2⟩, hk.2.1⟩)) hg hat); replace BK101 := am (blk_grown (g := gb101) (o := .cells #[.int .i64 a0_0, .slice A0_1 l0_1.length c0_1] 30 (0, 0)) (Q1 BK101) hg (Kd.R_ne HO118.out BK101.out (by decide))); replace HL115_0 := am (Kd.V_afterv (ok := (fun k_ => (w.heap.size ≤ k_) ∧ some k_ ≠ (.slice (some ad115) x5_1.length co18 : Value).ownBlock ∧ some k_ ≠ (.slice Ao27 x7_3.length co27 : Value).ownBlock ∧ some k_ ≠ (.slice (some ad119) t112.length co26 : Value).ownBlock ∧ some k_ ≠ (.slice Ao34 y120.length co34 : Value).ownBlock ∧ k_ ≠ gb101)) (by (with_reducible repeat (first | apply Kd.V_alloc | apply Kd.V_drewN | apply Kd.V_drew)); exact Kd.V_mono HL115_0.out (fun _ hk => ⟨⟨hk.1, ⟨hk.2.2.2.1, ⟨hk.2.2.2.2.1, ⟨hk.2.2.2.2.2.1, ⟨hk.2.2.1, hk.2.2.2.2.2.2⟩⟩⟩⟩⟩, hk.2.1⟩)) hg hat); replace HO122 := am (Kd.R_after (ok := (fun k_ => (w.heap.size ≤ k_) ∧ some k_ ≠ (.slice (some ad119) t112.length co26 : Value).ownBlock)) (by (with_reducible repeat (first | apply Kd.R_alloc | apply Kd.R_drewN | apply Kd.R_drew)); exact Kd.R_mono HO122.out (fun _ hk => ⟨⟨hk.1, hk.2.2⟩, hk.2.1⟩)) hg hat); replace HB := am (hb); have HO125 := am (ho); clear HO118; clear ho hb hg hat; obtain ⟨Ao35, co35, eo35⟩ := Kd.R_slice HO125.out
                (first | subst eo35 | (injection eo35 with f1_ f2_ f3_; have f4_ := f1_.symm; have f5_ := f3_.symm; clear f1_ f2_ f3_; subst f4_; subst f5_))
                refine hK.out _ _ ?_; clear hK K; refine norm_ (a' := ?_) ?_ ?_
                rotate_left
                ·show Act.put _ (some 51) _ = _
                 simp only [Act.put, List.setIfInBounds_toArray, List.set_cons_zero, List.set_cons_succ, i64_w, i32_w]
                 rfl
                refine last_ (i := 12) (N := some 52) #[true, true, true, true, true, true, true, true, true, true, true, true, true, false, false] rfl rfl (one_of HT_.out (by kernel_rfl)) (by decide) (fun K hK => ?_); refine Kd.N_lit_step (Kd.slice 3 (Kd.int .i64)) _ 25 ?hg (N' := 52) ?hd (xs := ([y123] : List (List Int))) (inner := [.slice Ao35 y123.length co35]) (ok := (fun k_ => (w.heap.size ≤ k_) ∧ some k_ ≠ (.slice (some ad115) x5_1.length co18 : Value).ownBlock ∧ some k_ ≠ (.slice Ao27 x7_3.length co27 : Value).ownBlock ∧ some k_ ≠ (.slice (some ad119) t112.length co26 : Value).ownBlock ∧ some k_ ≠ (.slice Ao34 y120.length co34 : Value).ownBlock ∧ k_ ≠ gb101)) (okp := (fun k_ => (w.heap.size ≤ k_) ∧ some k_ ≠ (.slice (some ad115) x5_1.length co18 : Value).ownBlock ∧ some k_ ≠ (.slice Ao27 x7_3.length co27 : Value).ownBlock ∧ some k_ ≠ (.slice (some ad119) t112.length co26 : Value).ownBlock ∧ some k_ ≠ (.slice Ao34 y120.length co34 : Value).ownBlock ∧ k_ ≠ gb101)) ?hr ?hp (fun _ hk => hk) ((show ∀ k_, w33.heap.size ≤ k_ → (fun k_ => (w.heap.size ≤ k_) ∧ some k_ ≠ (.slice (some ad115) x5_1.length co18 : Value).ownBlock ∧ some k_ ≠ (.slice Ao27 x7_3.length co27 : Value).ownBlock ∧ some k_ ≠ (.slice (some ad119) t112.length co26 : Value).ownBlock ∧ some k_ ≠ (.slice Ao34 y120.length co34 : Value).ownBlock ∧ k_ ≠ gb101) k_ from fun k_ hk => ⟨(Nat.le_trans (below_size (Q0 HB)) hk), Kd.fresh' (Kd.N_lt Q16) k_ hk, Kd.fresh' (Kd.N_lt Q34) k_ hk, Kd.fresh' (Kd.R_lt Q23) k_ hk, Kd.fresh' (Kd.R_lt (Q2 HO122)) k_ hk, Kd.freshB (g := gb101) (o := .cells #[.int .i64 a0_0, .slice A0_1 l0_1.length c0_1] 30 (0, 0)) (Q1 BK101) k_ hk⟩) _ (Nat.le_refl _)) (Below.refl _ _) (Nat.le_refl _) (by simp) ?_; (case hd => rfl); (case hg => rfl); (case hr => first | (go_simp; done) | (go_simp; rfl)); (case hp => exact (Reps.one (show Kd.FK (Kd.slice 3 (Kd.int .i64)) _ _ y123 [.slice Ao35 y123.length co35] from (Kd.FK_slice_mk (Kd.R_reads' (Kd.R_mono (ok' := (fun k_ => (w.heap.size ≤ k_) ∧ some k_ ≠ (.slice (some ad115) x5_1.length co18 : Value).ownBlock ∧ some k_ ≠ (.slice Ao27 x7_3.length co27 : Value).ownBlock ∧ some k_ ≠ (.slice (some ad119) t112.length co26 : Value).ownBlock ∧ some k_ ≠ (.slice Ao34 y120.length co34 : Value).ownBlock ∧ k_ ≠ gb101)) (Kd.R_types (Kd.R_apart' (Kd.R_apart' (HO125.out) (Kd.N_typed HO_5.out) (by decide)) (Kd.N_typed HO_7.out) (by decide)) BK101.out (by decide)) (fun k_ hk => ⟨hk.1.1.1.1, ⟨hk.1.1.2, ⟨hk.1.2, ⟨hk.1.1.1.2.1, ⟨hk.1.1.1.2.2, hk.2⟩⟩⟩⟩⟩))).2.1 (Kd.R_F (Kd.R_mono (ok' := (fun k_ => (w.heap.size ≤ k_) ∧ some k_ ≠ (.slice (some ad115) x5_1.length co18 : Value).ownBlock ∧ some k_ ≠ (.slice Ao27 x7_3.length co27 : Value).ownBlock ∧ some k_ ≠ (.slice (some ad119) t112.length co26 : Value).ownBlock ∧ some k_ ≠ (.slice Ao34 y120.length co34 : Value).ownBlock ∧ k_ ≠ gb101)) (Kd.R_types (Kd.R_apart' (Kd.R_apart' (HO125.out) (Kd.N_typed HO_5.out) (by decide)) (Kd.N_typed HO_7.out) (by decide)) BK101.out (by decide)) (fun k_ hk => ⟨hk.1.1.1.1, ⟨hk.1.1.2, ⟨hk.1.2, ⟨hk.1.1.1.2.1, ⟨hk.1.1.1.2.2, hk.2⟩⟩⟩⟩⟩))))) (Reps.none _ _))); intro v127 w36 ho37 hb hg_ hnew_; clear hg_ hnew_
                (first | rw [← Ny126.out] at ho37 | (simp only [Int.reduceToNat] at ho37; rw [← Ny126.out] at ho37))
                replace HO_5 := am (Kd.N_elder' Q16 (Kd.N_base ho37) hb); replace HO_7 := am (Kd.N_elder' Q34 (Kd.N_base ho37) hb); replace HO_8 := am (Kd.R_below Q23 hb); replace HL115_0 := am (Kd.V_elder' Q58 (Kd.N_base ho37) hb); replace HO122 := am (Kd.R_below (Q2 HO122) hb); have HO128 := am (Kd.N_lower ho37 (below_size (Q0 HB))); replace BK101 := am (blk_below (g := gb101) (o := .cells #[.int .i64 a0_0, .slice A0_1 l0_1.length c0_1] 30 (0, 0)) (Q1 BK101) hb); replace HB := am (below_step (Q0 HB) hb); clear HO125; clear hb ho37; obtain ⟨Ao39, co39, eo39⟩ := Kd.N_slice HO128.out
                (first | subst eo39 | (injection eo39 with f1_ f2_ f3_; have f4_ := f1_.symm; have f5_ := f3_.symm; clear f1_ f2_ f3_; subst f4_; subst f5_))
                refine hK.out _ _ ?_; clear hK K; refine norm_ (a' := ?_) ?_ ?_
                rotate_left
                ·show Act.put _ (some 52) _ = _
                 simp only [Act.put, List.setIfInBounds_toArray, List.set_cons_zero, List.set_cons_succ, i64_w, i32_w]
                 rfl
                refine last_ (i := 13) (N := some 53) #[true, true, true, true, true, true, true, true, true, true, true, true, true, true, false] rfl rfl (one_of HT_.out (by kernel_rfl)) (by decide) (fun K hK => ?_); refine Kd.N_append_rows_step (Kd.slice 3 (Kd.int .i64)) (w0 := w) w.heap.size (by rfl) (.tmp 40) (.tmp 52) 27 25 (.slice none 0 0) 24 rfl Try.underlying27 info25 rfl (by decide) (by omega) (.slice Ao27 x7_3.length co27) x7_3 y126 _ _ _ (fun k_ => (w.heap.size ≤ k_) ∧ some k_ ≠ (.slice (some ad115) x5_1.length co18 : Value).ownBlock ∧ some k_ ≠ (.slice (some ad119) t112.length co26 : Value).ownBlock ∧ some k_ ≠ (.slice Ao34 y120.length co34 : Value).ownBlock ∧ k_ ≠ gb101) (fun k_ => ((fun k_ => (w.heap.size ≤ k_) ∧ some k_ ≠ (.slice (some ad115) x5_1.length co18 : Value).ownBlock ∧ some k_ ≠ (.slice (some ad119) t112.length co26 : Value).ownBlock ∧ some k_ ≠ (.slice Ao34 y120.length co34 : Value).ownBlock ∧ k_ ≠ gb101)) k_ ∧ some k_ ≠ (.slice Ao27 x7_3.length co27 : Value).ownBlock) rfl rfl ?aO ?aR (fun _ hk => hk) ?aF ?aB ?aS ?aL ?_
                (case aR => exact (by skip; exact Kd.N_F (Kd.N_mono (ok' := (fun k_ => ((fun k_ => (w.heap.size ≤ k_) ∧ some k_ ≠ (.slice (some ad115) x5_1.length co18 : Value).ownBlock ∧ some k_ ≠ (.slice (some ad119) t112.length co26 : Value).ownBlock ∧ some k_ ≠ (.slice Ao34 y120.length co34 : Value).ownBlock ∧ k_ ≠ gb101)) k_ ∧ some k_ ≠ (.slice Ao27 x7_3.length co27 : Value).ownBlock)) (HO128.out) (fun k_ hk => ⟨⟨hk.1, ⟨hk.2.1, ⟨hk.2.2.2.1, ⟨hk.2.2.2.2.1, hk.2.2.2.2.2⟩⟩⟩⟩, hk.2.2.1⟩))))
                (case aB => exact (Q0 HB))
                (case aF => exact (fun k_ hk => ⟨(Nat.le_trans (below_size (Q0 HB)) hk), Kd.fresh' (Kd.N_lt Q16) k_ hk, Kd.fresh' (Kd.R_lt Q23) k_ hk, Kd.fresh' (Kd.R_lt (Q2 HO122)) k_ hk, Kd.freshB (g := gb101) (o := .cells #[.int .i64 a0_0, .slice A0_1 l0_1.length c0_1] 30 (0, 0)) (Q1 BK101) k_ hk⟩))
                (case aO => exact (by (with_reducible repeat (first | apply Kd.N_alloc | apply Kd.N_drewN | apply Kd.N_drew)); exact Kd.N_mono HO_7.out (fun _ hk => ⟨hk.1.1.1, ⟨hk.1.1.2.1, ⟨hk.1.1.2.2.1, ⟨hk.1.1.2.2.2.1, hk.1.1.2.2.2.2⟩⟩⟩⟩)))
                (case aS => exact (below_size (Q0 HB)))
                (case aL => have := LMc25.out; omega)
                intro v130 w38 ho hb hg hat; rw [← Ny129.out] at ho; replace HO_5 := am (Kd.N_afterv (ok := (fun k_ => (w.heap.size ≤ k_) ∧ some k_ ≠ (.slice (some ad119) t112.length co26 : Value).ownBlock ∧ some k_ ≠ (.slice Ao34 y120.length co34 : Value).ownBlock ∧ some k_ ≠ (.slice Ao39 y126.length co39 : Value).ownBlock ∧ k_ ≠ gb101)) (by (with_reducible repeat (first | apply Kd.N_alloc | apply Kd.N_drewN | apply Kd.N_drew)); exact Kd.N_mono HO_5.out (fun _ hk => ⟨⟨hk.1.1.1, ⟨hk.1.1.2.2.1, ⟨hk.1.1.2.2.2.1, ⟨hk.2, hk.1.1.2.2.2.2⟩⟩⟩⟩, hk.1.1.2.1⟩)) hg hat); replace HO_8 := am (Kd.R_over' Q23 (Kd.N_typed Q34) (by decide) hg); replace BK101 := am (blk_grown (g := gb101) (o := .cells #[.int .i64 a0_0, .slice A0_1 l0_1.length c0_1] 30 (0, 0)) (Q1 BK101) hg (Kd.N_ne HO_7.out BK101.out (by decide))); replace HL115_0 := am (Kd.V_afterv (ok := (fun k_ => (w.heap.size ≤ k_) ∧ some k_ ≠ (.slice (some ad115) x5_1.length co18 : Value).ownBlock ∧ some k_ ≠ (.slice (some ad119) t112.length co26 : Value).ownBlock ∧ some k_ ≠ (.slice Ao34 y120.length co34 : Value).ownBlock ∧ some k_ ≠ (.slice Ao39 y126.length co39 : Value).ownBlock ∧ k_ ≠ gb101)) (by (with_reducible repeat (first | apply Kd.V_alloc | apply Kd.V_drewN | apply Kd.V_drew)); exact Kd.V_mono HL115_0.out (fun _ hk => ⟨⟨hk.1.1.1, ⟨hk.1.1.2.1, ⟨hk.1.1.2.2.2.1, ⟨hk.1.1.2.2.2.2.1, ⟨hk.2, hk.1.1.2.2.2.2.2⟩⟩⟩⟩⟩, hk.1.1.2.2.1⟩)) hg hat); replace HO122 := am (Kd.R_over' (Q2 HO122) (Kd.N_typed Q34) (by decide) hg); replace HO128 := am (Kd.N_afterv (ok := (fun k_ => (w.heap.size ≤ k_) ∧ some k_ ≠ (.slice (some ad115) x5_1.length co18 : Value).ownBlock ∧ some k_ ≠ (.slice (some ad119) t112.length co26 : Value).ownBlock ∧ some k_ ≠ (.slice Ao34 y120.length co34 : Value).ownBlock ∧ k_ ≠ gb101)) (by (with_reducible repeat (first | apply Kd.N_alloc | apply Kd.N_drewN | apply Kd.N_drew)); exact Kd.N_mono HO128.out (fun _ hk => ⟨⟨hk.1, ⟨hk.2.1, ⟨hk.2.2.2.1, ⟨hk.2.2.2.2.1, hk.2.2.2.2.2⟩⟩⟩⟩, hk.2.2.1⟩)) hg hat); replace HB := am (hb); have HO131 := am (ho); clear HO_7; clear ho hb hg hat; refine hK.out _ _ ?_; clear hK K; refine norm_ (a' := ?_) ?_ ?_
                rotate_left
                ·show Act.put _ (some 53) _ = _
                 simp only [Act.put, List.setIfInBounds_toArray, List.set_cons_zero, List.set_cons_succ, i64_w, i32_w]
                 rfl
                refine pq 14 7 rfl rfl HT_ ?_; refine done_ (done_of HT_.out (by kernel_rfl)) ?_
                try go_wp2
                go_roundg k3
                case measure => have := HK1.out; have := HK2.out; have := HK3.out; omega
                case rel => exact ⟨(y129), (wrap64 (x10_3 + 1)), Q8, H', ⟨Q75⟩, ⟨by (with_reducible repeat (first | apply Kd.N_alloc | apply Kd.N_drewN | apply Kd.N_drew)); exact Kd.N_mono HO_5.out (fun _ hk => ⟨hk.1.1, ⟨hk.2, ⟨hk.1.2.1, hk.1.2.2.2.2⟩⟩⟩)⟩, ⟨by (with_reducible repeat (first | apply Kd.N_alloc | apply Kd.N_drewN | apply Kd.N_drew)); exact Kd.N_mono HO131.out (fun _ hk => ⟨hk.1, ⟨hk.2.1, ⟨hk.2.2.1, hk.2.2.2.2⟩⟩⟩)⟩, ⟨by (with_reducible repeat (first | apply Kd.R_alloc | apply Kd.R_drewN | apply Kd.R_drew)); exact Kd.R_mono HO_8.out (fun _ hk => hk.1.1)⟩, ⟨Q1 BK101⟩, ⟨Q0 HB⟩⟩
               ·rw [if_neg c25] at H
                exact absurd H (by simp)
              ·rw [if_neg c24] at H
               exact absurd H (by simp)
             ·rw [if_neg c23] at H
              exact absurd H (by simp)
            ·rw [if_neg c21] at H
             exact absurd H (by simp)
           ·rw [if_neg c20] at H
            exact absurd H (by simp)
          ·rw [if_neg c19] at H
           have c19b0 := decide_eq_false c19; clear c19; have H' := Aside0.mk H; clear H; obtain ⟨Ao40, co40, eo40⟩ := Kd.R_slice HO_8.out; subst eo40
           go_wp2
           go_roundg k3
           case measure => have := HK1.out; have := HK2.out; have := HK3.out; omega
           case rel => exact ⟨(x7_3), (wrap64 (x9_2 + 1)), Q8, H', ⟨Q75⟩, ⟨Q16⟩, ⟨Q34⟩, ⟨Q23⟩, ⟨Q1 BK101⟩, ⟨Q0 HB⟩⟩
       ·rw [if_neg c17] at H
        have c17b0 := decide_eq_false c17; clear c17; have H' := Aside0.mk H; clear H; obtain ⟨Ao41, co41, eo41⟩ := Kd.N_slice HO_5.out; subst eo41
        go_wp2
        go_roundg k2
        case measure => have := HK1.out; have := HK2.out; omega
        case rel => exact ⟨(x7_2), (wrap64 (x6_1 + 1)), Q8, H', ⟨Q71⟩, ⟨by (with_reducible repeat (first | apply Kd.N_alloc | apply Kd.N_drewN | apply Kd.N_drew)); exact Kd.N_mono HO_7.out (fun _ hk => ⟨hk.1, hk.2.2.2⟩)⟩, ⟨Q1 BK101⟩, ⟨Q0 HB⟩⟩
    ·rw [if_neg c10] at H
     exact absurd H (by simp)
   ·rw [if_neg c9] at H
    have c9b0 := decide_eq_false c9; clear c9; obtain ⟨y132, hy132⟩ : ∃ y_ : List (List Int), y_ = (([] : List (List Int))) := ⟨_, rfl⟩; replace H : (spec_l4Moves.l3 k1 x5_1 y132 0) = some r := RH hy132 H; have Ny132 := Aside0.mk hy132; clear hy132; have H' := Aside0.mk H; clear H
    go_wp2_with (first | ((with_reducible refine gate_dst (N := 55) rfl ?_); refine Kd.N_lit (Kd.slice 3 (Kd.int .i64)) _ 25 ?hg (N' := 55) ?hd (xs := ([] : List (List Int))) (inner := []) (ok := (fun k_ => (w.heap.size ≤ k_) ∧ some k_ ≠ (u5 : Value).ownBlock ∧ k_ ≠ gb101)) (okp := (fun k_ => (w.heap.size ≤ k_) ∧ some k_ ≠ (u5 : Value).ownBlock ∧ k_ ≠ gb101)) ?hr ?hp (fun _ hk => hk) ((show ∀ k_, wr.heap.size ≤ k_ → (fun k_ => (w.heap.size ≤ k_) ∧ some k_ ≠ (u5 : Value).ownBlock ∧ k_ ≠ gb101) k_ from fun k_ hk => ⟨(Nat.le_trans (below_size (Q0 HB)) hk), Kd.fresh' (Kd.N_lt Q16) k_ hk, Kd.freshB (g := gb101) (o := .cells #[.int .i64 a0_0, .slice A0_1 l0_1.length c0_1] 30 (0, 0)) (Q1 BK101) k_ hk⟩) _ (Nat.le_refl _)) (Below.refl _ _) (Nat.le_refl _) (by simp) ?_; (case hd => rfl); (case hg => rfl); (case hr => first | (go_simp; done) | (go_simp; rfl)); (case hp => exact (Reps.none _ _)); intro v133 w42 ho43 hb hg_ hnew_; clear hg_ hnew_; (first | rw [← Ny132.out] at ho43 | (simp only [Int.reduceToNat] at ho43; rw [← Ny132.out] at ho43)); replace HO_5 := am (Kd.N_elder' Q16 (Kd.N_base ho43) hb); have HO134 := am (Kd.N_lower ho43 (below_size (Q0 HB))); replace BK101 := am (blk_below (g := gb101) (o := .cells #[.int .i64 a0_0, .slice A0_1 l0_1.length c0_1] 30 (0, 0)) (Q1 BK101) hb); replace HB := am (below_step (Q0 HB) hb); clear hb ho43))
    go_loopg [11, 12] k1 (fun kq v11 v12 w' => ∃ (x11_2 : List (List Int)) (x12_2 : Int), v12 = .int .i64 x12_2 ∧ Aside0 (spec_l4Moves.l3 kq x5_1 x11_2 x12_2 = some r) ∧ Aside0 (kq ≤ k1) ∧ Aside0 (Kd.N (Kd.slice 3 (Kd.int .i64)) 25 w' w.heap.size (fun k_ => (w.heap.size ≤ k_) ∧ k_ ≠ gb101) u5 x5_1) ∧ Aside0 (Kd.V (Kd.slice 3 (Kd.int .i64)) 25 w' w.heap.size (fun k_ => (w.heap.size ≤ k_) ∧ some k_ ≠ (u5 : Value).ownBlock ∧ k_ ≠ gb101) v11 x11_2) ∧ Aside0 (w'.heap[gb101]? = some (.cells #[.int .i64 a0_0, (.slice A0_1 l0_1.length c0_1)] 30 (0, 0))) ∧ Aside0 (Below w.heap.size w w'))
    case atStart => exact ⟨(y132), (0), Q8, H', ⟨Nat.le_refl _⟩, ⟨by (with_reducible repeat (first | apply Kd.N_alloc | apply Kd.N_drewN | apply Kd.N_drew)); exact Kd.N_mono HO_5.out (fun _ hk => ⟨hk.1.1, hk.1.2⟩)⟩, ⟨Kd.N_V (Q10 HO134)⟩, ⟨Q1 BK101⟩, ⟨Q0 HB⟩⟩
    case round =>
     clear H'
     try clear c1
     try clear p1
     try clear q1
     try clear hx1
     try clear c2
     try clear p2
     try clear p6
     try clear c9
     try clear c9b0
     try clear c10
     try clear c10b0
     try clear c11
     try clear p11
     try clear q11
     try clear hx11
     try clear c17
     try clear c17b0
     try clear c19
     try clear c19b0
     try clear c20
     try clear c20b0
     try clear c21
     try clear c21b0
     try clear c23
     try clear c23b0
     try clear c24
     try clear c25
     try clear hx111_0
     try clear hx115_0
     try clear hx119_0
     try clear p1
     try clear p11
     try clear p111
     try clear p115
     try clear p119
     try clear p2
     try clear q1
     try clear q11
     try clear q111
     try clear q115
     try clear q119
     obtain ⟨x11_2, x12_2, rfl, HA, HK2, HO_5, HO_11, BK101, HB⟩ := hrel
     cases gk with
     | zero => exact absurd HA.out (by simp [spec_l4Moves.l3])
     | succ k2 =>
      have H := HA.out; clear HA
      simp only [spec_l4Moves.l3] at H
      by_cases c44 : x12_2 < (x5_1.length : Int)
      ·rw [if_pos c44] at H
       have c44b0 := decide_eq_true c44; clear c44
       by_cases c45 : 0 ≤ x12_2
       ·rw [if_pos c45] at H
        have c45b0 := decide_eq_true c45; clear c45; replace H := (ob H); obtain ⟨t136, A460, H⟩ := H; (try dsimp only at H); have A46 := Aside0.mk A460; clear A460; replace H := (ob H); obtain ⟨t139, A470, H⟩ := H; (try dsimp only at H); have A47 := Aside0.mk A470; clear A470; have H' := Aside0.mk H; clear H; obtain ⟨Ao48, co48, eo48⟩ := Kd.N_slice HO_5.out; subst eo48; have p135 : 0 ≤ (x12_2 : Int) := of_decide_eq_true Q4; have q135 : x12_2 < (x5_1.length : Int) := of_decide_eq_true Q4; obtain ⟨ad135, A135_0, c135_0, e135, hx135_0, hl135_0, hi135_0⟩ := at_L2 (Kd.N_reads' HO_5.out).2.2 x12_2 p135 q135
        cases e135
        obtain ⟨ce135, hce135, hMe135, hcc135⟩ := Kd.N_get HO_5.out [] x12_2 p135 (by first | exact q135 | exact of_decide_eq_true Q4 | (have e_ := (Kd.N_reads' HO_5.out).1; omega)); obtain ⟨ua135_0, uc135_0, rfl, ul135_0, ge135_0⟩ := Kd.FK_slice_open hMe135; have hv135_0 := hcc135 0 _ rfl; rw [Nat.add_zero, show ((Kd.slice 3 (Kd.int .i64))).sz = 1 from rfl, Nat.mul_one] at hv135_0; replace hv135_0 := Option.some.inj (hv135_0.symm.trans hx135_0)
        injection hv135_0 with hva_ hvn_ hvc_
        rw [hva_] at ge135_0; rw [hvc_] at ul135_0; have HL135_0 := am (show Kd.V (Kd.int .i64) 3 _ w.heap.size _ _ (rd_L2 x5_1 x12_2) from Kd.V_mk ul135_0 ge135_0); clear hva_ hvn_ hvc_ ge135_0 ul135_0; clear hcc135 hce135; have HR135_0 := Aside0.mk hi135_0; have HC135_0 := Aside0.mk hl135_0; clear hi135_0 hl135_0; replace p135 := eq_true p135; replace q135 := eq_true q135
        go_wp2_with (first | ((with_reducible refine gate_callee (f := 173) rfl ?_); refine goesL_ (some 67) rfl rfl Try.func173 (by kernel_rfl) rfl #[.slice A135_0 (rd_L2 x5_1 x12_2).length c135_0] rfl Q3 ?_; (with_reducible refine (spec_l4Sorted.calls k2 _ _ (rd_L2 x5_1 x12_2) t136 _ ?side1 ?side2 A46.out).mono ?_); (case side1 => exact (by repeat (first | exact (Q5 HR135_0) | (with_reducible refine Kd.C_alloc ?_ _) | (with_reducible refine Kd.C_drewN ?_ _) | (with_reducible refine Kd.C_drew ?_)))); (case side2 => exact HC135_0.out); rintro e w49 ⟨v137, rfl, ho0, hb⟩; refine ⟨_, rfl, ?_⟩; replace HO_5 := am (Kd.N_elder' Q16 (Kd.R_base ho0) hb); replace HO_11 := am (Kd.V_elder' (by (with_reducible repeat (first | apply Kd.V_alloc | apply Kd.V_drewN | apply Kd.V_drew)); exact HO_11.out) (Kd.R_base ho0) hb); replace HL135_0 := am (Kd.V_elder' (by (with_reducible repeat (first | apply Kd.V_alloc | apply Kd.V_drewN | apply Kd.V_drew)); exact HL135_0.out) (Kd.R_base ho0) hb); have HO138 := am (Kd.R_lower (Kd.R_newM (M := fun k_ => (w.heap.size ≤ k_)) ho0 (below_size (Q0 HB)) (fun k_ h_ => h_)) (below_size (Q0 HB))); replace BK101 := am (blk_below (g := gb101) (o := .cells #[.int .i64 a0_0, .slice A0_1 l0_1.length c0_1] 30 (0, 0)) (Q1 BK101) hb); replace HR135_0 := am (Kd.C_below (Q5 HR135_0) hb); replace HB := am (below_step (Q0 HB) hb); (try clear hb); (try clear hb2); (try clear hk); (try clear hi); (try clear ho0); obtain ⟨Ao50, co50, eo50⟩ := Kd.V_slice HO_11.out; subst eo50; obtain ⟨Ao51, co51, eo51⟩ := Kd.R_slice HO138.out; subst eo51) | ((with_reducible refine gate_callee (f := 172) rfl ?_); refine goesL_ (some 68) rfl rfl Try.func172 (by kernel_rfl) rfl #[.slice Ao50 x11_2.length co50, .slice Ao51 t136.length co51] rfl Q3 ?_; (with_reducible refine (spec_l4Put.calls k2 (fun k_ => (((w.heap.size ≤ k_) ∧ (some k_ ≠ (.slice (some ad135) x5_1.length co48 : Value).ownBlock ∧ k_ ≠ gb101)) ∧ some k_ ≠ (.slice Ao51 t136.length co51 : Value).ownBlock)) _ _ x11_2 (fun k_ => some k_ = (.slice Ao51 t136.length co51 : Value).ownBlock) _ _ t136 t139 _ ?side1 ?side2 A47.out).mono ?_); (case side1 => exact HO_11.out); (case side2 => exact Kd.R_V (Kd.R_tight rfl (Kd.R_types (Kd.R_apart' (HO138.out) (Kd.N_typed HO_5.out) (by decide)) BK101.out (by decide)))); rintro e w52 ⟨v140, rfl, ho0, hb⟩; refine ⟨_, rfl, ?_⟩; replace HO_11 := am (Kd.V_below (by (with_reducible repeat (first | apply Kd.V_alloc | apply Kd.V_drewN | apply Kd.V_drew)); exact HO_11.out) hb); replace HL135_0 := am (Kd.V_below (by (with_reducible repeat (first | apply Kd.V_alloc | apply Kd.V_drewN | apply Kd.V_drew)); exact HL135_0.out) hb); have HO141 := am (Kd.V_lower (Kd.V_mono (ok' := fun k_ => (w.heap.size ≤ k_) ∧ some k_ ≠ (.slice (some ad135) x5_1.length co48 : Value).ownBlock ∧ k_ ≠ gb101) ho0 (fun k_ hk_ => ⟨Or.elim hk_ (fun hs_ => Or.elim hs_ (fun hs_ => hs_.1.1) (fun hs_ => ((Kd.R_types (Kd.R_apart' (HO138.out) (Kd.N_typed HO_5.out) (by decide)) BK101.out (by decide)).1 k_ hs_.symm).1.1.1)) (fun hn_ => (Nat.le_trans (below_size (Q0 HB)) hn_)), Or.elim hk_ (fun hs_ => Or.elim hs_ (fun hs_ => hs_.1.2.1) (fun hs_ => ((Kd.R_types (Kd.R_apart' (HO138.out) (Kd.N_typed HO_5.out) (by decide)) BK101.out (by decide)).1 k_ hs_.symm).1.2)) (fun hn_ => (Kd.fresh' (Kd.N_lt Q16) k_ hn_)), Or.elim hk_ (fun hs_ => Or.elim hs_ (fun hs_ => hs_.1.2.2) (fun hs_ => ((Kd.R_types (Kd.R_apart' (HO138.out) (Kd.N_typed HO_5.out) (by decide)) BK101.out (by decide)).1 k_ hs_.symm).2)) (fun hn_ => (Kd.freshB (g := gb101) (o := .cells #[.int .i64 a0_0, .slice A0_1 l0_1.length c0_1] 30 (0, 0)) (Q1 BK101) k_ hn_))⟩)) (below_size (Q0 HB))); replace HO_5 := am (Kd.N_below Q16 hb); replace HO138 := am (Kd.R_below (Q2 HO138) hb); replace BK101 := am (blk_below (g := gb101) (o := .cells #[.int .i64 a0_0, .slice A0_1 l0_1.length c0_1] 30 (0, 0)) (Q1 BK101) hb); replace HR135_0 := am (Kd.C_below (Q5 HR135_0) hb); replace HB := am (below_step (Q0 HB) hb); (try clear hb); (try clear hb2); (try clear hk); (try clear hi); (try clear ho0)))
        go_roundg k2
        case measure => have := HK1.out; have := HK2.out; omega
        case rel => exact ⟨(t139), (wrap64 (x12_2 + 1)), Q8, H', ⟨Q71⟩, ⟨by (with_reducible repeat (first | apply Kd.N_alloc | apply Kd.N_drewN | apply Kd.N_drew)); exact Kd.N_mono HO_5.out (fun _ hk => ⟨hk.1.1, hk.1.2⟩)⟩, ⟨Q12 HO141⟩, ⟨Q1 BK101⟩, ⟨Q0 HB⟩⟩
       ·rw [if_neg c45] at H
        exact absurd H (by simp)
      ·rw [if_neg c44] at H
       have c44b0 := decide_eq_false c44; clear c44; obtain rfl := Option.some.inj H; obtain ⟨Ao53, co53, eo53⟩ := Kd.N_slice HO_5.out; subst eo53
       go_wp2
       go_ret
       exact ⟨_, Q9, by (with_reducible repeat (first | apply Kd.V_alloc | apply Kd.V_drewN | apply Kd.V_drew)); exact Kd.V_mono HO_11.out (fun _ hk => hk.1), Q0 HB⟩
end Go.Proofs.Ytcjddikalgnhpaa.P
