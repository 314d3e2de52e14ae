/- Functions of the program as Lean functions, that each call comes to what they say, and what holds of them; part 10 of 15; no conditions beyond those that each theorem names. -/
import Derived.Test.YtcjddikalgnhpaaK1
import Derived.Test.YtcjddikalgnhpaaK7
import Derived.Test.YtcjddikalgnhpaaK9
namespace Go.Proofs.Ytcjddikalgnhpaa.P
open Go.RowKit Go.Proofs.YtcjddikalgnhpaaW.PrintWords Go.Proofs.YtcjddikalgnhpaaW.PrintLast Go.Proofs.YtcjddikalgnhpaaW.PrintMore
attribute [local go_sem] max2_int min2_int max_two min_two max_three min_three max_four min_four   -- for this text's walks alone
set_option linter.unusedVariables false
set_option linter.unusedSimpArgs false
/-! ### spec_l2Put: function 184 -/
def spec_l2Put.l0 : Nat → List (S71) → Int → Int → Int → Option ((List (S71)))
 | 0, _, _, _, _ => none
 | k + 1, x0, x5, x102000, x102001 => if x5 < (x0.length : Int) then (if 0 ≤ x5 then ((spec_l2Before.f ((rd_T71 x0 x5).f0) ((rd_T71 x0 x5).f1) x102000 x102001).bind fun t103 => (if t103 = true then (spec_l2Put.l0 k x0 (wrap64 (x5 + 1)) x102000 x102001) else ((some (([] : List (S71)) : List (S71))).bind fun y104 => (if x5 ≤ (x0.length : Int) then ((some (x0.take (x5 : Int).toNat : List (S71))).bind fun y107 => (if y104.length + y107.length < 8796093022208 then ((some (y104 ++ y107 : List (S71))).bind fun y111 => ((some (([(⟨x102000, x102001⟩ : S71)] : List (S71)) : List (S71))).bind fun y114 => (if y111.length + y114.length < 8796093022208 then ((some (y111 ++ y114 : List (S71))).bind fun y117 => ((some (x0.drop (x5 : Int).toNat : List (S71))).bind fun y120 => (if y117.length + y120.length < 8796093022208 then (some (y117 ++ y120)) else (none)))) else (none)))) else (none))) else (none))))) else (none)) else ((some (([] : List (S71)) : List (S71))).bind fun y127 => (if 0 ≤ x5 then (if x5 ≤ (x0.length : Int) then ((some (x0.take (x5 : Int).toNat : List (S71))).bind fun y130 => (if y127.length + y130.length < 8796093022208 then ((some (y127 ++ y130 : List (S71))).bind fun y134 => ((some (([(⟨x102000, x102001⟩ : S71)] : List (S71)) : List (S71))).bind fun y137 => (if y134.length + y137.length < 8796093022208 then ((some (y134 ++ y137 : List (S71))).bind fun y140 => ((some (x0.drop (x5 : Int).toNat : List (S71))).bind fun y143 => (if y140.length + y143.length < 8796093022208 then (some (y140 ++ y143)) else (none)))) else (none)))) else (none))) else (none)) else (none)))
def spec_l2Put.f (k : Nat) (l0 : List (S71)) (a1_0 : Int) (a1_1 : Int) : Option ((List (S71))) := spec_l2Put.l0 k l0 0 a1_0 a1_1
theorem spec_l2Put.mono_l : ∀ k, (∀ y0 y1 y2 y3, LeO (spec_l2Put.l0 k y0 y1 y2 y3) (spec_l2Put.l0 (k + 1) y0 y1 y2 y3))
 | 0 => fun _ _ _ _ r h => by simp [spec_l2Put.l0] at h
 | k + 1 => by
  have ih0 := spec_l2Put.mono_l k
  all_goals
   intros
   first | unfold spec_l2Put.l0
   repeat' first | (with_reducible first | exact ih0 _ _ _ _ | exact LeO.refl _ | exact LeO.none _ | refine LeO.ite ?_ ?_ | refine LeO.bind ?_ (fun _ => ?_))
theorem spec_l2Put.mono : ∀ a0 a1 a2 k, LeO (spec_l2Put.f k a0 a1 a2) (spec_l2Put.f (k + 1) a0 a1 a2) := by
 intro a0 a1 a2 k
 have ih0 := spec_l2Put.mono_l k
 unfold spec_l2Put.f
 repeat' first | (with_reducible first | exact ih0 _ _ _ _ | exact LeO.refl _ | exact LeO.none _ | refine LeO.ite ?_ ?_ | refine LeO.bind ?_ (fun _ => ?_))
def spec_l2Put.T2 : Bool × List (List Nat × List Nat) := (true, [([], []), ([], []), ([1], [1]), ([0, 2], [0, 2]), ([3], [3]), ([4], [4]), ([4], [4]), ([5, 6, 4], [4, 5, 6]), ([7, 4], [4, 7]), ([4], [4]), ([8, 9, 4, 4], [4, 8, 9]), ([4, 10], [4, 10])])
def spec_l2Put.B2 : List Nat := [0, 0, 2, 7, 15, 31, 31, 127, 255, 31, 1023, 2047]
theorem spec_l2Put.tab2 : rtab .any (opsOf Try.f184 2) = spec_l2Put.T2 := by kernel_rfl
theorem spec_l2Put.bits2 : waitsOk spec_l2Put.T2.2 spec_l2Put.B2 = true := by kernel_rfl
def spec_l2Put.T4 : Bool × List (List Nat × List Nat) := (true, [([], []), ([], []), ([], []), ([1, 2], [1, 2]), ([0, 3], [0, 3]), ([], []), ([5], [5]), ([4, 6, 4], [4, 6]), ([], []), ([], []), ([8, 9], [8, 9]), ([7, 10, 7], [7, 10]), ([11, 11, 0, 1, 2, 3, 4, 5, 6, 7, 8, 9, 10, 11], [11])])
def spec_l2Put.B4 : List Nat := [0, 0, 0, 6, 15, 0, 32, 127, 0, 0, 768, 2047, 4095]
theorem spec_l2Put.tab4 : rtab .any (opsOf Try.f184 4) = spec_l2Put.T4 := by kernel_rfl
theorem spec_l2Put.bits4 : waitsOk spec_l2Put.T4.2 spec_l2Put.B4 = true := by kernel_rfl
set_option maxHeartbeats 8000000 in
set_option maxRecDepth 100000 in
theorem spec_l2Put.calls (k : Nat) (A0 : Option Addr) (c0 : Nat) (l0 : List (S71)) (a1_0 : Int) (a1_1 : Int) (r : List (S71)) (w : World) (hr0 : Kd.C k71 w A0 l0.length l0) (hc0 : l0.length ≤ c0) (h : spec_l2Put.f k l0 a1_0 a1_1 = some r) :
  Calls Try.prog 184 #[.slice A0 l0.length c0, .agg #[.int .i64 a1_0, .int .i64 a1_1]] w fun e w' => ∃ v0_ : Value, e = .returned (v0_) ∧ Kd.R k71 71 w' w.heap.size (fun _ => True) v0_ r ∧ Below w.heap.size w w' := by
 have hu71 := Try.underlying71
 have HR0 := Aside0.mk hr0
 have HC0 := Aside0.mk hc0
 clear hr0 hc0
 have HB := am (Below.refl w.heap.size w)
 have H : (spec_l2Put.l0 k l0 0 a1_0 a1_1) = some r := h
 clear h
 have H' := Aside0.mk H
 clear H
 go_enter Try.func184, Try.ntmps184
 go_wp2_with (first | ((with_reducible refine gate_dst (N := 3) rfl ?_); refine box_event (by rfl) (N := 3) (by rfl) (cs := #[.int .i64 a1_0, .int .i64 a1_1]) (t := 71) Qr ?_; intro gb101 hg w3 hbox hb; have BK101 := am (hbox); replace HB := bs HB hb; clear hb hbox hg))
 go_loopg [5] k (fun kq v5 w' => ∃ (x5_1 : Int), v5 = .int .i64 x5_1 ∧ Aside0 (spec_l2Put.l0 kq l0 x5_1 a1_0 a1_1 = some r) ∧ Aside0 (kq ≤ k) ∧ Aside0 (w'.heap[gb101]? = some (.cells #[.int .i64 a1_0, .int .i64 a1_1] 71 (0, 0))) ∧ Aside0 (Below w.heap.size w w'))
 case atStart => exact ⟨(0), Q17, H', ⟨Nat.le_refl _⟩, ⟨Q0 BK101⟩, ⟨Q1 HB⟩⟩
 case round =>
  clear H'
  obtain ⟨x5_1, rfl, HA, HK1, BK101, HB⟩ := hrel
  cases gk with
  | zero => exact absurd HA.out (by simp [spec_l2Put.l0])
  | succ k1 =>
   have H := HA.out; clear HA
   simp only [spec_l2Put.l0] at H
   by_cases c4 : x5_1 < (l0.length : Int)
   ·rw [if_pos c4] at H
    have c4b0 := decide_eq_true c4; clear c4
    obtain ⟨c5, H⟩ := ifn H
    have c5b0 := decide_eq_true c5; clear c5; replace H := (ob H); obtain ⟨t103, A60, H⟩ := H; (try dsimp only at H); have A6 := Aside0.mk A60; clear A60; have HU7 := Aside0.mk H; clear H
    try go_wp2
    replace BK101 := am (blk_drew BK101.out); replace HB := am (below_drew1 HB.out); have p102 : 0 ≤ (x5_1 : Int) := D4; have q102 : x5_1 < (l0.length : Int) := D4; obtain ⟨ad102, e102, hx102_0, hx102_1⟩ := at_T71 HR0.out x5_1 p102 q102; have hw102_1 := hx102_1; have hw102_0 := hx102_0
    cases e102
    replace hx102_0 := (HB.out.cell (World.block_lt_of_cell? w _ hx102_0)).trans hx102_0; replace hx102_1 := (HB.out.cell (World.block_lt_of_cell? w _ hx102_1)).trans hx102_1; replace p102 := eq_true p102; replace q102 := eq_true q102; refine start_ (n := 12) (S := fun w' => w'.cell? ⟨gb101, 0, none⟩ = some (.int .i64 a1_0) ∧ w'.cell? ⟨gb101, 1, none⟩ = some (.int .i64 a1_1) ∧ w'.cell? (ad102.add ((x5_1).toNat * 2)) = some (.int .i64 ((rd_T71 l0 x5_1).f0)) ∧ w'.cell? ⟨(ad102.add ((x5_1).toNat * 2)).block, (ad102.add ((x5_1).toNat * 2)).off + 1, none⟩ = some (.int .i64 ((rd_T71 l0 x5_1).f1))) (ds := []) #[false, false, false, false, false, false, false, false, false, false, false, false] (by kernel_rfl) rfl rfl ⟨(blk_cell BK101.out 0).trans rfl, (blk_cell BK101.out 1).trans rfl, ((HB.out.cell (World.block_lt_of_cell? w _ hw102_0)).trans hw102_0), ((HB.out.cell (World.block_lt_of_cell? w _ hw102_1)).trans hw102_1)⟩ (fun hHeld => ?_); refine with_tabW spec_l2Put.tab2 spec_l2Put.bits2 (fun HT_ HW_ => ?_); generalize wr.drew = w8 at BK101 HB hx102_0 hx102_1 hHeld ⊢; refine pq 0 6 rfl rfl HT_ ?_; refine pq 1 7 rfl rfl HT_ ?_; refine pq 2 8 rfl rfl HT_ ?_; refine pq 3 9 rfl rfl HT_ ?_; refine pq 4 10 rfl rfl HT_ ?_; refine pq 5 11 rfl rfl HT_ ?_; refine pq 6 12 rfl rfl HT_ ?_; refine pq 7 13 rfl rfl HT_ ?_; refine tq4 8 14 rfl rfl HT_ HW_ hHeld ?_; refine tq4 9 15 rfl rfl HT_ HW_ hHeld ?_; refine oq 10 16 rfl rfl HT_ (fun K hK => ?_); refine goes_ Try.func189 (by kernel_rfl) rfl #[.agg #[.int .i64 ((rd_T71 l0 x5_1).f0), .int .i64 ((rd_T71 l0 x5_1).f1)], .agg #[.int .i64 a1_0, .int .i64 a1_1]] (by rfl) rfl rfl Q6 ?_
    with_reducible refine (spec_l2Before.calls ((rd_T71 l0 x5_1).f0) ((rd_T71 l0 x5_1).f1) a1_0 a1_1 t103 _ A6.out).mono ?_
    rintro e w9 ⟨rfl, hb⟩; refine ⟨_, rfl, ?_⟩; replace BK101 := bb BK101 hb; replace HB := bs HB hb; (try clear hb); refine hK.out _ _ ⟨(blk_cell BK101.out 0).trans rfl, (blk_cell BK101.out 1).trans rfl, ((HB.out.cell (World.block_lt_of_cell? w _ hw102_0)).trans hw102_0), ((HB.out.cell (World.block_lt_of_cell? w _ hw102_1)).trans hw102_1)⟩ (fun hHeld => ?_); clear hK K; refine nz ?_
    refine pq 11 17 rfl rfl HT_ ?_; refine done_ (done_of HT_.out (by kernel_rfl)) ?_
    go_upto_if 17 with (fail)
    have H := HU7.out; clear HU7
    by_cases c10 : t103 = true
    ·subst c10
     have H1 : (spec_l2Put.l0 k1 l0 (wrap64 (x5_1 + 1)) a1_0 a1_1) = some r := by rw [if_pos rfl] at H; exact H
     clear H; have H := H1; clear H1; have H' := Aside0.mk H; clear H
     go_wp2
     go_roundg k1
     case measure => have := HK1.out; omega
     case rel => exact ⟨(wrap64 (x5_1 + 1)), Q17, H', ⟨Q163⟩, ⟨Q0 BK101⟩, ⟨Q1 HB⟩⟩
    ·replace c10 := Bool.eq_false_iff.mpr c10
     subst c10; have H1 : ((some (([] : List (S71)) : List (S71))).bind fun y104 => (if x5_1 ≤ (l0.length : Int) then ((some (l0.take (x5_1 : Int).toNat : List (S71))).bind fun y107 => (if y104.length + y107.length < 8796093022208 then ((some (y104 ++ y107 : List (S71))).bind fun y111 => ((some (([(⟨a1_0, a1_1⟩ : S71)] : List (S71)) : List (S71))).bind fun y114 => (if y111.length + y114.length < 8796093022208 then ((some (y111 ++ y114 : List (S71))).bind fun y117 => ((some (l0.drop (x5_1 : Int).toNat : List (S71))).bind fun y120 => (if y117.length + y120.length < 8796093022208 then (some (y117 ++ y120)) else (none)))) else (none)))) else (none))) else (none))) = some r := by rw [if_neg (show ¬ (false = true) by decide)] at H; exact H
     clear H; have H := H1; clear H1; obtain ⟨y104, hy104⟩ : ∃ y_ : List (S71), y_ = (([] : List (S71))) := ⟨_, rfl⟩; replace H : (if x5_1 ≤ (l0.length : Int) then ((some (l0.take (x5_1 : Int).toNat : List (S71))).bind fun y107 => (if y104.length + y107.length < 8796093022208 then ((some (y104 ++ y107 : List (S71))).bind fun y111 => ((some (([(⟨a1_0, a1_1⟩ : S71)] : List (S71)) : List (S71))).bind fun y114 => (if y111.length + y114.length < 8796093022208 then ((some (y111 ++ y114 : List (S71))).bind fun y117 => ((some (l0.drop (x5_1 : Int).toNat : List (S71))).bind fun y120 => (if y117.length + y120.length < 8796093022208 then (some (y117 ++ y120)) else (none)))) else (none)))) else (none))) else (none)) = some r := RH hy104 H; have Ny104 := Aside0.mk hy104; clear hy104; have c11b0 := eq_true (D4 : 0 ≤ x5_1)
     obtain ⟨c12, H⟩ := ifn H
     have c12b0 := eq_true c12; have c12b1 := decide_eq_true c12; clear c12; obtain ⟨y107, hy107⟩ : ∃ y_ : List (S71), y_ = (l0.take (x5_1 : Int).toNat) := ⟨_, rfl⟩; replace H : (if y104.length + y107.length < 8796093022208 then ((some (y104 ++ y107 : List (S71))).bind fun y111 => ((some (([(⟨a1_0, a1_1⟩ : S71)] : List (S71)) : List (S71))).bind fun y114 => (if y111.length + y114.length < 8796093022208 then ((some (y111 ++ y114 : List (S71))).bind fun y117 => ((some (l0.drop (x5_1 : Int).toNat : List (S71))).bind fun y120 => (if y117.length + y120.length < 8796093022208 then (some (y117 ++ y120)) else (none)))) else (none)))) else (none)) = some r := RH hy107 H; have Ny107 := Aside0.mk hy107; clear hy107
     obtain ⟨c13, H⟩ := ifn H
     have LMc13 := Aside0.mk c13; clear c13; obtain ⟨y111, hy111⟩ : ∃ y_ : List (S71), y_ = (y104 ++ y107) := ⟨_, rfl⟩; replace H : ((some (([(⟨a1_0, a1_1⟩ : S71)] : List (S71)) : List (S71))).bind fun y114 => (if y111.length + y114.length < 8796093022208 then ((some (y111 ++ y114 : List (S71))).bind fun y117 => ((some (l0.drop (x5_1 : Int).toNat : List (S71))).bind fun y120 => (if y117.length + y120.length < 8796093022208 then (some (y117 ++ y120)) else (none)))) else (none))) = some r := RH hy111 H; have Ny111 := Aside0.mk hy111; clear hy111; obtain ⟨y114, hy114⟩ : ∃ y_ : List (S71), y_ = (([(⟨a1_0, a1_1⟩ : S71)] : List (S71))) := ⟨_, rfl⟩; replace H : (if y111.length + y114.length < 8796093022208 then ((some (y111 ++ y114 : List (S71))).bind fun y117 => ((some (l0.drop (x5_1 : Int).toNat : List (S71))).bind fun y120 => (if y117.length + y120.length < 8796093022208 then (some (y117 ++ y120)) else (none)))) else (none)) = some r := RH hy114 H; have Ny114 := Aside0.mk hy114; clear hy114
     obtain ⟨c14, H⟩ := ifn H
     have LMc14 := Aside0.mk c14; clear c14; obtain ⟨y117, hy117⟩ : ∃ y_ : List (S71), y_ = (y111 ++ y114) := ⟨_, rfl⟩; replace H : ((some (l0.drop (x5_1 : Int).toNat : List (S71))).bind fun y120 => (if y117.length + y120.length < 8796093022208 then (some (y117 ++ y120)) else (none))) = some r := RH hy117 H; have Ny117 := Aside0.mk hy117; clear hy117; have c15b0 := eq_true (D4 : 0 ≤ x5_1); have c16b0 := eq_true (D4 : x5_1 ≤ (l0.length : Int)); obtain ⟨y120, hy120⟩ : ∃ y_ : List (S71), y_ = (l0.drop (x5_1 : Int).toNat) := ⟨_, rfl⟩; replace H : (if y117.length + y120.length < 8796093022208 then (some (y117 ++ y120)) else (none)) = some r := RH hy120 H; have Ny120 := Aside0.mk hy120; clear hy120
     obtain ⟨c17, H⟩ := ifn H
     have LMc17 := Aside0.mk c17; clear c17; obtain ⟨y124, hy124⟩ : ∃ y_ : List (S71), y_ = (y117 ++ y120) := ⟨_, rfl⟩; replace H : (some y124) = some r := RH hy124 H; have Ny124 := Aside0.mk hy124; clear hy124; obtain rfl := Option.some.inj H
     try go_wp2
     replace BK101 := am (blk_drew BK101.out); replace HB := am (below_drew1 HB.out); have q19 : (x5_1 : Int) ≤ ((l0.length : Int) : Int) := D4; obtain ⟨i019, hi019, _, hsz19, _⟩ := info_parts info71; have hroom19 : l0.length ≤ c0 := HC0.out; have hC19 : Kd.C k71 _ (some ad102) l0.length l0 := HR0.out; have hcut19 := cut_to (P := Try.prog) 22 71 .i64 Try.underlying22 hi019 (some ad102) l0.length c0 x5_1 (D4) q19 hroom19; have hr19 := Kd.C_take (m := (x5_1 : Int).toNat) hC19 (by omega); have hy19 : y107.length = (x5_1 : Int).toNat := (by rw [Ny107.out, List.length_take]; omega); rw [← Ny107.out] at hr19; rw [← hy19] at hcut19; have HR110 := Aside0.mk hr19; have HC110 := am (show y107.length ≤ c0 from by omega); clear hr19 hC19 hroom19 hi019 hsz19; have KY19 := Aside0.mk hy19; clear hy19; replace q19 := eq_true q19; have q20 : (x5_1 : Int) ≤ ((l0.length : Int) : Int) := D4; obtain ⟨i020, hi020, _, hsz20, _⟩ := info_parts info71; have hroom20 : l0.length ≤ c0 := HC0.out; have hC20 : Kd.C k71 _ (some ad102) l0.length l0 := HR0.out; have q020 : (0 : Int) ≤ (x5_1 : Int) := D4; have hcut20 := cut_from (P := Try.prog) 22 71 .i64 Try.underlying22 hi020 2 hsz20 (some ad102) l0.length c0 x5_1 q020 q20; have hr20 := Kd.C_drop (m := (x5_1 : Int).toNat) (c := c0) hC20 (by omega) hroom20; obtain ⟨A20, hA20⟩ : ∃ A1, A1 = (if c0 = (x5_1 : Int).toNat then (some ad102) else ((some ad102) : Option Addr).map (·.add ((x5_1 : Int).toNat * 2))) := ⟨_, rfl⟩; obtain ⟨c20, hc20⟩ : ∃ c1, c1 = c0 - (x5_1 : Int).toNat := ⟨_, rfl⟩; have hy20 : y120.length = l0.length - (x5_1 : Int).toNat := (by rw [Ny120.out, List.length_drop] <;> omega); rw [show (l0).drop (x5_1 : Int).toNat = y120 from Ny120.out.symm] at hr20; replace hr20 : Kd.C k71 _ A20 y120.length y120 := (by rw [hA20]; exact hr20); rw [← hy20, ← hA20, ← hc20] at hcut20; have HR123 := Aside0.mk hr20; have HC123 := am (show y120.length ≤ c20 from by rw [hy20, hc20]; exact Nat.sub_le_sub_right hroom20 _); clear hr20 hC20 hroom20 hi020 hsz20 hc20; have KY20 := Aside0.mk hy20; have KA20 := Aside0.mk hA20; clear hy20 hA20; replace q20 := eq_true q20; refine start_ (n := 13) (S := fun w' => w'.cell? ⟨gb101, 0, none⟩ = some (.int .i64 a1_0) ∧ w'.cell? ⟨gb101, 1, none⟩ = some (.int .i64 a1_1)) (ds := []) #[false, false, false, false, false, false, false, false, false, false, false, false, false] (by kernel_rfl) rfl rfl ⟨(blk_cell BK101.out 0).trans rfl, (blk_cell BK101.out 1).trans rfl⟩ (fun hHeld => ?_); refine with_tabW spec_l2Put.tab4 spec_l2Put.bits4 (fun HT_ HW_ => ?_); generalize w9.drew = w18 at BK101 HB HR110 HR123 hHeld ⊢; refine pq 1 21 rfl rfl HT_ ?_; refine pq 2 22 rfl rfl HT_ ?_; refine pq 3 23 rfl rfl HT_ ?_; refine pq 8 28 rfl rfl HT_ ?_; refine pq 9 29 rfl rfl HT_ ?_; refine pq 10 30 rfl rfl HT_ ?_; refine tq2 5 25 rfl rfl HT_ HW_ hHeld ?_; refine join_ (σ := Value × Value × Value) 3 #[true, true, true, true, true, true, true, false, true, true, true, false, false] (fun s_ => [(20, s_.1), (24, s_.2.1), (26, s_.2.2)]) (fun s_ w' => (w'.cell? ⟨gb101, 0, none⟩ = some (.int .i64 a1_0) ∧ w'.cell? ⟨gb101, 1, none⟩ = some (.int .i64 a1_1)) ∧ (Kd.R k71 71 w' w.heap.size (fun k_ => some k_ ≠ (s_.2.2 : Value).ownBlock ∧ k_ ≠ gb101) s_.2.1 y111) ∧ (Kd.R k71 71 w' w.heap.size (fun k_ => some k_ ≠ (s_.2.1 : Value).ownBlock ∧ k_ ≠ gb101) s_.2.2 y114) ∧ (w'.heap[gb101]? = some (.cells #[.int .i64 a1_0, .int .i64 a1_1] 71 (0, 0))) ∧ (Below w.heap.size w w')) ?_ ?_
     rotate_left
     ·intro hCont
      refine two_ (i := 0) (j := 6) (Ni := some 20) (Nj := some 26) #[true, true, true, true, false, true, false, false, true, true, true, false, false] #[false, true, true, true, false, true, true, false, true, true, true, false, false] rfl rfl rfl rfl (two_of HT_.out (by kernel_rfl)) (by decide) (by decide) (fun K hK => ?_) (fun K hK => ?_)
      ·skip
       refine Kd.R_lit_step k71 _ 71 (by rfl) (N := 20) (by rfl) (xs := ([] : List (S71))) (inner := []) (ok := fun _ => True) (okp := fun _ => True) Qr ?hp (fun _ hk => hk) trivial (Below.refl _ _) (Nat.le_refl _) (by simp) ?_; (case hp => exact (Reps.none _ _)); intro v105 w21 ho22 hb hg_ hnew_; clear hg_ hnew_
       (first | rw [← Ny104.out] at ho22 | (simp only [Int.reduceToNat] at ho22; rw [← Ny104.out] at ho22))
       have HO106 := am (Kd.R_lower (Kd.R_newB ho22 (g := gb101) (o := .cells #[.int .i64 a1_0, .int .i64 a1_1] 71 (0, 0)) (Q0 BK101)) (below_size (Q1 HB))); replace BK101 := bb BK101 hb; replace HB := bs HB hb; clear hb ho22; refine hK.out _ _ ⟨(blk_cell BK101.out 0).trans rfl, (blk_cell BK101.out 1).trans rfl⟩ (fun hHeld => ?_); clear hK K; refine nz ?_
       refine two_ (i := 4) (j := 6) (Ni := some 24) (Nj := some 26) #[true, true, true, true, true, true, false, false, true, true, true, false, false] #[true, true, true, true, false, true, true, false, true, true, true, false, false] rfl rfl rfl rfl (two_of HT_.out (by kernel_rfl)) (by decide) (by decide) (fun K hK => ?_) (fun K hK => ?_)
       ·skip
        refine Kd.R_append_rows_step k71 (w0 := w) w.heap.size (by rfl) (.tmp 20) (.tmp 23) 22 71 (.agg #[(.int .i64 0), (.int .i64 0)]) 16 rfl Try.underlying22 info71 rfl (by decide) (by omega) v105 y104 y107 _ _ _ (fun k_ => k_ ≠ gb101) (fun _ => False) rfl rfl ?aO ?aR (fun _ _ h => h) (fun _ h => h.elim) ?aF ?aB ?aS ?aL ?_
        (case aR => exact (Q11 HR110 HB))
        (case aB => exact (Q1 HB))
        (case aF => exact (fun k_ hk => Kd.freshB (g := gb101) (o := .cells #[.int .i64 a1_0, .int .i64 a1_1] 71 (0, 0)) (Q0 BK101) k_ hk))
        (case aO => exact (Q58 HO106))
        (case aS => exact (below_size (Q1 HB)))
        (case aL => have := LMc13.out; omega)
        intro v112 w23 ho hb hg hat; rw [← Ny111.out] at ho; replace BK101 := am (blk_grown (g := gb101) (o := .cells #[.int .i64 a1_0, .int .i64 a1_1] 71 (0, 0)) (Q0 BK101) hg (Kd.R_away HO106.out (fun _ hk => hk.2))); replace HB := am (hb); have HO113 := am (ho); clear HO106; clear ho hb hg hat; refine hK.out _ _ ⟨(blk_cell BK101.out 0).trans rfl, (blk_cell BK101.out 1).trans rfl⟩ (fun hHeld => ?_); clear hK K; refine nz ?_
        refine oq 6 26 rfl rfl HT_ (fun K hK => ?_); refine Kd.R_lit_step k71 _ 71 (by rfl) (N := 26) (by rfl) (xs := ([(⟨a1_0, a1_1⟩ : S71)] : List (S71))) (inner := [.int .i64 a1_0, .int .i64 a1_1]) (ok := fun _ => True) (okp := fun _ => True) Qr ?hp (fun _ hk => hk) trivial (Below.refl _ _) (Nat.le_refl _) (by simp) ?_; (case hp => exact (Reps.c2 (show Kd.M k71 _ _ _ (⟨a1_0, a1_1⟩ : S71) [.int .i64 a1_0, .int .i64 a1_1] from (k71_mkM _ _ _ (⟨a1_0, a1_1⟩ : S71) )) (Reps.none _ _))); intro v115 w24 ho25 hb hg_ hnew_; clear hg_ hnew_
        (first | rw [← Ny114.out] at ho25 | (simp only [Int.reduceToNat] at ho25; rw [← Ny114.out] at ho25))
        have HO116 := am (Kd.R_lower (Kd.R_newB (Kd.R_new' ho25 (Kd.R_lt (Q5 HO113))) (g := gb101) (o := .cells #[.int .i64 a1_0, .int .i64 a1_1] 71 (0, 0)) (Q0 BK101)) (below_size (Q1 HB))); replace HO113 := am (Kd.R_elder' (Q5 HO113) (Kd.R_base ho25) hb); replace BK101 := bb BK101 hb; replace HB := bs HB hb; clear hb ho25; refine hK.out _ _ ⟨(blk_cell BK101.out 0).trans rfl, (blk_cell BK101.out 1).trans rfl⟩ (fun hHeld => ?_); clear hK K; refine nz ?_
        exact norm_ Q155 (hCont (v105, v112, v115) _ ⟨hHeld, (Q89 HO113), (Q102 HO116), (Q0 BK101), (Q1 HB)⟩)
       ·skip
        refine Kd.R_lit_step k71 _ 71 (by rfl) (N := 26) (by rfl) (xs := ([(⟨a1_0, a1_1⟩ : S71)] : List (S71))) (inner := [.int .i64 a1_0, .int .i64 a1_1]) (ok := fun _ => True) (okp := fun _ => True) Qr ?hp (fun _ hk => hk) trivial (Below.refl _ _) (Nat.le_refl _) (by simp) ?_; (case hp => exact (Reps.c2 (show Kd.M k71 _ _ _ (⟨a1_0, a1_1⟩ : S71) [.int .i64 a1_0, .int .i64 a1_1] from (k71_mkM _ _ _ (⟨a1_0, a1_1⟩ : S71) )) (Reps.none _ _))); intro v115 w23 ho24 hb hg_ hnew_; clear hg_ hnew_
        (first | rw [← Ny114.out] at ho24 | (simp only [Int.reduceToNat] at ho24; rw [← Ny114.out] at ho24))
        have HO116 := am (Kd.R_lower (Kd.R_newB (Kd.R_new' ho24 (Kd.R_lt (Q5 HO106))) (g := gb101) (o := .cells #[.int .i64 a1_0, .int .i64 a1_1] 71 (0, 0)) (Q0 BK101)) (below_size (Q1 HB))); replace HO106 := am (Kd.R_elder' (Q5 HO106) (Kd.R_base ho24) hb); replace BK101 := bb BK101 hb; replace HB := bs HB hb; clear hb ho24; refine hK.out _ _ ⟨(blk_cell BK101.out 0).trans rfl, (blk_cell BK101.out 1).trans rfl⟩ (fun hHeld => ?_); clear hK K; refine nz ?_
        refine oq 4 24 rfl rfl HT_ (fun K hK => ?_); refine Kd.R_append_rows_step k71 (w0 := w) w.heap.size (by rfl) (.tmp 20) (.tmp 23) 22 71 (.agg #[(.int .i64 0), (.int .i64 0)]) 16 rfl Try.underlying22 info71 rfl (by decide) (by omega) v105 y104 y107 _ _ _ (fun k_ => some k_ ≠ (v115 : Value).ownBlock ∧ k_ ≠ gb101) (fun _ => False) rfl rfl ?aO ?aR (fun _ _ h => h) (fun _ h => h.elim) ?aF ?aB ?aS ?aL ?_
        (case aR => exact (Q11 HR110 HB))
        (case aB => exact (Q1 HB))
        (case aF => exact (fun k_ hk => ⟨Kd.fresh' (Kd.R_lt (Q5 HO116)) k_ hk, Kd.freshB (g := gb101) (o := .cells #[.int .i64 a1_0, .int .i64 a1_1] 71 (0, 0)) (Q0 BK101) k_ hk⟩))
        (case aO => exact (Q162 HO106))
        (case aS => exact (below_size (Q1 HB)))
        (case aL => have := LMc13.out; omega)
        intro v112 w25 ho hb hg hat; rw [← Ny111.out] at ho; replace BK101 := am (blk_grown (g := gb101) (o := .cells #[.int .i64 a1_0, .int .i64 a1_1] 71 (0, 0)) (Q0 BK101) hg (Kd.R_away HO106.out (fun _ hk => hk.1.2))); replace HO116 := am (Kd.R_after (ok := (fun k_ => k_ ≠ gb101)) (Q162 HO116) hg hat); replace HB := am (hb); have HO113 := am (ho); clear HO106; clear ho hb hg hat; refine hK.out _ _ ⟨(blk_cell BK101.out 0).trans rfl, (blk_cell BK101.out 1).trans rfl⟩ (fun hHeld => ?_); clear hK K; refine nz ?_
        exact norm_ Q155 (hCont (v105, v112, v115) _ ⟨hHeld, (Q5 HO113), (Q89 HO116), (Q0 BK101), (Q1 HB)⟩)
      ·skip
       refine Kd.R_lit_step k71 _ 71 (by rfl) (N := 26) (by rfl) (xs := ([(⟨a1_0, a1_1⟩ : S71)] : List (S71))) (inner := [.int .i64 a1_0, .int .i64 a1_1]) (ok := fun _ => True) (okp := fun _ => True) Qr ?hp (fun _ hk => hk) trivial (Below.refl _ _) (Nat.le_refl _) (by simp) ?_; (case hp => exact (Reps.c2 (show Kd.M k71 _ _ _ (⟨a1_0, a1_1⟩ : S71) [.int .i64 a1_0, .int .i64 a1_1] from (k71_mkM _ _ _ (⟨a1_0, a1_1⟩ : S71) )) (Reps.none _ _))); intro v115 w21 ho22 hb hg_ hnew_; clear hg_ hnew_
       (first | rw [← Ny114.out] at ho22 | (simp only [Int.reduceToNat] at ho22; rw [← Ny114.out] at ho22))
       have HO116 := am (Kd.R_lower (Kd.R_newB ho22 (g := gb101) (o := .cells #[.int .i64 a1_0, .int .i64 a1_1] 71 (0, 0)) (Q0 BK101)) (below_size (Q1 HB))); replace BK101 := bb BK101 hb; replace HB := bs HB hb; clear hb ho22; refine hK.out _ _ ⟨(blk_cell BK101.out 0).trans rfl, (blk_cell BK101.out 1).trans rfl⟩ (fun hHeld => ?_); clear hK K; refine nz ?_
       refine oq 0 20 rfl rfl HT_ (fun K hK => ?_); refine Kd.R_lit_step k71 _ 71 (by rfl) (N := 20) (by rfl) (xs := ([] : List (S71))) (inner := []) (ok := fun _ => True) (okp := fun _ => True) Qr ?hp (fun _ hk => hk) trivial (Below.refl _ _) (Nat.le_refl _) (by simp) ?_; (case hp => exact (Reps.none _ _)); intro v105 w23 ho24 hb hg_ hnew_; clear hg_ hnew_
       (first | rw [← Ny104.out] at ho24 | (simp only [Int.reduceToNat] at ho24; rw [← Ny104.out] at ho24))
       have HO106 := am (Kd.R_lower (Kd.R_newB (Kd.R_new' ho24 (Kd.R_lt (Q5 HO116))) (g := gb101) (o := .cells #[.int .i64 a1_0, .int .i64 a1_1] 71 (0, 0)) (Q0 BK101)) (below_size (Q1 HB))); replace HO116 := am (Kd.R_elder' (Q5 HO116) (Kd.R_base ho24) hb); replace BK101 := bb BK101 hb; replace HB := bs HB hb; clear hb ho24; refine hK.out _ _ ⟨(blk_cell BK101.out 0).trans rfl, (blk_cell BK101.out 1).trans rfl⟩ (fun hHeld => ?_); clear hK K; refine nz ?_
       refine oq 4 24 rfl rfl HT_ (fun K hK => ?_); refine Kd.R_append_rows_step k71 (w0 := w) w.heap.size (by rfl) (.tmp 20) (.tmp 23) 22 71 (.agg #[(.int .i64 0), (.int .i64 0)]) 16 rfl Try.underlying22 info71 rfl (by decide) (by omega) v105 y104 y107 _ _ _ (fun k_ => some k_ ≠ (v115 : Value).ownBlock ∧ k_ ≠ gb101) (fun _ => False) rfl rfl ?aO ?aR (fun _ _ h => h) (fun _ h => h.elim) ?aF ?aB ?aS ?aL ?_
       (case aR => exact (Q11 HR110 HB))
       (case aB => exact (Q1 HB))
       (case aF => exact (fun k_ hk => ⟨Kd.fresh' (Kd.R_lt (Q5 HO116)) k_ hk, Kd.freshB (g := gb101) (o := .cells #[.int .i64 a1_0, .int .i64 a1_1] 71 (0, 0)) (Q0 BK101) k_ hk⟩))
       (case aO => exact (Q102 HO106))
       (case aS => exact (below_size (Q1 HB)))
       (case aL => have := LMc13.out; omega)
       intro v112 w25 ho hb hg hat; rw [← Ny111.out] at ho; replace BK101 := am (blk_grown (g := gb101) (o := .cells #[.int .i64 a1_0, .int .i64 a1_1] 71 (0, 0)) (Q0 BK101) hg (Kd.R_away HO106.out (fun _ hk => hk.2))); replace HO116 := am (Kd.R_after (ok := (fun k_ => k_ ≠ gb101)) (Q102 HO116) hg hat); replace HB := am (hb); have HO113 := am (ho); clear HO106; clear ho hb hg hat; refine hK.out _ _ ⟨(blk_cell BK101.out 0).trans rfl, (blk_cell BK101.out 1).trans rfl⟩ (fun hHeld => ?_); clear hK K; refine nz ?_
       exact norm_ Q155 (hCont (v105, v112, v115) _ ⟨hHeld, (Q5 HO113), (Q89 HO116), (Q0 BK101), (Q1 HB)⟩)
     rintro ⟨v105, v112, v115⟩ w26 ⟨hS_, h0_, h1_, h2_, h3_⟩; have HO113 : Aside0 (Kd.R k71 71 w26 w.heap.size (fun k_ => some k_ ≠ (v115 : Value).ownBlock ∧ k_ ≠ gb101) v112 y111) := ⟨h0_⟩; have HO116 : Aside0 (Kd.R k71 71 w26 w.heap.size (fun k_ => some k_ ≠ (v112 : Value).ownBlock ∧ k_ ≠ gb101) v115 y114) := ⟨h1_⟩; replace BK101 : Aside0 (w26.heap[gb101]? = some (.cells #[.int .i64 a1_0, .int .i64 a1_1] 71 (0, 0))) := ⟨h2_⟩; replace HB : Aside0 (Below w.heap.size w w26) := ⟨h3_⟩; clear h0_ h1_ h2_ h3_; have hHeld : w26.cell? ⟨gb101, 0, none⟩ = some (.int .i64 a1_0) ∧ w26.cell? ⟨gb101, 1, none⟩ = some (.int .i64 a1_1) := hS_; obtain ⟨Ao28, co28, eo28⟩ := Kd.R_slice HO116.out
     (first | subst eo28 | (injection eo28 with f1_ f2_ f3_; have f4_ := f1_.symm; have f5_ := f3_.symm; clear f1_ f2_ f3_; subst f4_; subst f5_))
     refine norm_ (a' := ?_) ?_ ?_
     rotate_left
     ·simp only [putAll, Act.put, List.setIfInBounds_toArray, List.set_cons_zero, List.set_cons_succ]
      rfl
     refine oq 7 27 rfl rfl HT_ (fun K hK => ?_); refine Kd.R_append_rows_step k71 (w0 := w) w.heap.size (by rfl) (.tmp 24) (.tmp 26) 22 71 (.agg #[(.int .i64 0), (.int .i64 0)]) 16 rfl Try.underlying22 info71 rfl (by decide) (by omega) v112 y111 y114 _ _ _ (fun k_ => some k_ ≠ (.slice Ao28 y114.length co28 : Value).ownBlock ∧ k_ ≠ gb101) (fun _ => False) rfl rfl ?aO ?aR (fun _ _ h => h) (fun _ h => h.elim) ?aF ?aB ?aS ?aL ?_
     (case aR => exact (Q105 HO116))
     (case aB => exact (Q1 HB))
     (case aF => exact (fun k_ hk => ⟨Kd.fresh' (Kd.R_lt (Q5 HO116)) k_ hk, Kd.freshB (g := gb101) (o := .cells #[.int .i64 a1_0, .int .i64 a1_1] 71 (0, 0)) (Q0 BK101) k_ hk⟩))
     (case aO => exact (Q5 HO113))
     (case aS => exact (below_size (Q1 HB)))
     (case aL => have := LMc14.out; omega)
     intro v118 w27 ho hb hg hat; rw [← Ny117.out] at ho; replace BK101 := am (blk_grown (g := gb101) (o := .cells #[.int .i64 a1_0, .int .i64 a1_1] 71 (0, 0)) (Q0 BK101) hg (Kd.R_away HO113.out (fun _ hk => hk.2))); replace HO116 := am (Kd.R_after (ok := (fun k_ => k_ ≠ gb101)) (Q89 HO116) hg hat); replace HB := am (hb); have HO119 := am (ho); clear HO113; clear ho hb hg hat; refine hK.out _ _ ⟨(blk_cell BK101.out 0).trans rfl, (blk_cell BK101.out 1).trans rfl⟩ (fun hHeld => ?_); clear hK K; refine nz ?_
     refine oq 11 31 rfl rfl HT_ (fun K hK => ?_); refine Kd.R_append_rows_step k71 (w0 := w) w.heap.size (by rfl) (.tmp 27) (.tmp 30) 22 71 (.agg #[(.int .i64 0), (.int .i64 0)]) 16 rfl Try.underlying22 info71 rfl (by decide) (by omega) v118 y117 y120 _ _ _ (fun k_ => some k_ ≠ (.slice Ao28 y114.length co28 : Value).ownBlock ∧ k_ ≠ gb101) (fun _ => False) rfl rfl ?aO ?aR (fun _ _ h => h) (fun _ h => h.elim) ?aF ?aB ?aS ?aL ?_
     (case aR => exact (Q11 HR123 HB))
     (case aB => exact (Q1 HB))
     (case aF => exact (fun k_ hk => ⟨Kd.fresh' (Kd.R_lt (Q5 HO116)) k_ hk, Kd.freshB (g := gb101) (o := .cells #[.int .i64 a1_0, .int .i64 a1_1] 71 (0, 0)) (Q0 BK101) k_ hk⟩))
     (case aO => exact (Q5 HO119))
     (case aS => exact (below_size (Q1 HB)))
     (case aL => have := LMc17.out; omega)
     intro v125 w29 ho hb hg hat; rw [← Ny124.out] at ho; replace BK101 := am (blk_grown (g := gb101) (o := .cells #[.int .i64 a1_0, .int .i64 a1_1] 71 (0, 0)) (Q0 BK101) hg (Kd.R_away HO119.out (fun _ hk => hk.2))); replace HO116 := am (Kd.R_after (ok := (fun k_ => k_ ≠ gb101)) (Q5 HO116) hg hat); replace HB := am (hb); have HO126 := am (ho); clear HO119; clear ho hb hg hat; refine hK.out _ _ ⟨(blk_cell BK101.out 0).trans rfl, (blk_cell BK101.out 1).trans rfl⟩ (fun hHeld => ?_); clear hK K; refine nz ?_
     refine pq 12 4 rfl rfl HT_ ?_; refine done_ (done_of HT_.out (by kernel_rfl)) ?_
     try go_wp2
     go_ret
     exact ⟨_, Q19, by (with_reducible repeat (first | apply Kd.R_alloc | apply Kd.R_drewN | apply Kd.R_drew)); exact Kd.R_mono HO126.out (fun _ hk => trivial), Q1 HB⟩
   ·rw [if_neg c4] at H
    have c4b0 := decide_eq_false c4; clear c4; have HU30 := Aside0.mk H; clear H
    try go_wp2
    replace BK101 := am (blk_drew BK101.out); replace HB := am (below_drew1 HB.out); refine start_ (n := 12) (S := fun w' => True) (ds := []) #[false, false, false, false, false, false, false, false, false, false, false, false] (by kernel_rfl) rfl rfl trivial (fun hHeld => ?_); refine with_tabW spec_l2Put.tab2 spec_l2Put.bits2 (fun HT_ HW_ => ?_); generalize wr.drew = w31 at BK101 HB hHeld ⊢; refine pq 0 6 rfl rfl HT_ ?_; refine pq 1 7 rfl rfl HT_ ?_; refine pq 2 8 rfl rfl HT_ ?_; refine pq 3 9 rfl rfl HT_ ?_; refine pq 4 10 rfl rfl HT_ ?_; refine pu 5 11 rfl rfl HT_ ?_; refine pu 6 12 rfl rfl HT_ ?_; refine pu 7 13 rfl rfl HT_ ?_; refine pu 8 14 rfl rfl HT_ ?_; refine pu 9 15 rfl rfl HT_ ?_; refine pu 10 16 rfl rfl HT_ ?_; refine pq 11 17 rfl rfl HT_ ?_; refine done_ (done_of HT_.out (by kernel_rfl)) ?_
    go_upto_if 17 with (fail)
    have H := HU30.out; clear HU30; obtain ⟨y127, hy127⟩ : ∃ y_ : List (S71), y_ = (([] : List (S71))) := ⟨_, rfl⟩; replace H : (if 0 ≤ x5_1 then (if x5_1 ≤ (l0.length : Int) then ((some (l0.take (x5_1 : Int).toNat : List (S71))).bind fun y130 => (if y127.length + y130.length < 8796093022208 then ((some (y127 ++ y130 : List (S71))).bind fun y134 => ((some (([(⟨a1_0, a1_1⟩ : S71)] : List (S71)) : List (S71))).bind fun y137 => (if y134.length + y137.length < 8796093022208 then ((some (y134 ++ y137 : List (S71))).bind fun y140 => ((some (l0.drop (x5_1 : Int).toNat : List (S71))).bind fun y143 => (if y140.length + y143.length < 8796093022208 then (some (y140 ++ y143)) else (none)))) else (none)))) else (none))) else (none)) else (none)) = some r := RH hy127 H; have Ny127 := Aside0.mk hy127; clear hy127
    by_cases c32 : 0 ≤ x5_1
    ·rw [if_pos c32] at H
     have c32b0 := eq_true c32; have c32b1 := decide_eq_true c32; clear c32
     obtain ⟨c33, H⟩ := ifn H
     have c33b0 := eq_true c33; have c33b1 := decide_eq_true c33; clear c33; obtain ⟨y130, hy130⟩ : ∃ y_ : List (S71), y_ = (l0.take (x5_1 : Int).toNat) := ⟨_, rfl⟩; replace H : (if y127.length + y130.length < 8796093022208 then ((some (y127 ++ y130 : List (S71))).bind fun y134 => ((some (([(⟨a1_0, a1_1⟩ : S71)] : List (S71)) : List (S71))).bind fun y137 => (if y134.length + y137.length < 8796093022208 then ((some (y134 ++ y137 : List (S71))).bind fun y140 => ((some (l0.drop (x5_1 : Int).toNat : List (S71))).bind fun y143 => (if y140.length + y143.length < 8796093022208 then (some (y140 ++ y143)) else (none)))) else (none)))) else (none)) = some r := RH hy130 H; have Ny130 := Aside0.mk hy130; clear hy130
     obtain ⟨c34, H⟩ := ifn H
     have LMc34 := Aside0.mk c34; clear c34; obtain ⟨y134, hy134⟩ : ∃ y_ : List (S71), y_ = (y127 ++ y130) := ⟨_, rfl⟩; replace H : ((some (([(⟨a1_0, a1_1⟩ : S71)] : List (S71)) : List (S71))).bind fun y137 => (if y134.length + y137.length < 8796093022208 then ((some (y134 ++ y137 : List (S71))).bind fun y140 => ((some (l0.drop (x5_1 : Int).toNat : List (S71))).bind fun y143 => (if y140.length + y143.length < 8796093022208 then (some (y140 ++ y143)) else (none)))) else (none))) = some r := RH hy134 H; have Ny134 := Aside0.mk hy134; clear hy134; obtain ⟨y137, hy137⟩ : ∃ y_ : List (S71), y_ = (([(⟨a1_0, a1_1⟩ : S71)] : List (S71))) := ⟨_, rfl⟩; replace H : (if y134.length + y137.length < 8796093022208 then ((some (y134 ++ y137 : List (S71))).bind fun y140 => ((some (l0.drop (x5_1 : Int).toNat : List (S71))).bind fun y143 => (if y140.length + y143.length < 8796093022208 then (some (y140 ++ y143)) else (none)))) else (none)) = some r := RH hy137 H; have Ny137 := Aside0.mk hy137; clear hy137
     obtain ⟨c35, H⟩ := ifn H
     have LMc35 := Aside0.mk c35; clear c35; obtain ⟨y140, hy140⟩ : ∃ y_ : List (S71), y_ = (y134 ++ y137) := ⟨_, rfl⟩; replace H : ((some (l0.drop (x5_1 : Int).toNat : List (S71))).bind fun y143 => (if y140.length + y143.length < 8796093022208 then (some (y140 ++ y143)) else (none))) = some r := RH hy140 H; have Ny140 := Aside0.mk hy140; clear hy140; have c36b0 := eq_true (D4 : 0 ≤ x5_1); have c37b0 := eq_true (D4 : x5_1 ≤ (l0.length : Int)); obtain ⟨y143, hy143⟩ : ∃ y_ : List (S71), y_ = (l0.drop (x5_1 : Int).toNat) := ⟨_, rfl⟩; replace H : (if y140.length + y143.length < 8796093022208 then (some (y140 ++ y143)) else (none)) = some r := RH hy143 H; have Ny143 := Aside0.mk hy143; clear hy143
     obtain ⟨c38, H⟩ := ifn H
     have LMc38 := Aside0.mk c38; clear c38; obtain ⟨y147, hy147⟩ : ∃ y_ : List (S71), y_ = (y140 ++ y143) := ⟨_, rfl⟩; replace H : (some y147) = some r := RH hy147 H; have Ny147 := Aside0.mk hy147; clear hy147; obtain rfl := Option.some.inj H
     try go_wp2
     replace BK101 := am (blk_drew BK101.out); replace HB := am (below_drew1 HB.out); have q40 : (x5_1 : Int) ≤ ((l0.length : Int) : Int) := D4; obtain ⟨i040, hi040, _, hsz40, _⟩ := info_parts info71; have hroom40 : l0.length ≤ c0 := HC0.out; have hC40 : Kd.C k71 _ A0 l0.length l0 := HR0.out; have hcut40 := cut_to (P := Try.prog) 22 71 .i64 Try.underlying22 hi040 A0 l0.length c0 x5_1 (D4) q40 hroom40; have hr40 := Kd.C_take (m := (x5_1 : Int).toNat) hC40 (by omega); have hy40 : y130.length = (x5_1 : Int).toNat := (by rw [Ny130.out, List.length_take]; omega); rw [← Ny130.out] at hr40; rw [← hy40] at hcut40; have HR133 := Aside0.mk hr40; have HC133 := am (show y130.length ≤ c0 from by omega); clear hr40 hC40 hroom40 hi040 hsz40; have KY40 := Aside0.mk hy40; clear hy40; replace q40 := eq_true q40; have q41 : (x5_1 : Int) ≤ ((l0.length : Int) : Int) := D4; obtain ⟨i041, hi041, _, hsz41, _⟩ := info_parts info71; have hroom41 : l0.length ≤ c0 := HC0.out; have hC41 : Kd.C k71 _ A0 l0.length l0 := HR0.out; have q041 : (0 : Int) ≤ (x5_1 : Int) := D4; have hcut41 := cut_from (P := Try.prog) 22 71 .i64 Try.underlying22 hi041 2 hsz41 A0 l0.length c0 x5_1 q041 q41; have hr41 := Kd.C_drop (m := (x5_1 : Int).toNat) (c := c0) hC41 (by omega) hroom41; obtain ⟨A41, hA41⟩ : ∃ A1, A1 = (if c0 = (x5_1 : Int).toNat then A0 else (A0 : Option Addr).map (·.add ((x5_1 : Int).toNat * 2))) := ⟨_, rfl⟩; obtain ⟨c41, hc41⟩ : ∃ c1, c1 = c0 - (x5_1 : Int).toNat := ⟨_, rfl⟩; have hy41 : y143.length = l0.length - (x5_1 : Int).toNat := (by rw [Ny143.out, List.length_drop] <;> omega); rw [show (l0).drop (x5_1 : Int).toNat = y143 from Ny143.out.symm] at hr41; replace hr41 : Kd.C k71 _ A41 y143.length y143 := (by rw [hA41]; exact hr41); rw [← hy41, ← hA41, ← hc41] at hcut41; have HR146 := Aside0.mk hr41; have HC146 := am (show y143.length ≤ c41 from by rw [hy41, hc41]; exact Nat.sub_le_sub_right hroom41 _); clear hr41 hC41 hroom41 hi041 hsz41 hc41; have KY41 := Aside0.mk hy41; have KA41 := Aside0.mk hA41; clear hy41 hA41; replace q41 := eq_true q41; refine start_ (n := 13) (S := fun w' => w'.cell? ⟨gb101, 0, none⟩ = some (.int .i64 a1_0) ∧ w'.cell? ⟨gb101, 1, none⟩ = some (.int .i64 a1_1)) (ds := []) #[false, false, false, false, false, false, false, false, false, false, false, false, false] (by kernel_rfl) rfl rfl ⟨(blk_cell BK101.out 0).trans rfl, (blk_cell BK101.out 1).trans rfl⟩ (fun hHeld => ?_); refine with_tabW spec_l2Put.tab4 spec_l2Put.bits4 (fun HT_ HW_ => ?_); generalize w31.drew = w39 at BK101 HB HR133 HR146 hHeld ⊢; refine pq 1 21 rfl rfl HT_ ?_; refine pq 2 22 rfl rfl HT_ ?_; refine pq 3 23 rfl rfl HT_ ?_; refine pq 8 28 rfl rfl HT_ ?_; refine pq 9 29 rfl rfl HT_ ?_; refine pq 10 30 rfl rfl HT_ ?_; refine tq2 5 25 rfl rfl HT_ HW_ hHeld ?_; refine join_ (σ := Value × Value × Value) 3 #[true, true, true, true, true, true, true, false, true, true, true, false, false] (fun s_ => [(20, s_.1), (24, s_.2.1), (26, s_.2.2)]) (fun s_ w' => (w'.cell? ⟨gb101, 0, none⟩ = some (.int .i64 a1_0) ∧ w'.cell? ⟨gb101, 1, none⟩ = some (.int .i64 a1_1)) ∧ (Kd.R k71 71 w' w.heap.size (fun k_ => some k_ ≠ (s_.2.2 : Value).ownBlock ∧ k_ ≠ gb101) s_.2.1 y134) ∧ (Kd.R k71 71 w' w.heap.size (fun k_ => some k_ ≠ (s_.2.1 : Value).ownBlock ∧ k_ ≠ gb101) s_.2.2 y137) ∧ (w'.heap[gb101]? = some (.cells #[.int .i64 a1_0, .int .i64 a1_1] 71 (0, 0))) ∧ (Below w.heap.size w w')) ?_ ?_
     rotate_left
     ·intro hCont
      refine two_ (i := 0) (j := 6) (Ni := some 20) (Nj := some 26) #[true, true, true, true, false, true, false, false, true, true, true, false, false] #[false, true, true, true, false, true, true, false, true, true, true, false, false] rfl rfl rfl rfl (two_of HT_.out (by kernel_rfl)) (by decide) (by decide) (fun K hK => ?_) (fun K hK => ?_)
      ·skip
       refine Kd.R_lit_step k71 _ 71 (by rfl) (N := 20) (by rfl) (xs := ([] : List (S71))) (inner := []) (ok := fun _ => True) (okp := fun _ => True) Qr ?hp (fun _ hk => hk) trivial (Below.refl _ _) (Nat.le_refl _) (by simp) ?_; (case hp => exact (Reps.none _ _)); intro v128 w42 ho43 hb hg_ hnew_; clear hg_ hnew_
       (first | rw [← Ny127.out] at ho43 | (simp only [Int.reduceToNat] at ho43; rw [← Ny127.out] at ho43))
       have HO129 := am (Kd.R_lower (Kd.R_newB ho43 (g := gb101) (o := .cells #[.int .i64 a1_0, .int .i64 a1_1] 71 (0, 0)) (Q0 BK101)) (below_size (Q1 HB))); replace BK101 := bb BK101 hb; replace HB := bs HB hb; clear hb ho43; refine hK.out _ _ ⟨(blk_cell BK101.out 0).trans rfl, (blk_cell BK101.out 1).trans rfl⟩ (fun hHeld => ?_); clear hK K; refine nz ?_
       refine two_ (i := 4) (j := 6) (Ni := some 24) (Nj := some 26) #[true, true, true, true, true, true, false, false, true, true, true, false, false] #[true, true, true, true, false, true, true, false, true, true, true, false, false] rfl rfl rfl rfl (two_of HT_.out (by kernel_rfl)) (by decide) (by decide) (fun K hK => ?_) (fun K hK => ?_)
       ·skip
        refine Kd.R_append_rows_step k71 (w0 := w) w.heap.size (by rfl) (.tmp 20) (.tmp 23) 22 71 (.agg #[(.int .i64 0), (.int .i64 0)]) 16 rfl Try.underlying22 info71 rfl (by decide) (by omega) v128 y127 y130 _ _ _ (fun k_ => k_ ≠ gb101) (fun _ => False) rfl rfl ?aO ?aR (fun _ _ h => h) (fun _ h => h.elim) ?aF ?aB ?aS ?aL ?_
        (case aR => exact (Q11 HR133 HB))
        (case aB => exact (Q1 HB))
        (case aF => exact (fun k_ hk => Kd.freshB (g := gb101) (o := .cells #[.int .i64 a1_0, .int .i64 a1_1] 71 (0, 0)) (Q0 BK101) k_ hk))
        (case aO => exact (Q58 HO129))
        (case aS => exact (below_size (Q1 HB)))
        (case aL => have := LMc34.out; omega)
        intro v135 w44 ho hb hg hat; rw [← Ny134.out] at ho; replace BK101 := am (blk_grown (g := gb101) (o := .cells #[.int .i64 a1_0, .int .i64 a1_1] 71 (0, 0)) (Q0 BK101) hg (Kd.R_away HO129.out (fun _ hk => hk.2))); replace HB := am (hb); have HO136 := am (ho); clear HO129; clear ho hb hg hat; refine hK.out _ _ ⟨(blk_cell BK101.out 0).trans rfl, (blk_cell BK101.out 1).trans rfl⟩ (fun hHeld => ?_); clear hK K; refine nz ?_
        refine oq 6 26 rfl rfl HT_ (fun K hK => ?_); refine Kd.R_lit_step k71 _ 71 (by rfl) (N := 26) (by rfl) (xs := ([(⟨a1_0, a1_1⟩ : S71)] : List (S71))) (inner := [.int .i64 a1_0, .int .i64 a1_1]) (ok := fun _ => True) (okp := fun _ => True) Qr ?hp (fun _ hk => hk) trivial (Below.refl _ _) (Nat.le_refl _) (by simp) ?_; (case hp => exact (Reps.c2 (show Kd.M k71 _ _ _ (⟨a1_0, a1_1⟩ : S71) [.int .i64 a1_0, .int .i64 a1_1] from (k71_mkM _ _ _ (⟨a1_0, a1_1⟩ : S71) )) (Reps.none _ _))); intro v138 w45 ho46 hb hg_ hnew_; clear hg_ hnew_
        (first | rw [← Ny137.out] at ho46 | (simp only [Int.reduceToNat] at ho46; rw [← Ny137.out] at ho46))
        have HO139 := am (Kd.R_lower (Kd.R_newB (Kd.R_new' ho46 (Kd.R_lt (Q5 HO136))) (g := gb101) (o := .cells #[.int .i64 a1_0, .int .i64 a1_1] 71 (0, 0)) (Q0 BK101)) (below_size (Q1 HB))); replace HO136 := am (Kd.R_elder' (Q5 HO136) (Kd.R_base ho46) hb); replace BK101 := bb BK101 hb; replace HB := bs HB hb; clear hb ho46; refine hK.out _ _ ⟨(blk_cell BK101.out 0).trans rfl, (blk_cell BK101.out 1).trans rfl⟩ (fun hHeld => ?_); clear hK K; refine nz ?_
        exact norm_ Q155 (hCont (v128, v135, v138) _ ⟨hHeld, (Q89 HO136), (Q102 HO139), (Q0 BK101), (Q1 HB)⟩)
       ·skip
        refine Kd.R_lit_step k71 _ 71 (by rfl) (N := 26) (by rfl) (xs := ([(⟨a1_0, a1_1⟩ : S71)] : List (S71))) (inner := [.int .i64 a1_0, .int .i64 a1_1]) (ok := fun _ => True) (okp := fun _ => True) Qr ?hp (fun _ hk => hk) trivial (Below.refl _ _) (Nat.le_refl _) (by simp) ?_; (case hp => exact (Reps.c2 (show Kd.M k71 _ _ _ (⟨a1_0, a1_1⟩ : S71) [.int .i64 a1_0, .int .i64 a1_1] from (k71_mkM _ _ _ (⟨a1_0, a1_1⟩ : S71) )) (Reps.none _ _))); intro v138 w44 ho45 hb hg_ hnew_; clear hg_ hnew_
        (first | rw [← Ny137.out] at ho45 | (simp only [Int.reduceToNat] at ho45; rw [← Ny137.out] at ho45))
        have HO139 := am (Kd.R_lower (Kd.R_newB (Kd.R_new' ho45 (Kd.R_lt (Q5 HO129))) (g := gb101) (o := .cells #[.int .i64 a1_0, .int .i64 a1_1] 71 (0, 0)) (Q0 BK101)) (below_size (Q1 HB))); replace HO129 := am (Kd.R_elder' (Q5 HO129) (Kd.R_base ho45) hb); replace BK101 := bb BK101 hb; replace HB := bs HB hb; clear hb ho45; refine hK.out _ _ ⟨(blk_cell BK101.out 0).trans rfl, (blk_cell BK101.out 1).trans rfl⟩ (fun hHeld => ?_); clear hK K; refine nz ?_
        refine oq 4 24 rfl rfl HT_ (fun K hK => ?_); refine Kd.R_append_rows_step k71 (w0 := w) w.heap.size (by rfl) (.tmp 20) (.tmp 23) 22 71 (.agg #[(.int .i64 0), (.int .i64 0)]) 16 rfl Try.underlying22 info71 rfl (by decide) (by omega) v128 y127 y130 _ _ _ (fun k_ => some k_ ≠ (v138 : Value).ownBlock ∧ k_ ≠ gb101) (fun _ => False) rfl rfl ?aO ?aR (fun _ _ h => h) (fun _ h => h.elim) ?aF ?aB ?aS ?aL ?_
        (case aR => exact (Q11 HR133 HB))
        (case aB => exact (Q1 HB))
        (case aF => exact (fun k_ hk => ⟨Kd.fresh' (Kd.R_lt (Q5 HO139)) k_ hk, Kd.freshB (g := gb101) (o := .cells #[.int .i64 a1_0, .int .i64 a1_1] 71 (0, 0)) (Q0 BK101) k_ hk⟩))
        (case aO => exact (Q162 HO129))
        (case aS => exact (below_size (Q1 HB)))
        (case aL => have := LMc34.out; omega)
        intro v135 w46 ho hb hg hat; rw [← Ny134.out] at ho; replace BK101 := am (blk_grown (g := gb101) (o := .cells #[.int .i64 a1_0, .int .i64 a1_1] 71 (0, 0)) (Q0 BK101) hg (Kd.R_away HO129.out (fun _ hk => hk.1.2))); replace HO139 := am (Kd.R_after (ok := (fun k_ => k_ ≠ gb101)) (Q162 HO139) hg hat); replace HB := am (hb); have HO136 := am (ho); clear HO129; clear ho hb hg hat; refine hK.out _ _ ⟨(blk_cell BK101.out 0).trans rfl, (blk_cell BK101.out 1).trans rfl⟩ (fun hHeld => ?_); clear hK K; refine nz ?_
        exact norm_ Q155 (hCont (v128, v135, v138) _ ⟨hHeld, (Q5 HO136), (Q89 HO139), (Q0 BK101), (Q1 HB)⟩)
      ·skip
       refine Kd.R_lit_step k71 _ 71 (by rfl) (N := 26) (by rfl) (xs := ([(⟨a1_0, a1_1⟩ : S71)] : List (S71))) (inner := [.int .i64 a1_0, .int .i64 a1_1]) (ok := fun _ => True) (okp := fun _ => True) Qr ?hp (fun _ hk => hk) trivial (Below.refl _ _) (Nat.le_refl _) (by simp) ?_; (case hp => exact (Reps.c2 (show Kd.M k71 _ _ _ (⟨a1_0, a1_1⟩ : S71) [.int .i64 a1_0, .int .i64 a1_1] from (k71_mkM _ _ _ (⟨a1_0, a1_1⟩ : S71) )) (Reps.none _ _))); intro v138 w42 ho43 hb hg_ hnew_; clear hg_ hnew_
       (first | rw [← Ny137.out] at ho43 | (simp only [Int.reduceToNat] at ho43; rw [← Ny137.out] at ho43))
       have HO139 := am (Kd.R_lower (Kd.R_newB ho43 (g := gb101) (o := .cells #[.int .i64 a1_0, .int .i64 a1_1] 71 (0, 0)) (Q0 BK101)) (below_size (Q1 HB))); replace BK101 := bb BK101 hb; replace HB := bs HB hb; clear hb ho43; refine hK.out _ _ ⟨(blk_cell BK101.out 0).trans rfl, (blk_cell BK101.out 1).trans rfl⟩ (fun hHeld => ?_); clear hK K; refine nz ?_
       refine oq 0 20 rfl rfl HT_ (fun K hK => ?_); refine Kd.R_lit_step k71 _ 71 (by rfl) (N := 20) (by rfl) (xs := ([] : List (S71))) (inner := []) (ok := fun _ => True) (okp := fun _ => True) Qr ?hp (fun _ hk => hk) trivial (Below.refl _ _) (Nat.le_refl _) (by simp) ?_; (case hp => exact (Reps.none _ _)); intro v128 w44 ho45 hb hg_ hnew_; clear hg_ hnew_
       (first | rw [← Ny127.out] at ho45 | (simp only [Int.reduceToNat] at ho45; rw [← Ny127.out] at ho45))
       have HO129 := am (Kd.R_lower (Kd.R_newB (Kd.R_new' ho45 (Kd.R_lt (Q5 HO139))) (g := gb101) (o := .cells #[.int .i64 a1_0, .int .i64 a1_1] 71 (0, 0)) (Q0 BK101)) (below_size (Q1 HB))); replace HO139 := am (Kd.R_elder' (Q5 HO139) (Kd.R_base ho45) hb); replace BK101 := bb BK101 hb; replace HB := bs HB hb; clear hb ho45; refine hK.out _ _ ⟨(blk_cell BK101.out 0).trans rfl, (blk_cell BK101.out 1).trans rfl⟩ (fun hHeld => ?_); clear hK K; refine nz ?_
       refine oq 4 24 rfl rfl HT_ (fun K hK => ?_); refine Kd.R_append_rows_step k71 (w0 := w) w.heap.size (by rfl) (.tmp 20) (.tmp 23) 22 71 (.agg #[(.int .i64 0), (.int .i64 0)]) 16 rfl Try.underlying22 info71 rfl (by decide) (by omega) v128 y127 y130 _ _ _ (fun k_ => some k_ ≠ (v138 : Value).ownBlock ∧ k_ ≠ gb101) (fun _ => False) rfl rfl ?aO ?aR (fun _ _ h => h) (fun _ h => h.elim) ?aF ?aB ?aS ?aL ?_
       (case aR => exact (Q11 HR133 HB))
       (case aB => exact (Q1 HB))
       (case aF => exact (fun k_ hk => ⟨Kd.fresh' (Kd.R_lt (Q5 HO139)) k_ hk, Kd.freshB (g := gb101) (o := .cells #[.int .i64 a1_0, .int .i64 a1_1] 71 (0, 0)) (Q0 BK101) k_ hk⟩))
       (case aO => exact (Q102 HO129))
       (case aS => exact (below_size (Q1 HB)))
       (case aL => have := LMc34.out; omega)
       intro v135 w46 ho hb hg hat; rw [← Ny134.out] at ho; replace BK101 := am (blk_grown (g := gb101) (o := .cells #[.int .i64 a1_0, .int .i64 a1_1] 71 (0, 0)) (Q0 BK101) hg (Kd.R_away HO129.out (fun _ hk => hk.2))); replace HO139 := am (Kd.R_after (ok := (fun k_ => k_ ≠ gb101)) (Q102 HO139) hg hat); replace HB := am (hb); have HO136 := am (ho); clear HO129; clear ho hb hg hat; refine hK.out _ _ ⟨(blk_cell BK101.out 0).trans rfl, (blk_cell BK101.out 1).trans rfl⟩ (fun hHeld => ?_); clear hK K; refine nz ?_
       exact norm_ Q155 (hCont (v128, v135, v138) _ ⟨hHeld, (Q5 HO136), (Q89 HO139), (Q0 BK101), (Q1 HB)⟩)
     rintro ⟨v128, v135, v138⟩ w47 ⟨hS_, h0_, h1_, h2_, h3_⟩; have HO136 : Aside0 (Kd.R k71 71 w47 w.heap.size (fun k_ => some k_ ≠ (v138 : Value).ownBlock ∧ k_ ≠ gb101) v135 y134) := ⟨h0_⟩; have HO139 : Aside0 (Kd.R k71 71 w47 w.heap.size (fun k_ => some k_ ≠ (v135 : Value).ownBlock ∧ k_ ≠ gb101) v138 y137) := ⟨h1_⟩; replace BK101 : Aside0 (w47.heap[gb101]? = some (.cells #[.int .i64 a1_0, .int .i64 a1_1] 71 (0, 0))) := ⟨h2_⟩; replace HB : Aside0 (Below w.heap.size w w47) := ⟨h3_⟩; clear h0_ h1_ h2_ h3_; have hHeld : w47.cell? ⟨gb101, 0, none⟩ = some (.int .i64 a1_0) ∧ w47.cell? ⟨gb101, 1, none⟩ = some (.int .i64 a1_1) := hS_; obtain ⟨Ao49, co49, eo49⟩ := Kd.R_slice HO139.out
     (first | subst eo49 | (injection eo49 with f1_ f2_ f3_; have f4_ := f1_.symm; have f5_ := f3_.symm; clear f1_ f2_ f3_; subst f4_; subst f5_))
     refine norm_ (a' := ?_) ?_ ?_
     rotate_left
     ·simp only [putAll, Act.put, List.setIfInBounds_toArray, List.set_cons_zero, List.set_cons_succ]
      rfl
     refine oq 7 27 rfl rfl HT_ (fun K hK => ?_); refine Kd.R_append_rows_step k71 (w0 := w) w.heap.size (by rfl) (.tmp 24) (.tmp 26) 22 71 (.agg #[(.int .i64 0), (.int .i64 0)]) 16 rfl Try.underlying22 info71 rfl (by decide) (by omega) v135 y134 y137 _ _ _ (fun k_ => some k_ ≠ (.slice Ao49 y137.length co49 : Value).ownBlock ∧ k_ ≠ gb101) (fun _ => False) rfl rfl ?aO ?aR (fun _ _ h => h) (fun _ h => h.elim) ?aF ?aB ?aS ?aL ?_
     (case aR => exact (Q105 HO139))
     (case aB => exact (Q1 HB))
     (case aF => exact (fun k_ hk => ⟨Kd.fresh' (Kd.R_lt (Q5 HO139)) k_ hk, Kd.freshB (g := gb101) (o := .cells #[.int .i64 a1_0, .int .i64 a1_1] 71 (0, 0)) (Q0 BK101) k_ hk⟩))
     (case aO => exact (Q5 HO136))
     (case aS => exact (below_size (Q1 HB)))
     (case aL => have := LMc35.out; omega)
     intro v141 w48 ho hb hg hat; rw [← Ny140.out] at ho; replace BK101 := am (blk_grown (g := gb101) (o := .cells #[.int .i64 a1_0, .int .i64 a1_1] 71 (0, 0)) (Q0 BK101) hg (Kd.R_away HO136.out (fun _ hk => hk.2))); replace HO139 := am (Kd.R_after (ok := (fun k_ => k_ ≠ gb101)) (Q89 HO139) hg hat); replace HB := am (hb); have HO142 := am (ho); clear HO136; clear ho hb hg hat; refine hK.out _ _ ⟨(blk_cell BK101.out 0).trans rfl, (blk_cell BK101.out 1).trans rfl⟩ (fun hHeld => ?_); clear hK K; refine nz ?_
     refine oq 11 31 rfl rfl HT_ (fun K hK => ?_); refine Kd.R_append_rows_step k71 (w0 := w) w.heap.size (by rfl) (.tmp 27) (.tmp 30) 22 71 (.agg #[(.int .i64 0), (.int .i64 0)]) 16 rfl Try.underlying22 info71 rfl (by decide) (by omega) v141 y140 y143 _ _ _ (fun k_ => some k_ ≠ (.slice Ao49 y137.length co49 : Value).ownBlock ∧ k_ ≠ gb101) (fun _ => False) rfl rfl ?aO ?aR (fun _ _ h => h) (fun _ h => h.elim) ?aF ?aB ?aS ?aL ?_
     (case aR => exact (Q11 HR146 HB))
     (case aB => exact (Q1 HB))
     (case aF => exact (fun k_ hk => ⟨Kd.fresh' (Kd.R_lt (Q5 HO139)) k_ hk, Kd.freshB (g := gb101) (o := .cells #[.int .i64 a1_0, .int .i64 a1_1] 71 (0, 0)) (Q0 BK101) k_ hk⟩))
     (case aO => exact (Q5 HO142))
     (case aS => exact (below_size (Q1 HB)))
     (case aL => have := LMc38.out; omega)
     intro v148 w50 ho hb hg hat; rw [← Ny147.out] at ho; replace BK101 := am (blk_grown (g := gb101) (o := .cells #[.int .i64 a1_0, .int .i64 a1_1] 71 (0, 0)) (Q0 BK101) hg (Kd.R_away HO142.out (fun _ hk => hk.2))); replace HO139 := am (Kd.R_after (ok := (fun k_ => k_ ≠ gb101)) (Q5 HO139) hg hat); replace HB := am (hb); have HO149 := am (ho); clear HO142; clear ho hb hg hat; refine hK.out _ _ ⟨(blk_cell BK101.out 0).trans rfl, (blk_cell BK101.out 1).trans rfl⟩ (fun hHeld => ?_); clear hK K; refine nz ?_
     refine pq 12 4 rfl rfl HT_ ?_; refine done_ (done_of HT_.out (by kernel_rfl)) ?_
     try go_wp2
     go_ret
     exact ⟨_, Q19, by (with_reducible repeat (first | apply Kd.R_alloc | apply Kd.R_drewN | apply Kd.R_drew)); exact Kd.R_mono HO149.out (fun _ hk => trivial), Q1 HB⟩
    ·rw [if_neg c32] at H
     exact absurd H (by simp)
/-! ### spec_l2Cycle: function 113 -/
def spec_l2Cycle.f (k : Nat) (a0 : Int) : Option (Int × (List (S71))) := (spec_l2Path.f k a0).bind fun bt102 => ((spec_l2Put.f k bt102.2 0 (wrap64 (a0 - 1))).bind fun t107 => (some (bt102.1, t107)))
theorem spec_l2Cycle.mono : ∀ a0 k, LeO (spec_l2Cycle.f k a0) (spec_l2Cycle.f (k + 1) a0) := by
 intro a0 k
 unfold spec_l2Cycle.f
 repeat' first | (with_reducible first | exact spec_l2Path.mono _ _ | exact spec_l2Put.mono _ _ _ _ | exact LeO.refl _ | exact LeO.none _ | refine LeO.ite ?_ ?_ | refine LeO.bind ?_ (fun _ => ?_))
set_option maxHeartbeats 8000000 in
set_option maxRecDepth 100000 in
theorem spec_l2Cycle.calls (k : Nat) (a0 : Int) (r1 : Int) (r2 : List (S71)) (w : World) (h : spec_l2Cycle.f k a0 = some (r1, r2)) :
  Calls Try.prog 113 #[.int .i64 a0] w fun e w' => ∃ v1_ : Value, e = .returned (.agg #[.int .i64 r1, v1_]) ∧ Kd.R k71 71 w' w.heap.size (fun _ => True) v1_ r2 ∧ Below w.heap.size w w' := by
 have hu30 := Try.underlying30
 have hu71 := Try.underlying71
 have HB := am (Below.refl w.heap.size w)
 have H : ((spec_l2Path.f k a0).bind fun bt102 => ((spec_l2Put.f k bt102.2 0 (wrap64 (a0 - 1))).bind fun t107 => (some (bt102.1, t107)))) = some (r1, r2) := h
 clear h
 replace H := (ob H)
 obtain ⟨⟨t102, t103⟩, A20, H⟩ := H
 (try dsimp only at H)
 have A2 := Aside0.mk A20
 clear A20
 replace H := (ob H)
 obtain ⟨t107, A30, H⟩ := H
 (try dsimp only at H)
 have A3 := Aside0.mk A30
 clear A30
 simp only [Option.some.injEq, Prod.mk.injEq] at H
 obtain ⟨rfl, rfl⟩ := H
 go_enter Try.func113, Try.ntmps113
 go_wp2_with (first | ((with_reducible refine gate_dst (N := 2) rfl ?_); refine box_event (by rfl) (N := 2) (by rfl) (cs := #[.int .i64 0, .slice none 0 0]) (t := 30) Qr ?_; intro gb101 hg w4 hbox hb; have BK101 := am (hbox); have GE101 := ge HB hg; replace HB := bs HB hb; clear hb hbox hg) | ((with_reducible refine gate_callee (f := 111) rfl ?_); refine goesL_ (some 5) rfl rfl Try.func111 (by kernel_rfl) rfl #[.int .i64 a0] rfl Q6 ?_; (with_reducible refine (spec_l2Path.calls k a0 t102 t103 _ A2.out).mono ?_); rintro e w5 ⟨v104, rfl, ho0, hb⟩; refine ⟨_, rfl, ?_⟩; have HO105 := am (Kd.R_lower ho0 (below_size (Q1 HB))); replace BK101 := bb BK101 hb; replace HB := bs HB hb; (try clear hb); (try clear ho0)) | ((with_reducible refine gate_dst (N := 3) rfl ?_); refine box_event (by rfl) (N := 3) (by rfl) (cs := #[.int .i64 0, .slice none 0 0]) (t := 30) Qr ?_; intro gb106 hg w6 hbox hb; replace HO105 := am (Kd.R_below (Q5 HO105) hb); have BK106 := am (hbox); have GE106 := ge HB hg; replace HB := bs HB hb; obtain ⟨NB101_106, NB106_101⟩ := ne2 BK101 hg; replace BK101 := bb BK101 hb; clear hb hbox hg; obtain ⟨_, _⟩ := o2 NB106_101 NB101_106; obtain ⟨_, _, _, _⟩ := b2 BK106; obtain ⟨Ao9, co9, eo9⟩ := Kd.R_slice HO105.out; subst eo9) | ((with_reducible refine gate_callee (f := 184) rfl ?_); refine goesL_ (some 11) rfl rfl Try.func184 (by kernel_rfl) rfl #[.slice Ao9 t103.length co9, .agg #[.int .i64 0, .int .i64 (wrap64 (a0 - 1))]] rfl Q6 ?_; (with_reducible refine (spec_l2Put.calls k _ _ t103 0 (wrap64 (a0 - 1)) t107 _ ?side1 ?side2 A3.out).mono ?_); (case side1 => exact rx HO105 (Q146 HO105 BK106)); (case side2 => exact (Kd.R_reads' HO105.out).2.1); rintro e w10 ⟨v108, rfl, ho0, hb⟩; refine ⟨_, rfl, ?_⟩; have HO109 := am (Kd.R_lower (Kd.R_new' ho0 (Kd.R_lt (Q146 HO105 BK106))) (below_size (Q4 HB GE106))); replace HO105 := am (Kd.R_elder' (Q146 HO105 BK106) (Kd.R_base ho0) hb); replace BK101 := B2 NB101_106 BK101 hb; replace BK106 := am (blk_below (g := gb106) (o := .cells #[.int .i64 t102, .slice Ao9 t103.length co9] 30 (0, 0)) (Q98 BK106) hb); replace HB := am (below_step (Q4 HB GE106) hb); (try clear hb); (try clear ho0); obtain ⟨Ao11, co11, eo11⟩ := Kd.R_slice HO109.out; subst eo11; obtain ⟨_, _, _, _⟩ := b2 BK106; obtain ⟨_, _, _, _⟩ := b2 BK101))
 refine bodyPost_ret (results_cell_row rfl _ _ gb101 30 #[.int .i64 t102, .slice Ao11 t107.length co11] (0, 0) _ rfl (by (with_reducible repeat (first | refine blk_drewN ?_ _ | refine blk_drew ?_ | refine blk_alloc ?_ _)); refine blk_put (cs := #[.int .i64 t102, .slice none 0 0]) ?_ 1 _ rfl; (with_reducible repeat (first | refine blk_drewN ?_ _ | refine blk_drew ?_ | refine blk_alloc ?_ _)); refine blk_put (cs := #[.int .i64 0, .slice none 0 0]) ?_ 0 _ rfl; (with_reducible repeat (first | refine blk_drewN ?_ _ | refine blk_drew ?_ | refine blk_alloc ?_ _)); refine blk_far ?_ NB101_106.out _; (with_reducible repeat (first | refine blk_drewN ?_ _ | refine blk_drew ?_ | refine blk_alloc ?_ _)); exact BK101.out) Try.underlying30 rfl (by kernel_rfl)) rfl ?_
 exact ⟨_, Q19, by (with_reducible repeat (first | apply Kd.R_alloc | apply Kd.R_drewN | apply Kd.R_drew)); exact Kd.R_mono (Kd.R_far (p := ⟨gb101, 1, none⟩) (Kd.R_far (p := ⟨gb101, 0, none⟩) (Kd.R_far (p := ⟨gb106, 1, none⟩) (Kd.R_types (Kd.R_types HO109.out BK106.out (by decide)) BK101.out (by decide)) (fun _ hk => hk.1.2) (.slice Ao11 t107.length co11)) (fun _ hk => hk.2) (.int .i64 t102)) (fun _ hk => hk.2) (.slice Ao11 t107.length co11)) (fun _ hk => trivial), Q52 HB GE101 GE106⟩
end Go.Proofs.Ytcjddikalgnhpaa.P
