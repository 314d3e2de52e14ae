/- Functions of the program as Lean functions, that each call comes to what they say, and what holds of them; part 11 of 16; no conditions beyond those that each theorem names. -/
import Derived.Test.YtcjddikalgnhpaaK1
import Derived.Test.YtcjddikalgnhpaaK4
import Derived.Test.YtcjddikalgnhpaaK5
import Derived.Test.YtcjddikalgnhpaaK10
namespace Go.Proofs.Ytcjddikalgnhpaa.P
open Go.RowKit Go.Proofs.YtcjddikalgnhpaaW.PrintWords Go.Proofs.YtcjddikalgnhpaaW.PrintLast Go.Proofs.YtcjddikalgnhpaaW.PrintMore
attribute [local go_sem] max2_int min2_int max_two min_two max_three min_three max_four min_four   -- for this text's walks alone
set_option linter.unusedVariables false
set_option linter.unusedSimpArgs false
/-! ### spec_l1Put: function 207 -/
def spec_l1Put.l0 : Nat → List Int → Int → Int → Option (List Int)
 | 0, _, _, _ => none
 | k + 1, x0, x1, x5 => if x5 < (x0.length : Int) then (if 0 ≤ x5 then (if (rd x0 x5) < x1 then (spec_l1Put.l0 k x0 x1 (wrap64 (x5 + 1))) else (if (rd x0 x5) = x1 then (none) else ((some (([] : List Int) : List Int)).bind fun y103 => (if x5 ≤ (x0.length : Int) then (if y103.length + (x0.take (x5 : Int).toNat).length < 17592186044416 then ((some (y103 ++ (x0.take (x5 : Int).toNat) : List Int)).bind fun y107 => ((some (([x1] : List Int) : List Int)).bind fun y110 => (if y107.length + y110.length < 17592186044416 then ((some (y107 ++ y110 : List Int)).bind fun y113 => (if y113.length + (x0.drop (x5 : Int).toNat).length < 17592186044416 then (some (y113 ++ (x0.drop (x5 : Int).toNat))) else (none))) else (none)))) else (none)) else (none))))) else (none)) else ((some (([] : List Int) : List Int)).bind fun y120 => (if 0 ≤ x5 then (if x5 ≤ (x0.length : Int) then (if y120.length + (x0.take (x5 : Int).toNat).length < 17592186044416 then ((some (y120 ++ (x0.take (x5 : Int).toNat) : List Int)).bind fun y124 => ((some (([x1] : List Int) : List Int)).bind fun y127 => (if y124.length + y127.length < 17592186044416 then ((some (y124 ++ y127 : List Int)).bind fun y130 => (if y130.length + (x0.drop (x5 : Int).toNat).length < 17592186044416 then (some (y130 ++ (x0.drop (x5 : Int).toNat))) else (none))) else (none)))) else (none)) else (none)) else (none)))
def spec_l1Put.f (k : Nat) (l0 : List Int) (a1 : Int) : Option (List Int) := spec_l1Put.l0 k l0 a1 0
theorem spec_l1Put.mono_l : ∀ k, (∀ y0 y1 y2, LeO (spec_l1Put.l0 k y0 y1 y2) (spec_l1Put.l0 (k + 1) y0 y1 y2))
 | 0 => fun _ _ _ r h => by simp [spec_l1Put.l0] at h
 | k + 1 => by
  have ih0 := spec_l1Put.mono_l k
  all_goals
   intros
   first | unfold spec_l1Put.l0
   repeat' first | (with_reducible first | exact ih0 _ _ _ | exact LeO.refl _ | exact LeO.none _ | refine LeO.ite ?_ ?_ | refine LeO.bind ?_ (fun _ => ?_))
theorem spec_l1Put.mono : ∀ a0 a1 k, LeO (spec_l1Put.f k a0 a1) (spec_l1Put.f (k + 1) a0 a1) := by
 intro a0 a1 k
 have ih0 := spec_l1Put.mono_l k
 unfold spec_l1Put.f
 repeat' first | (with_reducible first | exact ih0 _ _ _ | exact LeO.refl _ | exact LeO.none _ | refine LeO.ite ?_ ?_ | refine LeO.bind ?_ (fun _ => ?_))
def spec_l1Put.T6 : Bool × List (List Nat × List Nat) := (true, [([], []), ([], []), ([], []), ([1, 2], [1, 2]), ([0, 3], [0, 3]), ([], []), ([5], [5]), ([4, 6, 4], [4, 6]), ([], []), ([], []), ([8, 9], [8, 9]), ([7, 10, 7], [7, 10]), ([11, 11, 0, 1, 2, 3, 4, 5, 6, 7, 8, 9, 10, 11], [11])])
def spec_l1Put.B6 : List Nat := [0, 0, 0, 6, 15, 0, 32, 127, 0, 0, 768, 2047, 4095]
theorem spec_l1Put.tab6 : rtab .any (opsOf Try.f207 6) = spec_l1Put.T6 := by kernel_rfl
theorem spec_l1Put.bits6 : waitsOk spec_l1Put.T6.2 spec_l1Put.B6 = true := by kernel_rfl
set_option maxHeartbeats 8000000 in
set_option maxRecDepth 100000 in
theorem spec_l1Put.calls (k : Nat) (A0 : Option Addr) (c0 : Nat) (l0 : List Int) (a1 : Int) (r : List Int) (w : World) (hr0 : Kd.C (Kd.int .i64) w A0 l0.length l0) (hc0 : l0.length ≤ c0) (h : spec_l1Put.f k l0 a1 = some r) :
  Calls Try.prog 207 #[.slice A0 l0.length c0, .int .i64 a1] w fun e w' => ∃ v0_ : Value, e = .returned (v0_) ∧ Kd.R (Kd.int .i64) 3 w' w.heap.size (fun _ => True) v0_ r ∧ Below w.heap.size w w' := by
 have HR0 := Aside0.mk hr0
 have HC0 := Aside0.mk hc0
 clear hr0 hc0
 have HB := am (Below.refl w.heap.size w)
 have H : (spec_l1Put.l0 k l0 a1 0) = some r := h
 clear h
 have H' := Aside0.mk H
 clear H
 go_enter Try.func207, Try.ntmps207
 go_wp2
 go_loopg [5] k (fun kq v5 w' => ∃ (x5_1 : Int), v5 = .int .i64 x5_1 ∧ Aside0 (spec_l1Put.l0 kq l0 a1 x5_1 = some r) ∧ Aside0 (kq ≤ k) ∧ Aside0 (Below w.heap.size w w'))
 case atStart => exact ⟨(0), Q9, H', ⟨Nat.le_refl _⟩, ⟨Q0 HB⟩⟩
 case round =>
  clear H'
  obtain ⟨x5_1, rfl, HA, HK1, HB⟩ := hrel
  cases gk with
  | zero => exact absurd HA.out (by simp [spec_l1Put.l0])
  | succ k1 =>
   have H := HA.out; clear HA
   simp only [spec_l1Put.l0] at H
   by_cases c3 : x5_1 < (l0.length : Int)
   ·rw [if_pos c3] at H
    have c3b0 := decide_eq_true c3; clear c3
    obtain ⟨c4, H⟩ := ifn H
    have c4b0 := decide_eq_true c4; clear c4; have HU5 := Aside0.mk H; clear H; have p101 : 0 ≤ (x5_1 : Int) := D4; have q101 : x5_1 < (l0.length : Int) := D4; obtain ⟨ad101, e101, hx101_0⟩ := Kd.at_int HR0.out x5_1 p101 q101
    cases e101
    replace hx101_0 := (HB.out.cell (World.block_lt_of_cell? w _ hx101_0)).trans hx101_0; replace p101 := eq_true p101; replace q101 := eq_true q101
    go_upto_if 17 with (fail)
    have H := HU5.out; clear HU5
    by_cases c6 : (rd l0 x5_1) < a1
    ·rw [if_pos c6] at H
     have c6b0 := decide_eq_true c6; clear c6
     (first | rw [c6b0] | (simp only [i64_w, i32_w]; rw [c6b0]) | skip)
     have H' := Aside0.mk H; clear H
     go_wp2
     go_roundg k1
     case measure => have := HK1.out; omega
     case rel => exact ⟨(wrap64 (x5_1 + 1)), Q9, H', ⟨Q54⟩, ⟨Q0 HB⟩⟩
    ·rw [if_neg c6] at H
     have c6b0 := decide_eq_false c6; clear c6
     (first | rw [c6b0] | (simp only [i64_w, i32_w]; rw [c6b0]) | skip)
     have HU7 := Aside0.mk H; clear H; have p102 : 0 ≤ (x5_1 : Int) := D4; have q102 : x5_1 < (l0.length : Int) := D4; obtain ⟨ad102, e102, hx102_0⟩ := Kd.at_int HR0.out x5_1 p102 q102; obtain rfl : ad101 = ad102 := (by injection e102); replace hx102_0 := (HB.out.cell (World.block_lt_of_cell? w _ hx102_0)).trans hx102_0; replace p102 := eq_true p102; replace q102 := eq_true q102
     go_upto_if 31 with (fail)
     have H := HU7.out; clear HU7
     obtain ⟨c8, H⟩ := ifz H
     have c8b0 := beq_eq_false_iff_ne.mpr c8; have c8b1 := bne_iff_ne.mpr c8
     (first | rw [c8b0] | (simp only [i64_w, i32_w]; rw [c8b0]) | rw [c8b1] | skip)
     obtain ⟨y103, hy103⟩ : ∃ y_ : List Int, y_ = (([] : List Int)) := ⟨_, rfl⟩; replace H : (if x5_1 ≤ (l0.length : Int) then (if y103.length + (l0.take (x5_1 : Int).toNat).length < 17592186044416 then ((some (y103 ++ (l0.take (x5_1 : Int).toNat) : List Int)).bind fun y107 => ((some (([a1] : List Int) : List Int)).bind fun y110 => (if y107.length + y110.length < 17592186044416 then ((some (y107 ++ y110 : List Int)).bind fun y113 => (if y113.length + (l0.drop (x5_1 : Int).toNat).length < 17592186044416 then (some (y113 ++ (l0.drop (x5_1 : Int).toNat))) else (none))) else (none)))) else (none)) else (none)) = some r := RH hy103 H; have Ny103 := Aside0.mk hy103; clear hy103; have c9b0 := eq_true (D4 : 0 ≤ x5_1)
     obtain ⟨c10, H⟩ := ifn H
     have c10b0 := eq_true c10; have c10b1 := decide_eq_true c10; clear c10
     obtain ⟨c11, H⟩ := ifn H
     have LMc11 := Aside0.mk c11; clear c11; obtain ⟨y107, hy107⟩ : ∃ y_ : List Int, y_ = (y103 ++ (l0.take (x5_1 : Int).toNat)) := ⟨_, rfl⟩; replace H : ((some (([a1] : List Int) : List Int)).bind fun y110 => (if y107.length + y110.length < 17592186044416 then ((some (y107 ++ y110 : List Int)).bind fun y113 => (if y113.length + (l0.drop (x5_1 : Int).toNat).length < 17592186044416 then (some (y113 ++ (l0.drop (x5_1 : Int).toNat))) else (none))) else (none))) = some r := RH hy107 H; have Ny107 := Aside0.mk hy107; clear hy107; obtain ⟨y110, hy110⟩ : ∃ y_ : List Int, y_ = (([a1] : List Int)) := ⟨_, rfl⟩; replace H : (if y107.length + y110.length < 17592186044416 then ((some (y107 ++ y110 : List Int)).bind fun y113 => (if y113.length + (l0.drop (x5_1 : Int).toNat).length < 17592186044416 then (some (y113 ++ (l0.drop (x5_1 : Int).toNat))) else (none))) else (none)) = some r := RH hy110 H; have Ny110 := Aside0.mk hy110; clear hy110
     obtain ⟨c12, H⟩ := ifn H
     have LMc12 := Aside0.mk c12; clear c12; obtain ⟨y113, hy113⟩ : ∃ y_ : List Int, y_ = (y107 ++ y110) := ⟨_, rfl⟩; replace H : (if y113.length + (l0.drop (x5_1 : Int).toNat).length < 17592186044416 then (some (y113 ++ (l0.drop (x5_1 : Int).toNat))) else (none)) = some r := RH hy113 H; have Ny113 := Aside0.mk hy113; clear hy113; have c13b0 := eq_true (D4 : 0 ≤ x5_1); have c14b0 := eq_true (D4 : x5_1 ≤ (l0.length : Int))
     obtain ⟨c15, H⟩ := ifn H
     have LMc15 := Aside0.mk c15; clear c15; obtain ⟨y117, hy117⟩ : ∃ y_ : List Int, y_ = (y113 ++ (l0.drop (x5_1 : Int).toNat)) := ⟨_, rfl⟩; replace H : (some y117) = some r := RH hy117 H; have Ny117 := Aside0.mk hy117; clear hy117; obtain rfl := Option.some.inj H
     try go_wp2
     replace HB := am (below_drew1 HB.out); obtain ⟨i017, hi017, _, hsz17, _⟩ := info_parts info3; obtain ⟨hcut17, hA17, hC17⟩ := print_take_of (P := Try.prog) (Value.int .i64) 0 25 3 .i64 Try.underlying25 hi017 hsz17 (some ad101) c0 l0 x5_1 (D4) (D4) HC0.out; have HR106 := am (Kd.C_of_reads (h1 := fun _ => rfl) (hA17 _ (Kd.reads_of_C HR0.out))); have HC106 := Aside0.mk hC17; clear hA17 hC17 hi017 hsz17; obtain ⟨i018, hi018, _, hsz18, _⟩ := info_parts info3; obtain ⟨A18, hcut18, hA18, hC18⟩ := print_drop_of (P := Try.prog) (Value.int .i64) 0 25 3 .i64 Try.underlying25 hi018 hsz18 (some ad101) c0 l0 x5_1 (D4) (D4) HC0.out; have HR116 := am (Kd.C_of_reads (h1 := fun _ => rfl) (hA18 _ (Kd.reads_of_C HR0.out))); have HC116 := Aside0.mk hC18; clear hA18 hC18 hi018 hsz18; refine start_ (n := 13) (S := fun w' => True) (ds := []) #[false, false, false, false, false, false, false, false, false, false, false, false, false] (by kernel_rfl) rfl rfl trivial (fun hHeld => ?_); refine with_tabW spec_l1Put.tab6 spec_l1Put.bits6 (fun HT_ HW_ => ?_); generalize wr.drew = w16 at HB HR106 HR116 hHeld ⊢; refine pq 1 34 rfl rfl HT_ ?_; refine pq 2 35 rfl rfl HT_ ?_; refine pq 3 36 rfl rfl HT_ ?_; refine pq 5 38 rfl rfl HT_ ?_; refine pq 8 41 rfl rfl HT_ ?_; refine pq 9 42 rfl rfl HT_ ?_; refine pq 10 43 rfl rfl HT_ ?_; refine join_ (σ := Value × Value × Value) 3 #[true, true, true, true, true, true, true, false, true, true, true, false, false] (fun s_ => [(33, s_.1), (37, s_.2.1), (39, s_.2.2)]) (fun s_ w' => (Kd.R (Kd.int .i64) 3 w' w.heap.size (fun k_ => some k_ ≠ (s_.2.2 : Value).ownBlock) s_.2.1 y107) ∧ (Kd.R (Kd.int .i64) 3 w' w.heap.size (fun k_ => some k_ ≠ (s_.2.1 : Value).ownBlock) s_.2.2 y110) ∧ (Below w.heap.size w w')) ?_ ?_
     rotate_left
     ·intro hCont
      refine two_ (i := 0) (j := 6) (Ni := some 33) (Nj := some 39) #[true, true, true, true, false, true, false, false, true, true, true, false, false] #[false, true, true, true, false, true, true, false, true, true, true, false, false] rfl rfl rfl rfl (two_of HT_.out (by kernel_rfl)) (by decide) (by decide) (fun K hK => ?_) (fun K hK => ?_)
      ·skip
       refine Kd.R_lit_step (Kd.int .i64) _ 3 (by rfl) (N := 33) (by rfl) (xs := ([] : List Int)) (inner := []) (ok := fun _ => True) (okp := fun _ => True) Qr ?hp (fun _ hk => hk) trivial (Below.refl _ _) (Nat.le_refl _) (by simp) ?_; (case hp => exact (Reps.none _ _)); intro v104 w19 ho20 hb hg_ hnew_; clear hg_ hnew_
       (first | rw [← Ny103.out] at ho20 | (simp only [Int.reduceToNat] at ho20; rw [← Ny103.out] at ho20))
       have HO105 := am (Kd.R_lower ho20 (below_size (Q0 HB))); replace HB := bs HB hb; clear hb ho20; refine hK.out _ _ trivial (fun hHeld => ?_); clear hK K; refine nz ?_
       refine two_ (i := 4) (j := 6) (Ni := some 37) (Nj := some 39) #[true, true, true, true, true, true, false, false, true, true, true, false, false] #[true, true, true, true, false, true, true, false, true, true, true, false, false] rfl rfl rfl rfl (two_of HT_.out (by kernel_rfl)) (by decide) (by decide) (fun K hK => ?_) (fun K hK => ?_)
       ·skip
        refine Kd.R_append_rows_step (Kd.int .i64) (w0 := w) w.heap.size (by rfl) (.tmp 33) (.tmp 36) 25 3 (.int .i64 0) 8 rfl Try.underlying25 info3 rfl (by decide) (by omega) v104 y103 (l0.take (x5_1 : Int).toNat) _ _ _ (fun _ => True) (fun _ => False) rfl rfl ?aO ?aR (fun _ _ h => h) (fun _ h => h.elim) ?aF ?aB ?aS ?aL ?_
        (case aR => exact (Q25 HR106 HB))
        (case aB => exact (Q0 HB))
        (case aF => exact (fun _ _ => trivial))
        (case aO => exact (Q2 HO105))
        (case aS => exact (below_size (Q0 HB)))
        (case aL => have := LMc11.out; have hlx_ := (show (l0.take (x5_1 : Int).toNat).length = x5_1.toNat from (by rw [List.length_take]; have h_ : (x5_1 : Int) ≤ (l0.length : Int) := D4; omega)); omega)
        intro v108 w21 ho hb hg hat; rw [← Ny107.out] at ho; replace HB := am (hb); have HO109 := am (ho); clear HO105; clear ho hb hg hat; refine hK.out _ _ trivial (fun hHeld => ?_); clear hK K; refine nz ?_
        refine oq 6 39 rfl rfl HT_ (fun K hK => ?_); refine Kd.R_lit_step (Kd.int .i64) _ 3 (by rfl) (N := 39) (by rfl) (xs := ([a1] : List Int)) (inner := [.int .i64 a1]) (ok := fun _ => True) (okp := fun _ => True) Qr ?hp (fun _ hk => hk) trivial (Below.refl _ _) (Nat.le_refl _) (by simp) ?_; (case hp => exact (Reps.one (show Kd.M (Kd.int .i64) _ _ _ a1 [.int .i64 a1] from rfl) (Reps.none _ _))); intro v111 w22 ho23 hb hg_ hnew_; clear hg_ hnew_
        (first | rw [← Ny110.out] at ho23 | (simp only [Int.reduceToNat] at ho23; rw [← Ny110.out] at ho23))
        have HO112 := am (Kd.R_lower (Kd.R_new' ho23 (Kd.R_lt (Q2 HO109))) (below_size (Q0 HB))); replace HO109 := am (Kd.R_elder' (Q2 HO109) (Kd.R_base ho23) hb); replace HB := bs HB hb; clear hb ho23; refine hK.out _ _ trivial (fun hHeld => ?_); clear hK K; refine nz ?_
        exact norm_ Q43 (hCont (v104, v108, v111) _ ⟨(Q29 HO109), (Q29 HO112), (Q0 HB)⟩)
       ·skip
        refine Kd.R_lit_step (Kd.int .i64) _ 3 (by rfl) (N := 39) (by rfl) (xs := ([a1] : List Int)) (inner := [.int .i64 a1]) (ok := fun _ => True) (okp := fun _ => True) Qr ?hp (fun _ hk => hk) trivial (Below.refl _ _) (Nat.le_refl _) (by simp) ?_; (case hp => exact (Reps.one (show Kd.M (Kd.int .i64) _ _ _ a1 [.int .i64 a1] from rfl) (Reps.none _ _))); intro v111 w21 ho22 hb hg_ hnew_; clear hg_ hnew_
        (first | rw [← Ny110.out] at ho22 | (simp only [Int.reduceToNat] at ho22; rw [← Ny110.out] at ho22))
        have HO112 := am (Kd.R_lower (Kd.R_new' ho22 (Kd.R_lt (Q2 HO105))) (below_size (Q0 HB))); replace HO105 := am (Kd.R_elder' (Q2 HO105) (Kd.R_base ho22) hb); replace HB := bs HB hb; clear hb ho22; refine hK.out _ _ trivial (fun hHeld => ?_); clear hK K; refine nz ?_
        refine oq 4 37 rfl rfl HT_ (fun K hK => ?_); refine Kd.R_append_rows_step (Kd.int .i64) (w0 := w) w.heap.size (by rfl) (.tmp 33) (.tmp 36) 25 3 (.int .i64 0) 8 rfl Try.underlying25 info3 rfl (by decide) (by omega) v104 y103 (l0.take (x5_1 : Int).toNat) _ _ _ (fun k_ => some k_ ≠ (v111 : Value).ownBlock) (fun _ => False) rfl rfl ?aO ?aR (fun _ _ h => h) (fun _ h => h.elim) ?aF ?aB ?aS ?aL ?_
        (case aR => exact (Q25 HR106 HB))
        (case aB => exact (Q0 HB))
        (case aF => exact (fun k_ hk => Kd.fresh' (Kd.R_lt (Q2 HO112)) k_ hk))
        (case aO => exact (Q29 HO105))
        (case aS => exact (below_size (Q0 HB)))
        (case aL => have := LMc11.out; have hlx_ := (show (l0.take (x5_1 : Int).toNat).length = x5_1.toNat from (by rw [List.length_take]; have h_ : (x5_1 : Int) ≤ (l0.length : Int) := D4; omega)); omega)
        intro v108 w23 ho hb hg hat; rw [← Ny107.out] at ho; replace HO112 := am (Kd.R_after (ok := (fun _ => True)) (Q2 HO112) hg hat); replace HB := am (hb); have HO109 := am (ho); clear HO105; clear ho hb hg hat; refine hK.out _ _ trivial (fun hHeld => ?_); clear hK K; refine nz ?_
        exact norm_ Q43 (hCont (v104, v108, v111) _ ⟨(Q2 HO109), (Q29 HO112), (Q0 HB)⟩)
      ·skip
       refine Kd.R_lit_step (Kd.int .i64) _ 3 (by rfl) (N := 39) (by rfl) (xs := ([a1] : List Int)) (inner := [.int .i64 a1]) (ok := fun _ => True) (okp := fun _ => True) Qr ?hp (fun _ hk => hk) trivial (Below.refl _ _) (Nat.le_refl _) (by simp) ?_; (case hp => exact (Reps.one (show Kd.M (Kd.int .i64) _ _ _ a1 [.int .i64 a1] from rfl) (Reps.none _ _))); intro v111 w19 ho20 hb hg_ hnew_; clear hg_ hnew_
       (first | rw [← Ny110.out] at ho20 | (simp only [Int.reduceToNat] at ho20; rw [← Ny110.out] at ho20))
       have HO112 := am (Kd.R_lower ho20 (below_size (Q0 HB))); replace HB := bs HB hb; clear hb ho20; refine hK.out _ _ trivial (fun hHeld => ?_); clear hK K; refine nz ?_
       refine oq 0 33 rfl rfl HT_ (fun K hK => ?_); refine Kd.R_lit_step (Kd.int .i64) _ 3 (by rfl) (N := 33) (by rfl) (xs := ([] : List Int)) (inner := []) (ok := fun _ => True) (okp := fun _ => True) Qr ?hp (fun _ hk => hk) trivial (Below.refl _ _) (Nat.le_refl _) (by simp) ?_; (case hp => exact (Reps.none _ _)); intro v104 w21 ho22 hb hg_ hnew_; clear hg_ hnew_
       (first | rw [← Ny103.out] at ho22 | (simp only [Int.reduceToNat] at ho22; rw [← Ny103.out] at ho22))
       have HO105 := am (Kd.R_lower (Kd.R_new' ho22 (Kd.R_lt (Q2 HO112))) (below_size (Q0 HB))); replace HO112 := am (Kd.R_elder' (Q2 HO112) (Kd.R_base ho22) hb); replace HB := bs HB hb; clear hb ho22; refine hK.out _ _ trivial (fun hHeld => ?_); clear hK K; refine nz ?_
       refine oq 4 37 rfl rfl HT_ (fun K hK => ?_); refine Kd.R_append_rows_step (Kd.int .i64) (w0 := w) w.heap.size (by rfl) (.tmp 33) (.tmp 36) 25 3 (.int .i64 0) 8 rfl Try.underlying25 info3 rfl (by decide) (by omega) v104 y103 (l0.take (x5_1 : Int).toNat) _ _ _ (fun k_ => some k_ ≠ (v111 : Value).ownBlock) (fun _ => False) rfl rfl ?aO ?aR (fun _ _ h => h) (fun _ h => h.elim) ?aF ?aB ?aS ?aL ?_
       (case aR => exact (Q25 HR106 HB))
       (case aB => exact (Q0 HB))
       (case aF => exact (fun k_ hk => Kd.fresh' (Kd.R_lt (Q2 HO112)) k_ hk))
       (case aO => exact (Q29 HO105))
       (case aS => exact (below_size (Q0 HB)))
       (case aL => have := LMc11.out; have hlx_ := (show (l0.take (x5_1 : Int).toNat).length = x5_1.toNat from (by rw [List.length_take]; have h_ : (x5_1 : Int) ≤ (l0.length : Int) := D4; omega)); omega)
       intro v108 w23 ho hb hg hat; rw [← Ny107.out] at ho; replace HO112 := am (Kd.R_after (ok := (fun _ => True)) (Q2 HO112) hg hat); replace HB := am (hb); have HO109 := am (ho); clear HO105; clear ho hb hg hat; refine hK.out _ _ trivial (fun hHeld => ?_); clear hK K; refine nz ?_
       exact norm_ Q43 (hCont (v104, v108, v111) _ ⟨(Q2 HO109), (Q29 HO112), (Q0 HB)⟩)
     rintro ⟨v104, v108, v111⟩ w24 ⟨h0_, h1_, h2_⟩; have HO109 : Aside0 (Kd.R (Kd.int .i64) 3 w24 w.heap.size (fun k_ => some k_ ≠ (v111 : Value).ownBlock) v108 y107) := ⟨h0_⟩; have HO112 : Aside0 (Kd.R (Kd.int .i64) 3 w24 w.heap.size (fun k_ => some k_ ≠ (v108 : Value).ownBlock) v111 y110) := ⟨h1_⟩; replace HB : Aside0 (Below w.heap.size w w24) := ⟨h2_⟩; clear h0_ h1_ h2_; have hHeld := trivial; obtain ⟨Ao26, co26, eo26⟩ := Kd.R_slice HO112.out
     (first | subst eo26 | (injection eo26 with f1_ f2_ f3_; have f4_ := f1_.symm; have f5_ := f3_.symm; clear f1_ f2_ f3_; subst f4_; subst f5_))
     refine norm_ (a' := ?_) ?_ ?_
     rotate_left
     ·simp only [putAll, Act.put, List.setIfInBounds_toArray, List.set_cons_zero, List.set_cons_succ]
      rfl
     refine oq 7 40 rfl rfl HT_ (fun K hK => ?_); refine Kd.R_append_rows_step (Kd.int .i64) (w0 := w) w.heap.size (by rfl) (.tmp 37) (.tmp 39) 25 3 (.int .i64 0) 8 rfl Try.underlying25 info3 rfl (by decide) (by omega) v108 y107 y110 _ _ _ (fun k_ => some k_ ≠ (.slice Ao26 y110.length co26 : Value).ownBlock) (fun _ => False) rfl rfl ?aO ?aR (fun _ _ h => h) (fun _ h => h.elim) ?aF ?aB ?aS ?aL ?_
     (case aR => exact (Q15 HO112))
     (case aB => exact (Q0 HB))
     (case aF => exact (fun k_ hk => Kd.fresh' (Kd.R_lt (Q2 HO112)) k_ hk))
     (case aO => exact (Q2 HO109))
     (case aS => exact (below_size (Q0 HB)))
     (case aL => have := LMc12.out; omega)
     intro v114 w25 ho hb hg hat; rw [← Ny113.out] at ho; replace HO112 := am (Kd.R_after (ok := (fun _ => True)) (by (with_reducible repeat (first | apply Kd.R_alloc | apply Kd.R_drewN | apply Kd.R_drew)); exact Kd.R_mono HO112.out (fun _ hk => ⟨trivial, hk⟩)) hg hat); replace HB := am (hb); have HO115 := am (ho); clear HO109; clear ho hb hg hat; refine hK.out _ _ trivial (fun hHeld => ?_); clear hK K; refine nz ?_
     refine oq 11 44 rfl rfl HT_ (fun K hK => ?_); refine Kd.R_append_rows_step (Kd.int .i64) (w0 := w) w.heap.size (by rfl) (.tmp 40) (.tmp 43) 25 3 (.int .i64 0) 8 rfl Try.underlying25 info3 rfl (by decide) (by omega) v114 y113 (l0.drop (x5_1 : Int).toNat) _ _ _ (fun k_ => some k_ ≠ (.slice Ao26 y110.length co26 : Value).ownBlock) (fun _ => False) rfl rfl ?aO ?aR (fun _ _ h => h) (fun _ h => h.elim) ?aF ?aB ?aS ?aL ?_
     (case aR => exact (Q62 HR116 HB))
     (case aB => exact (Q0 HB))
     (case aF => exact (fun k_ hk => Kd.fresh' (Kd.R_lt (Q2 HO112)) k_ hk))
     (case aO => exact (Q2 HO115))
     (case aS => exact (below_size (Q0 HB)))
     (case aL => have := LMc15.out; have hlx_ := (show (l0.drop (x5_1 : Int).toNat).length = (l0.length - x5_1.toNat) from List.length_drop); omega)
     intro v118 w27 ho hb hg hat; rw [← Ny117.out] at ho; replace HO112 := am (Kd.R_after (ok := (fun _ => True)) (Q2 HO112) hg hat); replace HB := am (hb); have HO119 := am (ho); clear HO115; clear ho hb hg hat; refine hK.out _ _ trivial (fun hHeld => ?_); clear hK K; refine nz ?_
     refine pq 12 4 rfl rfl HT_ ?_; refine done_ (done_of HT_.out (by kernel_rfl)) ?_
     try go_wp2
     go_ret
     exact ⟨_, Q10, Q35 HO119, Q0 HB⟩
   ·rw [if_neg c3] at H
    have c3b0 := decide_eq_false c3; clear c3; obtain ⟨y120, hy120⟩ : ∃ y_ : List Int, y_ = (([] : List Int)) := ⟨_, rfl⟩; replace H : (if 0 ≤ x5_1 then (if x5_1 ≤ (l0.length : Int) then (if y120.length + (l0.take (x5_1 : Int).toNat).length < 17592186044416 then ((some (y120 ++ (l0.take (x5_1 : Int).toNat) : List Int)).bind fun y124 => ((some (([a1] : List Int) : List Int)).bind fun y127 => (if y124.length + y127.length < 17592186044416 then ((some (y124 ++ y127 : List Int)).bind fun y130 => (if y130.length + (l0.drop (x5_1 : Int).toNat).length < 17592186044416 then (some (y130 ++ (l0.drop (x5_1 : Int).toNat))) else (none))) else (none)))) else (none)) else (none)) else (none)) = some r := RH hy120 H; have Ny120 := Aside0.mk hy120; clear hy120
    by_cases c28 : 0 ≤ x5_1
    ·rw [if_pos c28] at H
     have c28b0 := eq_true c28; have c28b1 := decide_eq_true c28; clear c28
     obtain ⟨c29, H⟩ := ifn H
     have c29b0 := eq_true c29; have c29b1 := decide_eq_true c29; clear c29
     obtain ⟨c30, H⟩ := ifn H
     have LMc30 := Aside0.mk c30; clear c30; obtain ⟨y124, hy124⟩ : ∃ y_ : List Int, y_ = (y120 ++ (l0.take (x5_1 : Int).toNat)) := ⟨_, rfl⟩; replace H : ((some (([a1] : List Int) : List Int)).bind fun y127 => (if y124.length + y127.length < 17592186044416 then ((some (y124 ++ y127 : List Int)).bind fun y130 => (if y130.length + (l0.drop (x5_1 : Int).toNat).length < 17592186044416 then (some (y130 ++ (l0.drop (x5_1 : Int).toNat))) else (none))) else (none))) = some r := RH hy124 H; have Ny124 := Aside0.mk hy124; clear hy124; obtain ⟨y127, hy127⟩ : ∃ y_ : List Int, y_ = (([a1] : List Int)) := ⟨_, rfl⟩; replace H : (if y124.length + y127.length < 17592186044416 then ((some (y124 ++ y127 : List Int)).bind fun y130 => (if y130.length + (l0.drop (x5_1 : Int).toNat).length < 17592186044416 then (some (y130 ++ (l0.drop (x5_1 : Int).toNat))) else (none))) else (none)) = some r := RH hy127 H; have Ny127 := Aside0.mk hy127; clear hy127
     obtain ⟨c31, H⟩ := ifn H
     have LMc31 := Aside0.mk c31; clear c31; obtain ⟨y130, hy130⟩ : ∃ y_ : List Int, y_ = (y124 ++ y127) := ⟨_, rfl⟩; replace H : (if y130.length + (l0.drop (x5_1 : Int).toNat).length < 17592186044416 then (some (y130 ++ (l0.drop (x5_1 : Int).toNat))) else (none)) = some r := RH hy130 H; have Ny130 := Aside0.mk hy130; clear hy130; have c32b0 := eq_true (D4 : 0 ≤ x5_1); have c33b0 := eq_true (D4 : x5_1 ≤ (l0.length : Int))
     obtain ⟨c34, H⟩ := ifn H
     have LMc34 := Aside0.mk c34; clear c34; obtain ⟨y134, hy134⟩ : ∃ y_ : List Int, y_ = (y130 ++ (l0.drop (x5_1 : Int).toNat)) := ⟨_, rfl⟩; replace H : (some y134) = some r := RH hy134 H; have Ny134 := Aside0.mk hy134; clear hy134; obtain rfl := Option.some.inj H
     try go_wp2
     replace HB := am (below_drew1 HB.out); obtain ⟨i036, hi036, _, hsz36, _⟩ := info_parts info3; obtain ⟨hcut36, hA36, hC36⟩ := print_take_of (P := Try.prog) (Value.int .i64) 0 25 3 .i64 Try.underlying25 hi036 hsz36 A0 c0 l0 x5_1 (D4) (D4) HC0.out; have HR123 := am (Kd.C_of_reads (h1 := fun _ => rfl) (hA36 _ (Kd.reads_of_C HR0.out))); have HC123 := Aside0.mk hC36; clear hA36 hC36 hi036 hsz36; obtain ⟨i037, hi037, _, hsz37, _⟩ := info_parts info3; obtain ⟨A37, hcut37, hA37, hC37⟩ := print_drop_of (P := Try.prog) (Value.int .i64) 0 25 3 .i64 Try.underlying25 hi037 hsz37 A0 c0 l0 x5_1 (D4) (D4) HC0.out; have HR133 := am (Kd.C_of_reads (h1 := fun _ => rfl) (hA37 _ (Kd.reads_of_C HR0.out))); have HC133 := Aside0.mk hC37; clear hA37 hC37 hi037 hsz37; refine start_ (n := 13) (S := fun w' => True) (ds := []) #[false, false, false, false, false, false, false, false, false, false, false, false, false] (by kernel_rfl) rfl rfl trivial (fun hHeld => ?_); refine with_tabW spec_l1Put.tab6 spec_l1Put.bits6 (fun HT_ HW_ => ?_); generalize wr.drew = w35 at HB HR123 HR133 hHeld ⊢; refine pq 1 34 rfl rfl HT_ ?_; refine pq 2 35 rfl rfl HT_ ?_; refine pq 3 36 rfl rfl HT_ ?_; refine pq 5 38 rfl rfl HT_ ?_; refine pq 8 41 rfl rfl HT_ ?_; refine pq 9 42 rfl rfl HT_ ?_; refine pq 10 43 rfl rfl HT_ ?_; refine join_ (σ := Value × Value × Value) 3 #[true, true, true, true, true, true, true, false, true, true, true, false, false] (fun s_ => [(33, s_.1), (37, s_.2.1), (39, s_.2.2)]) (fun s_ w' => (Kd.R (Kd.int .i64) 3 w' w.heap.size (fun k_ => some k_ ≠ (s_.2.2 : Value).ownBlock) s_.2.1 y124) ∧ (Kd.R (Kd.int .i64) 3 w' w.heap.size (fun k_ => some k_ ≠ (s_.2.1 : Value).ownBlock) s_.2.2 y127) ∧ (Below w.heap.size w w')) ?_ ?_
     rotate_left
     ·intro hCont
      refine two_ (i := 0) (j := 6) (Ni := some 33) (Nj := some 39) #[true, true, true, true, false, true, false, false, true, true, true, false, false] #[false, true, true, true, false, true, true, false, true, true, true, false, false] rfl rfl rfl rfl (two_of HT_.out (by kernel_rfl)) (by decide) (by decide) (fun K hK => ?_) (fun K hK => ?_)
      ·skip
       refine Kd.R_lit_step (Kd.int .i64) _ 3 (by rfl) (N := 33) (by rfl) (xs := ([] : List Int)) (inner := []) (ok := fun _ => True) (okp := fun _ => True) Qr ?hp (fun _ hk => hk) trivial (Below.refl _ _) (Nat.le_refl _) (by simp) ?_; (case hp => exact (Reps.none _ _)); intro v121 w38 ho39 hb hg_ hnew_; clear hg_ hnew_
       (first | rw [← Ny120.out] at ho39 | (simp only [Int.reduceToNat] at ho39; rw [← Ny120.out] at ho39))
       have HO122 := am (Kd.R_lower ho39 (below_size (Q0 HB))); replace HB := bs HB hb; clear hb ho39; refine hK.out _ _ trivial (fun hHeld => ?_); clear hK K; refine nz ?_
       refine two_ (i := 4) (j := 6) (Ni := some 37) (Nj := some 39) #[true, true, true, true, true, true, false, false, true, true, true, false, false] #[true, true, true, true, false, true, true, false, true, true, true, false, false] rfl rfl rfl rfl (two_of HT_.out (by kernel_rfl)) (by decide) (by decide) (fun K hK => ?_) (fun K hK => ?_)
       ·skip
        refine Kd.R_append_rows_step (Kd.int .i64) (w0 := w) w.heap.size (by rfl) (.tmp 33) (.tmp 36) 25 3 (.int .i64 0) 8 rfl Try.underlying25 info3 rfl (by decide) (by omega) v121 y120 (l0.take (x5_1 : Int).toNat) _ _ _ (fun _ => True) (fun _ => False) rfl rfl ?aO ?aR (fun _ _ h => h) (fun _ h => h.elim) ?aF ?aB ?aS ?aL ?_
        (case aR => exact (Q25 HR123 HB))
        (case aB => exact (Q0 HB))
        (case aF => exact (fun _ _ => trivial))
        (case aO => exact (Q2 HO122))
        (case aS => exact (below_size (Q0 HB)))
        (case aL => have := LMc30.out; have hlx_ := (show (l0.take (x5_1 : Int).toNat).length = x5_1.toNat from (by rw [List.length_take]; have h_ : (x5_1 : Int) ≤ (l0.length : Int) := D4; omega)); omega)
        intro v125 w40 ho hb hg hat; rw [← Ny124.out] at ho; replace HB := am (hb); have HO126 := am (ho); clear HO122; clear ho hb hg hat; refine hK.out _ _ trivial (fun hHeld => ?_); clear hK K; refine nz ?_
        refine oq 6 39 rfl rfl HT_ (fun K hK => ?_); refine Kd.R_lit_step (Kd.int .i64) _ 3 (by rfl) (N := 39) (by rfl) (xs := ([a1] : List Int)) (inner := [.int .i64 a1]) (ok := fun _ => True) (okp := fun _ => True) Qr ?hp (fun _ hk => hk) trivial (Below.refl _ _) (Nat.le_refl _) (by simp) ?_; (case hp => exact (Reps.one (show Kd.M (Kd.int .i64) _ _ _ a1 [.int .i64 a1] from rfl) (Reps.none _ _))); intro v128 w41 ho42 hb hg_ hnew_; clear hg_ hnew_
        (first | rw [← Ny127.out] at ho42 | (simp only [Int.reduceToNat] at ho42; rw [← Ny127.out] at ho42))
        have HO129 := am (Kd.R_lower (Kd.R_new' ho42 (Kd.R_lt (Q2 HO126))) (below_size (Q0 HB))); replace HO126 := am (Kd.R_elder' (Q2 HO126) (Kd.R_base ho42) hb); replace HB := bs HB hb; clear hb ho42; refine hK.out _ _ trivial (fun hHeld => ?_); clear hK K; refine nz ?_
        exact norm_ Q43 (hCont (v121, v125, v128) _ ⟨(Q29 HO126), (Q29 HO129), (Q0 HB)⟩)
       ·skip
        refine Kd.R_lit_step (Kd.int .i64) _ 3 (by rfl) (N := 39) (by rfl) (xs := ([a1] : List Int)) (inner := [.int .i64 a1]) (ok := fun _ => True) (okp := fun _ => True) Qr ?hp (fun _ hk => hk) trivial (Below.refl _ _) (Nat.le_refl _) (by simp) ?_; (case hp => exact (Reps.one (show Kd.M (Kd.int .i64) _ _ _ a1 [.int .i64 a1] from rfl) (Reps.none _ _))); intro v128 w40 ho41 hb hg_ hnew_; clear hg_ hnew_
        (first | rw [← Ny127.out] at ho41 | (simp only [Int.reduceToNat] at ho41; rw [← Ny127.out] at ho41))
        have HO129 := am (Kd.R_lower (Kd.R_new' ho41 (Kd.R_lt (Q2 HO122))) (below_size (Q0 HB))); replace HO122 := am (Kd.R_elder' (Q2 HO122) (Kd.R_base ho41) hb); replace HB := bs HB hb; clear hb ho41; refine hK.out _ _ trivial (fun hHeld => ?_); clear hK K; refine nz ?_
        refine oq 4 37 rfl rfl HT_ (fun K hK => ?_); refine Kd.R_append_rows_step (Kd.int .i64) (w0 := w) w.heap.size (by rfl) (.tmp 33) (.tmp 36) 25 3 (.int .i64 0) 8 rfl Try.underlying25 info3 rfl (by decide) (by omega) v121 y120 (l0.take (x5_1 : Int).toNat) _ _ _ (fun k_ => some k_ ≠ (v128 : Value).ownBlock) (fun _ => False) rfl rfl ?aO ?aR (fun _ _ h => h) (fun _ h => h.elim) ?aF ?aB ?aS ?aL ?_
        (case aR => exact (Q25 HR123 HB))
        (case aB => exact (Q0 HB))
        (case aF => exact (fun k_ hk => Kd.fresh' (Kd.R_lt (Q2 HO129)) k_ hk))
        (case aO => exact (Q29 HO122))
        (case aS => exact (below_size (Q0 HB)))
        (case aL => have := LMc30.out; have hlx_ := (show (l0.take (x5_1 : Int).toNat).length = x5_1.toNat from (by rw [List.length_take]; have h_ : (x5_1 : Int) ≤ (l0.length : Int) := D4; omega)); omega)
        intro v125 w42 ho hb hg hat; rw [← Ny124.out] at ho; replace HO129 := am (Kd.R_after (ok := (fun _ => True)) (Q2 HO129) hg hat); replace HB := am (hb); have HO126 := am (ho); clear HO122; clear ho hb hg hat; refine hK.out _ _ trivial (fun hHeld => ?_); clear hK K; refine nz ?_
        exact norm_ Q43 (hCont (v121, v125, v128) _ ⟨(Q2 HO126), (Q29 HO129), (Q0 HB)⟩)
      ·skip
       refine Kd.R_lit_step (Kd.int .i64) _ 3 (by rfl) (N := 39) (by rfl) (xs := ([a1] : List Int)) (inner := [.int .i64 a1]) (ok := fun _ => True) (okp := fun _ => True) Qr ?hp (fun _ hk => hk) trivial (Below.refl _ _) (Nat.le_refl _) (by simp) ?_; (case hp => exact (Reps.one (show Kd.M (Kd.int .i64) _ _ _ a1 [.int .i64 a1] from rfl) (Reps.none _ _))); intro v128 w38 ho39 hb hg_ hnew_; clear hg_ hnew_
       (first | rw [← Ny127.out] at ho39 | (simp only [Int.reduceToNat] at ho39; rw [← Ny127.out] at ho39))
       have HO129 := am (Kd.R_lower ho39 (below_size (Q0 HB))); replace HB := bs HB hb; clear hb ho39; refine hK.out _ _ trivial (fun hHeld => ?_); clear hK K; refine nz ?_
       refine oq 0 33 rfl rfl HT_ (fun K hK => ?_); refine Kd.R_lit_step (Kd.int .i64) _ 3 (by rfl) (N := 33) (by rfl) (xs := ([] : List Int)) (inner := []) (ok := fun _ => True) (okp := fun _ => True) Qr ?hp (fun _ hk => hk) trivial (Below.refl _ _) (Nat.le_refl _) (by simp) ?_; (case hp => exact (Reps.none _ _)); intro v121 w40 ho41 hb hg_ hnew_; clear hg_ hnew_
       (first | rw [← Ny120.out] at ho41 | (simp only [Int.reduceToNat] at ho41; rw [← Ny120.out] at ho41))
       have HO122 := am (Kd.R_lower (Kd.R_new' ho41 (Kd.R_lt (Q2 HO129))) (below_size (Q0 HB))); replace HO129 := am (Kd.R_elder' (Q2 HO129) (Kd.R_base ho41) hb); replace HB := bs HB hb; clear hb ho41; refine hK.out _ _ trivial (fun hHeld => ?_); clear hK K; refine nz ?_
       refine oq 4 37 rfl rfl HT_ (fun K hK => ?_); refine Kd.R_append_rows_step (Kd.int .i64) (w0 := w) w.heap.size (by rfl) (.tmp 33) (.tmp 36) 25 3 (.int .i64 0) 8 rfl Try.underlying25 info3 rfl (by decide) (by omega) v121 y120 (l0.take (x5_1 : Int).toNat) _ _ _ (fun k_ => some k_ ≠ (v128 : Value).ownBlock) (fun _ => False) rfl rfl ?aO ?aR (fun _ _ h => h) (fun _ h => h.elim) ?aF ?aB ?aS ?aL ?_
       (case aR => exact (Q25 HR123 HB))
       (case aB => exact (Q0 HB))
       (case aF => exact (fun k_ hk => Kd.fresh' (Kd.R_lt (Q2 HO129)) k_ hk))
       (case aO => exact (Q29 HO122))
       (case aS => exact (below_size (Q0 HB)))
       (case aL => have := LMc30.out; have hlx_ := (show (l0.take (x5_1 : Int).toNat).length = x5_1.toNat from (by rw [List.length_take]; have h_ : (x5_1 : Int) ≤ (l0.length : Int) := D4; omega)); omega)
       intro v125 w42 ho hb hg hat; rw [← Ny124.out] at ho; replace HO129 := am (Kd.R_after (ok := (fun _ => True)) (Q2 HO129) hg hat); replace HB := am (hb); have HO126 := am (ho); clear HO122; clear ho hb hg hat; refine hK.out _ _ trivial (fun hHeld => ?_); clear hK K; refine nz ?_
       exact norm_ Q43 (hCont (v121, v125, v128) _ ⟨(Q2 HO126), (Q29 HO129), (Q0 HB)⟩)
     rintro ⟨v121, v125, v128⟩ w43 ⟨h0_, h1_, h2_⟩; have HO126 : Aside0 (Kd.R (Kd.int .i64) 3 w43 w.heap.size (fun k_ => some k_ ≠ (v128 : Value).ownBlock) v125 y124) := ⟨h0_⟩; have HO129 : Aside0 (Kd.R (Kd.int .i64) 3 w43 w.heap.size (fun k_ => some k_ ≠ (v125 : Value).ownBlock) v128 y127) := ⟨h1_⟩; replace HB : Aside0 (Below w.heap.size w w43) := ⟨h2_⟩; clear h0_ h1_ h2_; have hHeld := trivial; obtain ⟨Ao45, co45, eo45⟩ := Kd.R_slice HO129.out
     (first | subst eo45 | (injection eo45 with f1_ f2_ f3_; have f4_ := f1_.symm; have f5_ := f3_.symm; clear f1_ f2_ f3_; subst f4_; subst f5_))
     refine norm_ (a' := ?_) ?_ ?_
     rotate_left
     ·simp only [putAll, Act.put, List.setIfInBounds_toArray, List.set_cons_zero, List.set_cons_succ]
      rfl
     refine oq 7 40 rfl rfl HT_ (fun K hK => ?_); refine Kd.R_append_rows_step (Kd.int .i64) (w0 := w) w.heap.size (by rfl) (.tmp 37) (.tmp 39) 25 3 (.int .i64 0) 8 rfl Try.underlying25 info3 rfl (by decide) (by omega) v125 y124 y127 _ _ _ (fun k_ => some k_ ≠ (.slice Ao45 y127.length co45 : Value).ownBlock) (fun _ => False) rfl rfl ?aO ?aR (fun _ _ h => h) (fun _ h => h.elim) ?aF ?aB ?aS ?aL ?_
     (case aR => exact (Q15 HO129))
     (case aB => exact (Q0 HB))
     (case aF => exact (fun k_ hk => Kd.fresh' (Kd.R_lt (Q2 HO129)) k_ hk))
     (case aO => exact (Q2 HO126))
     (case aS => exact (below_size (Q0 HB)))
     (case aL => have := LMc31.out; omega)
     intro v131 w44 ho hb hg hat; rw [← Ny130.out] at ho; replace HO129 := am (Kd.R_after (ok := (fun _ => True)) (by (with_reducible repeat (first | apply Kd.R_alloc | apply Kd.R_drewN | apply Kd.R_drew)); exact Kd.R_mono HO129.out (fun _ hk => ⟨trivial, hk⟩)) hg hat); replace HB := am (hb); have HO132 := am (ho); clear HO126; clear ho hb hg hat; refine hK.out _ _ trivial (fun hHeld => ?_); clear hK K; refine nz ?_
     refine oq 11 44 rfl rfl HT_ (fun K hK => ?_); refine Kd.R_append_rows_step (Kd.int .i64) (w0 := w) w.heap.size (by rfl) (.tmp 40) (.tmp 43) 25 3 (.int .i64 0) 8 rfl Try.underlying25 info3 rfl (by decide) (by omega) v131 y130 (l0.drop (x5_1 : Int).toNat) _ _ _ (fun k_ => some k_ ≠ (.slice Ao45 y127.length co45 : Value).ownBlock) (fun _ => False) rfl rfl ?aO ?aR (fun _ _ h => h) (fun _ h => h.elim) ?aF ?aB ?aS ?aL ?_
     (case aR => exact (Q62 HR133 HB))
     (case aB => exact (Q0 HB))
     (case aF => exact (fun k_ hk => Kd.fresh' (Kd.R_lt (Q2 HO129)) k_ hk))
     (case aO => exact (Q2 HO132))
     (case aS => exact (below_size (Q0 HB)))
     (case aL => have := LMc34.out; have hlx_ := (show (l0.drop (x5_1 : Int).toNat).length = (l0.length - x5_1.toNat) from List.length_drop); omega)
     intro v135 w46 ho hb hg hat; rw [← Ny134.out] at ho; replace HO129 := am (Kd.R_after (ok := (fun _ => True)) (Q2 HO129) hg hat); replace HB := am (hb); have HO136 := am (ho); clear HO132; clear ho hb hg hat; refine hK.out _ _ trivial (fun hHeld => ?_); clear hK K; refine nz ?_
     refine pq 12 4 rfl rfl HT_ ?_; refine done_ (done_of HT_.out (by kernel_rfl)) ?_
     try go_wp2
     go_ret
     exact ⟨_, Q10, Q35 HO136, Q0 HB⟩
    ·rw [if_neg c28] at H
     exact absurd H (by simp)
/-! ### spec_l2Reach: function 206 -/
mutual
def spec_l2Reach.l0 : Nat → List Int → List Int → Int → Int → List (S71) → Option (List Int)
 | 0, _, _, _, _, _ => none
 | k + 1, x1, x7, x8, x102000, x102001 => if x8 < (x1.length : Int) then (spec_l2Reach.l1 k x1 x7 x8 0 x102000 x102001) else (some x7)
def spec_l2Reach.l1 : Nat → List Int → List Int → Int → Int → Int → List (S71) → Option (List Int)
 | 0, _, _, _, _, _, _ => none
 | k + 1, x1, x7, x8, x9, x102000, x102001 => if x9 < (x1.length : Int) then (spec_l2Reach.l2 k x1 x7 x8 x9 0 x102000 x102001) else (spec_l2Reach.l0 k x1 x7 (wrap64 (x8 + 1)) x102000 x102001)
def spec_l2Reach.l2 : Nat → List Int → List Int → Int → Int → Int → Int → List (S71) → Option (List Int)
 | 0, _, _, _, _, _, _, _ => none
 | k + 1, x1, x7, x8, x9, x10, x102000, x102001 => if x10 < (x7.length : Int) then (if 0 ≤ x9 then (if x9 < (x1.length : Int) then ((spec_l1Has.f k x7 (rd x1 x9)).bind fun t106 => (spec_l2Reach.j3 k x1 x7 x8 x9 x10 (!t106) x102000 x102001)) else (none)) else (none)) else (spec_l2Reach.j3 k x1 x7 x8 x9 x10 false x102000 x102001)
def spec_l2Reach.j3 : Nat → List Int → List Int → Int → Int → Int → Bool → Int → List (S71) → Option (List Int)
 | 0, _, _, _, _, _, _, _, _ => none
 | k + 1, x1, x7, x8, x9, x10, x37, x102000, x102001 => if x37 = true then (if 0 ≤ x10 then (if x10 < (x7.length : Int) then (if 0 ≤ x9 then (if x9 < (x1.length : Int) then ((spec_l2Near.f k x102000 x102001 (rd x7 x10) (rd x1 x9)).bind fun t109 => (if t109 = true then ((spec_l1Put.f k x7 (rd x1 x9)).bind fun t111 => (spec_l2Reach.l2 k x1 t111 x8 x9 (wrap64 (x10 + 1)) x102000 x102001)) else (spec_l2Reach.l2 k x1 x7 x8 x9 (wrap64 (x10 + 1)) x102000 x102001))) else (none)) else (none)) else (none)) else (none)) else (spec_l2Reach.l1 k x1 x7 x8 (wrap64 (x9 + 1)) x102000 x102001)
end
def spec_l2Reach.f (k : Nat) (a0_0 : Int) (l0_1 : List (S71)) (l1 : List Int) (a2 : Int) : Option (List Int) := spec_l2Reach.l0 k l1 (([a2] : List Int)) 0 a0_0 l0_1
theorem spec_l2Reach.mono_l : ∀ k, (∀ y0 y1 y2 y3 y4, LeO (spec_l2Reach.l0 k y0 y1 y2 y3 y4) (spec_l2Reach.l0 (k + 1) y0 y1 y2 y3 y4)) ∧ (∀ y0 y1 y2 y3 y4 y5, LeO (spec_l2Reach.l1 k y0 y1 y2 y3 y4 y5) (spec_l2Reach.l1 (k + 1) y0 y1 y2 y3 y4 y5)) ∧ (∀ y0 y1 y2 y3 y4 y5 y6, LeO (spec_l2Reach.l2 k y0 y1 y2 y3 y4 y5 y6) (spec_l2Reach.l2 (k + 1) y0 y1 y2 y3 y4 y5 y6)) ∧ (∀ y0 y1 y2 y3 y4 y5 y6 y7, LeO (spec_l2Reach.j3 k y0 y1 y2 y3 y4 y5 y6 y7) (spec_l2Reach.j3 (k + 1) y0 y1 y2 y3 y4 y5 y6 y7))
 | 0 => ⟨fun _ _ _ _ _ r h => by simp [spec_l2Reach.l0] at h, fun _ _ _ _ _ _ r h => by simp [spec_l2Reach.l1] at h, fun _ _ _ _ _ _ _ r h => by simp [spec_l2Reach.l2] at h, fun _ _ _ _ _ _ _ _ r h => by simp [spec_l2Reach.j3] at h⟩
 | k + 1 => by
  obtain ⟨ih0, ih1, ih2, ih3⟩ := spec_l2Reach.mono_l k; refine ⟨?_, ?_, ?_, ?_⟩
  all_goals
   intros
   first | unfold spec_l2Reach.l0 | unfold spec_l2Reach.l1 | unfold spec_l2Reach.l2 | unfold spec_l2Reach.j3
   repeat' first | (with_reducible first | exact ih0 _ _ _ _ _ | exact ih1 _ _ _ _ _ _ | exact ih2 _ _ _ _ _ _ _ | exact ih3 _ _ _ _ _ _ _ _ | exact spec_l1Has.mono _ _ _ | exact spec_l1Put.mono _ _ _ | exact spec_l2Near.mono _ _ _ _ _ | exact LeO.refl _ | exact LeO.none _ | refine LeO.ite ?_ ?_ | refine LeO.bind ?_ (fun _ => ?_))
theorem spec_l2Reach.mono : ∀ a0 a1 a2 a3 k, LeO (spec_l2Reach.f k a0 a1 a2 a3) (spec_l2Reach.f (k + 1) a0 a1 a2 a3) := by
 intro a0 a1 a2 a3 k
 obtain ⟨ih0, ih1, ih2, ih3⟩ := spec_l2Reach.mono_l k
 unfold spec_l2Reach.f
 repeat' first | (with_reducible first | exact ih0 _ _ _ _ _ | exact ih1 _ _ _ _ _ _ | exact ih2 _ _ _ _ _ _ _ | exact ih3 _ _ _ _ _ _ _ _ | exact spec_l1Has.mono _ _ _ | exact spec_l1Put.mono _ _ _ | exact spec_l2Near.mono _ _ _ _ _ | exact LeO.refl _ | exact LeO.none _ | refine LeO.ite ?_ ?_ | refine LeO.bind ?_ (fun _ => ?_))
def spec_l2Reach.T11 : Bool × List (List Nat × List Nat) := (true, [([], []), ([], []), ([], []), ([1, 2], [1, 2]), ([3], [3]), ([], []), ([], []), ([5, 6], [5, 6]), ([7], [7]), ([0, 4, 8], [0, 4, 8])])
def spec_l2Reach.B11 : List Nat := [0, 0, 0, 6, 14, 0, 0, 96, 224, 511]
theorem spec_l2Reach.tab11 : rtab .any (opsOf Try.f206 11) = spec_l2Reach.T11 := by kernel_rfl
theorem spec_l2Reach.bits11 : waitsOk spec_l2Reach.T11.2 spec_l2Reach.B11 = true := by kernel_rfl
set_option maxHeartbeats 8000000 in
set_option maxRecDepth 100000 in
theorem spec_l2Reach.calls (k : Nat) (a0_0 : Int) (A0_1 : Option Addr) (c0_1 : Nat) (l0_1 : List (S71)) (A1 : Option Addr) (c1 : Nat) (l1 : List Int) (a2 : Int) (r : List Int) (w : World) (hr0_1 : Kd.C k71 w A0_1 l0_1.length l0_1) (hc0_1 : l0_1.length ≤ c0_1) (hr1 : Kd.C (Kd.int .i64) w A1 l1.length l1) (hc1 : l1.length ≤ c1) (h : spec_l2Reach.f k a0_0 l0_1 l1 a2 = some r) :
  Calls Try.prog 206 #[.agg #[.int .i64 a0_0, .slice A0_1 l0_1.length c0_1], .slice A1 l1.length c1, .int .i64 a2] w fun e w' => ∃ v0_ : Value, e = .returned (v0_) ∧ Kd.R (Kd.int .i64) 3 w' w.heap.size (fun _ => True) v0_ r ∧ Below w.heap.size w w' := by
 have hu30 := Try.underlying30
 have HR0_1 := Aside0.mk hr0_1
 have HC0_1 := Aside0.mk hc0_1
 clear hr0_1 hc0_1
 have HR1 := Aside0.mk hr1
 have HC1 := Aside0.mk hc1
 clear hr1 hc1
 have HB := am (Below.refl w.heap.size w)
 have H : (spec_l2Reach.l0 k l1 (([a2] : List Int)) 0 a0_0 l0_1) = some r := h
 clear h
 obtain ⟨y102, hy102⟩ : ∃ y_ : List Int, y_ = (([a2] : List Int)) := ⟨_, rfl⟩
 replace H : (spec_l2Reach.l0 k l1 y102 0 a0_0 l0_1) = some r := RH hy102 H
 have Ny102 := Aside0.mk hy102
 clear hy102
 have H' := Aside0.mk H
 clear H
 go_enter Try.func206, Try.ntmps206
 go_wp2_with (first | ((with_reducible refine gate_dst (N := 3) rfl ?_); refine box_event (by rfl) (N := 3) (by rfl) (cs := #[.int .i64 a0_0, .slice A0_1 l0_1.length c0_1]) (t := 30) Qr ?_; intro gb101 hg w4 hbox hb; have BK101 := am (hbox); have GW101 := am ((Q26 : w.heap.size ≤ gb101)); have GE101 := am ((Q26 : w.heap.size ≤ gb101)); replace HB := bs HB hb; clear hb hbox hg) | ((with_reducible refine gate_dst (N := 12) rfl ?_); refine Kd.R_lit (Kd.int .i64) _ 3 (by rfl) (N := 12) (by rfl) (xs := ([a2] : List Int)) (inner := [.int .i64 a2]) (ok := fun _ => True) (okp := fun _ => True) Qr ?hp (fun _ hk => hk) trivial (Below.refl _ _) (Nat.le_refl _) (by simp) ?_; (case hp => exact (Reps.one (show Kd.M (Kd.int .i64) _ _ _ a2 [.int .i64 a2] from rfl) (Reps.none _ _))); intro v103 w5 ho6 hb hg_ hnew_; clear hg_ hnew_; (first | rw [← Ny102.out] at ho6 | (simp only [Int.reduceToNat] at ho6; rw [← Ny102.out] at ho6)); have HO104 := am (Kd.R_lower ho6 (below_size (Q0 HB))); replace BK101 := bb BK101 hb; replace HB := bs HB hb; clear hb ho6))
 go_loopg [7, 8] k (fun kq v7 v8 w' => ∃ (x7_1 : List Int) (x8_1 : Int), v8 = .int .i64 x8_1 ∧ Aside0 (spec_l2Reach.l0 kq l1 x7_1 x8_1 a0_0 l0_1 = some r) ∧ Aside0 (kq ≤ k) ∧ Aside0 (Kd.R (Kd.int .i64) 3 w' w.heap.size (fun _ => True) v7 x7_1) ∧ Aside0 (w'.heap[gb101]? = some (.cells #[.int .i64 a0_0, (.slice A0_1 l0_1.length c0_1)] 30 (0, 0))) ∧ Aside0 (Below w.heap.size w w'))
 case atStart => exact ⟨(y102), (0), Q9, H', ⟨Nat.le_refl _⟩, ⟨Q2 HO104⟩, ⟨Q1 BK101⟩, ⟨Q0 HB⟩⟩
 case round =>
  clear H'
  obtain ⟨x7_1, x8_1, rfl, HA, HK1, HO_7, BK101, HB⟩ := hrel
  cases gk with
  | zero => exact absurd HA.out (by simp [spec_l2Reach.l0])
  | succ k1 =>
   have H := HA.out; clear HA
   simp only [spec_l2Reach.l0] at H
   by_cases c7 : x8_1 < (l1.length : Int)
   ·rw [if_pos c7] at H
    have c7b0 := decide_eq_true c7; clear c7; have H' := Aside0.mk H; clear H
    go_wp2
    go_loopg [7, 9] k1 (fun kq v7 v9 w' => ∃ (x7_2 : List Int) (x9_2 : Int), v9 = .int .i64 x9_2 ∧ Aside0 (spec_l2Reach.l1 kq l1 x7_2 x8_1 x9_2 a0_0 l0_1 = some r) ∧ Aside0 (kq ≤ k1) ∧ Aside0 (Kd.R (Kd.int .i64) 3 w' w.heap.size (fun _ => True) v7 x7_2) ∧ Aside0 (w'.heap[gb101]? = some (.cells #[.int .i64 a0_0, (.slice A0_1 l0_1.length c0_1)] 30 (0, 0))) ∧ Aside0 (Below w.heap.size w w'))
    case atStart => exact ⟨(x7_1), (0), Q9, H', ⟨Nat.le_refl _⟩, ⟨Q37⟩, ⟨Q1 BK101⟩, ⟨Q0 HB⟩⟩
    case round =>
     clear H'
     obtain ⟨x7_2, x9_2, rfl, HA, HK2, HO_7, BK101, HB⟩ := hrel
     cases gk with
     | zero => exact absurd HA.out (by simp [spec_l2Reach.l1])
     | succ k2 =>
      have H := HA.out; clear HA
      simp only [spec_l2Reach.l1] at H
      by_cases c8 : x9_2 < (l1.length : Int)
      ·rw [if_pos c8] at H
       have c8b0 := decide_eq_true c8; clear c8; have H' := Aside0.mk H; clear H
       go_wp2
       go_loopg [7, 10] k2 (fun kq v7 v10 w' => ∃ (x7_3 : List Int) (x10_3 : Int), v10 = .int .i64 x10_3 ∧ Aside0 (spec_l2Reach.l2 kq l1 x7_3 x8_1 x9_2 x10_3 a0_0 l0_1 = some r) ∧ Aside0 (kq ≤ k2) ∧ Aside0 (Kd.R (Kd.int .i64) 3 w' w.heap.size (fun _ => True) v7 x7_3) ∧ Aside0 (w'.heap[gb101]? = some (.cells #[.int .i64 a0_0, (.slice A0_1 l0_1.length c0_1)] 30 (0, 0))) ∧ Aside0 (Below w.heap.size w w'))
       case atStart => exact ⟨(x7_2), (0), Q9, H', ⟨Nat.le_refl _⟩, ⟨Q37⟩, ⟨Q1 BK101⟩, ⟨Q0 HB⟩⟩
       case round =>
        clear H'
        obtain ⟨x7_3, x10_3, rfl, HA, HK3, HO_7, BK101, HB⟩ := hrel
        cases gk with
        | zero => exact absurd HA.out (by simp [spec_l2Reach.l2])
        | succ k3 =>
         have H := HA.out; clear HA
         simp only [spec_l2Reach.l2] at H
         have HC9 := Aside0.mk H; clear H
         go_upto_region 9 with (fail)
         go_cut [37] (fun v37 wc => ∃ (kq : Nat) (x37_8 : Bool), v37 = .bool x37_8 ∧ Aside0 (spec_l2Reach.j3 kq l1 x7_3 x8_1 x9_2 x10_3 x37_8 a0_0 l0_1 = some r) ∧ Aside0 (kq ≤ k3) ∧ Aside0 (Kd.R (Kd.int .i64) 3 wc w.heap.size (fun _ => True) u7 x7_3) ∧ Aside0 (wc.heap[gb101]? = some (.cells #[.int .i64 a0_0, (.slice A0_1 l0_1.length c0_1)] 30 (0, 0))) ∧ Aside0 (Below w.heap.size w wc))
         case first =>
          have H := HC9.out; clear HC9
          by_cases c10 : x10_3 < (x7_3.length : Int)
          ·rw [if_pos c10] at H
           have c10b0 := decide_eq_true c10; clear c10
           (first | rw [c10b0] | (simp only [i64_w, i32_w]; rw [c10b0]) | skip)
           obtain ⟨c11, H⟩ := ifn H
           have c11b0 := decide_eq_true c11; clear c11
           obtain ⟨c12, H⟩ := ifn H
           have c12b0 := decide_eq_true c12; clear c12; replace H := (ob H); obtain ⟨t106, A130, H⟩ := H; (try dsimp only at H); have A13 := Aside0.mk A130; clear A130; have H' := Aside0.mk H; clear H; obtain ⟨Ao14, co14, eo14⟩ := Kd.R_slice HO_7.out; subst eo14; have p105 : 0 ≤ (x9_2 : Int) := D4; have q105 : x9_2 < (l1.length : Int) := D4; obtain ⟨ad105, e105, hx105_0⟩ := Kd.at_int HR1.out x9_2 p105 q105
           cases e105
           replace hx105_0 := (HB.out.cell (World.block_lt_of_cell? w _ hx105_0)).trans hx105_0; replace p105 := eq_true p105; replace q105 := eq_true q105
           go_wp2_with (first | (go_at_call 148; (with_reducible refine (spec_l1Has.calls k3 _ _ x7_3 (rd l1 x9_2) t106 _ ?side1 ?side2 A13.out).mono ?_); (case side1 => exact Q114); (case side2 => exact (Kd.R_reads' HO_7.out).2.1); rintro e w' ⟨rfl, ⟨nd, rfl⟩⟩))
           go_meet
           case rel => exact ⟨_, (!t106), Q9, H', ⟨by have := HK1.out; have := HK2.out; have := HK3.out; first | omega | exact Nat.le_refl _⟩, ⟨Q37⟩, ⟨Q1 BK101⟩, ⟨Q0 HB⟩⟩
          ·rw [if_neg c10] at H
           have c10b0 := decide_eq_false c10; clear c10
           (first | rw [c10b0] | (simp only [i64_w, i32_w]; rw [c10b0]) | skip)
           have H' := Aside0.mk H; clear H; obtain ⟨Ao15, co15, eo15⟩ := Kd.R_slice HO_7.out; subst eo15
           go_wp2
           go_meet
           case rel => exact ⟨_, (false), Q9, H', ⟨by have := HK1.out; have := HK2.out; have := HK3.out; first | omega | exact Nat.le_refl _⟩, ⟨Q37⟩, ⟨Q1 BK101⟩, ⟨Q0 HB⟩⟩
         case rest =>
          clear HC9
          obtain ⟨kq, x37_8, rfl, HA, HJ8, HO_7, BK101, HB⟩ := hcut
          cases kq with
          | zero => exact absurd HA.out (by simp [spec_l2Reach.j3])
          | succ kj8 =>
           have H := HA.out; clear HA
           simp only [spec_l2Reach.j3] at H
           by_cases c16 : x37_8 = true
           ·subst c16
            have H1 : (if 0 ≤ x10_3 then (if x10_3 < (x7_3.length : Int) then (if 0 ≤ x9_2 then (if x9_2 < (l1.length : Int) then ((spec_l2Near.f kj8 a0_0 l0_1 (rd x7_3 x10_3) (rd l1 x9_2)).bind fun t109 => (if t109 = true then ((spec_l1Put.f kj8 x7_3 (rd l1 x9_2)).bind fun t111 => (spec_l2Reach.l2 kj8 l1 t111 x8_1 x9_2 (wrap64 (x10_3 + 1)) a0_0 l0_1)) else (spec_l2Reach.l2 kj8 l1 x7_3 x8_1 x9_2 (wrap64 (x10_3 + 1)) a0_0 l0_1))) else (none)) else (none)) else (none)) else (none)) = some r := by rw [if_pos rfl] at H; exact H
            clear H; have H := H1; clear H1
            obtain ⟨c17, H⟩ := ifn H
            have c17b0 := decide_eq_true c17; clear c17
            obtain ⟨c18, H⟩ := ifn H
            have c18b0 := decide_eq_true c18; clear c18
            obtain ⟨c19, H⟩ := ifn H
            have c19b0 := decide_eq_true c19; clear c19
            obtain ⟨c20, H⟩ := ifn H
            have c20b0 := decide_eq_true c20; clear c20; replace H := (ob H); obtain ⟨t109, A210, H⟩ := H; (try dsimp only at H); have A21 := Aside0.mk A210; clear A210; have HU22 := Aside0.mk H; clear H
            try go_wp2
            replace HO_7 := am (Kd.R_drew HO_7.out); replace BK101 := am (blk_drew BK101.out); replace HB := am (below_drew1 HB.out); obtain ⟨Ao24, co24, eo24⟩ := Kd.R_slice HO_7.out
            (first | subst eo24 | (injection eo24 with f1_ f2_ f3_; have f4_ := f1_.symm; have f5_ := f3_.symm; clear f1_ f2_ f3_; subst f4_; subst f5_))
            have p107 : 0 ≤ (x10_3 : Int) := D4; have q107 : x10_3 < (x7_3.length : Int) := D4; obtain ⟨ad107, e107, hx107_0⟩ := Kd.at_int (Kd.R_reads' HO_7.out).2.2 x10_3 p107 q107
            cases e107
            replace p107 := eq_true p107; replace q107 := eq_true q107; have p108 : 0 ≤ (x9_2 : Int) := D4; have q108 : x9_2 < (l1.length : Int) := D4; obtain ⟨ad108, e108, hx108_0⟩ := Kd.at_int HR1.out x9_2 p108 q108; have hw108_0 := hx108_0
            cases e108
            replace hx108_0 := (HB.out.cell (World.block_lt_of_cell? w _ hx108_0)).trans hx108_0; replace p108 := eq_true p108; replace q108 := eq_true q108; refine start_ (n := 10) (S := fun w' => w'.cell? ⟨gb101, 0, none⟩ = some (.int .i64 a0_0) ∧ w'.cell? ⟨gb101, 1, none⟩ = some (.slice A0_1 l0_1.length c0_1) ∧ w'.cell? (ad107.add (x10_3).toNat) = some (.int .i64 (rd x7_3 x10_3)) ∧ w'.cell? (ad108.add (x9_2).toNat) = some (.int .i64 (rd l1 x9_2))) (ds := []) #[false, false, false, false, false, false, false, false, false, false] (by kernel_rfl) rfl rfl ⟨(blk_cell BK101.out 0).trans rfl, (blk_cell BK101.out 1).trans rfl, hx107_0, ((HB.out.cell (World.block_lt_of_cell? w _ hw108_0)).trans hw108_0)⟩ (fun hHeld => ?_); refine with_tabW spec_l2Reach.tab11 spec_l2Reach.bits11 (fun HT_ HW_ => ?_); generalize wc.drew = w23 at HO_7 BK101 HB hx107_0 hx108_0 hHeld ⊢; refine pq 1 41 rfl rfl HT_ ?_; refine pq 2 42 rfl rfl HT_ ?_; refine pq 3 43 rfl rfl HT_ ?_; refine pq 5 45 rfl rfl HT_ ?_; refine pq 6 46 rfl rfl HT_ ?_; refine pq 7 47 rfl rfl HT_ ?_; refine tq4 0 40 rfl rfl HT_ HW_ hHeld ?_; refine tq4 4 44 rfl rfl HT_ HW_ hHeld ?_; refine tq4 8 48 rfl rfl HT_ HW_ hHeld ?_; refine oq 9 49 rfl rfl HT_ (fun K hK => ?_); refine goes_ Try.func137 (by kernel_rfl) rfl #[.agg #[.int .i64 a0_0, .slice A0_1 l0_1.length c0_1], .int .i64 (rd x7_3 x10_3), .int .i64 (rd l1 x9_2)] (by rfl) rfl rfl Q3 ?_
            with_reducible refine (spec_l2Near.calls kj8 a0_0 _ _ l0_1 (rd x7_3 x10_3) (rd l1 x9_2) t109 _ ?side1 ?side2 A21.out).mono ?_
            (case side1 => exact (Q7 HR0_1 HB))
            (case side2 => exact HC0_1.out)
            rintro e w25 ⟨rfl, hb⟩; have HS2_ := (hb.cell (World.block_lt_of_cell? _ _ (hHeld.2.2.1))).trans (hHeld.2.2.1); refine ⟨_, rfl, ?_⟩; replace HO_7 := am (Kd.R_below Q37 hb); replace BK101 := bb BK101 hb; replace HB := bs HB hb; (try clear hb); (try clear hb2); (try clear hk); (try clear hi); refine hK.out _ _ ⟨(blk_cell BK101.out 0).trans rfl, (blk_cell BK101.out 1).trans rfl, HS2_, ((HB.out.cell (World.block_lt_of_cell? w _ hw108_0)).trans hw108_0)⟩ (fun hHeld => ?_); clear hK K; refine nz ?_
            refine done_ (done_of HT_.out (by kernel_rfl)) ?_
            go_upto_if 49 with (fail)
            have H := HU22.out; clear HU22
            by_cases c26 : t109 = true
            ·subst c26
             have H1 : ((spec_l1Put.f kj8 x7_3 (rd l1 x9_2)).bind fun t111 => (spec_l2Reach.l2 kj8 l1 t111 x8_1 x9_2 (wrap64 (x10_3 + 1)) a0_0 l0_1)) = some r := by rw [if_pos rfl] at H; exact H
             clear H; have H := H1; clear H1; replace H := (ob H); obtain ⟨t111, A270, H⟩ := H; (try dsimp only at H); have A27 := Aside0.mk A270; clear A270; have H' := Aside0.mk H; clear H; have p110 : 0 ≤ (x9_2 : Int) := D4; have q110 : x9_2 < (l1.length : Int) := D4; obtain ⟨ad110, e110, hx110_0⟩ := Kd.at_int HR1.out x9_2 p110 q110; obtain rfl : ad108 = ad110 := (by injection e110); replace hx110_0 := (HB.out.cell (World.block_lt_of_cell? w _ hx110_0)).trans hx110_0; replace p110 := eq_true p110; replace q110 := eq_true q110
             go_wp2_with (first | ((with_reducible refine gate_callee (f := 207) rfl ?_); refine goesL_ (some 55) rfl rfl Try.func207 (by kernel_rfl) rfl #[.slice (some ad107) x7_3.length co24, .int .i64 (rd l1 x9_2)] rfl Q3 ?_; (with_reducible refine (spec_l1Put.calls kj8 _ _ x7_3 (rd l1 x9_2) t111 _ ?side1 ?side2 A27.out).mono ?_); (case side1 => exact Q114); (case side2 => exact (Kd.R_reads' HO_7.out).2.1); rintro e w28 ⟨v112, rfl, ho0, hb⟩; refine ⟨_, rfl, ?_⟩; have HO113 := am (Kd.R_lower (Kd.R_new' ho0 (Kd.R_lt Q37)) (below_size (Q0 HB))); replace HO_7 := am (Kd.R_elder' Q37 (Kd.R_base ho0) hb); replace BK101 := bb BK101 hb; replace HB := bs HB hb; (try clear hb); (try clear hb2); (try clear hk); (try clear hi); (try clear ho0)))
             go_roundg kj8
             case measure => have := HK1.out; have := HK2.out; have := HK3.out; have := HJ8.out; omega
             case rel => exact ⟨(t111), (wrap64 (x10_3 + 1)), Q9, H', ⟨by have := HK1.out; have := HK2.out; have := HK3.out; have := HJ8.out; omega⟩, ⟨Q35 HO113⟩, ⟨Q1 BK101⟩, ⟨Q0 HB⟩⟩
            ·replace c26 := Bool.eq_false_iff.mpr c26
             subst c26; have H1 : (spec_l2Reach.l2 kj8 l1 x7_3 x8_1 x9_2 (wrap64 (x10_3 + 1)) a0_0 l0_1) = some r := by rw [if_neg (show ¬ (false = true) by decide)] at H; exact H
             clear H; have H := H1; clear H1; have H' := Aside0.mk H; clear H
             go_wp2
             go_roundg kj8
             case measure => have := HK1.out; have := HK2.out; have := HK3.out; have := HJ8.out; omega
             case rel => exact ⟨(x7_3), (wrap64 (x10_3 + 1)), Q9, H', ⟨by have := HK1.out; have := HK2.out; have := HK3.out; have := HJ8.out; omega⟩, ⟨Q37⟩, ⟨Q1 BK101⟩, ⟨Q0 HB⟩⟩
           ·replace c16 := Bool.eq_false_iff.mpr c16
            subst c16; have H1 : (spec_l2Reach.l1 kj8 l1 x7_3 x8_1 (wrap64 (x9_2 + 1)) a0_0 l0_1) = some r := by rw [if_neg (show ¬ (false = true) by decide)] at H; exact H
            clear H; have H := H1; clear H1; have H' := Aside0.mk H; clear H
            go_wp2
            go_roundg kj8
            case measure => have := HK1.out; have := HK2.out; have := HK3.out; have := HJ8.out; omega
            case rel => exact ⟨(x7_3), (wrap64 (x9_2 + 1)), Q9, H', ⟨by have := HK1.out; have := HK2.out; have := HK3.out; have := HJ8.out; omega⟩, ⟨Q37⟩, ⟨Q1 BK101⟩, ⟨Q0 HB⟩⟩
      ·rw [if_neg c8] at H
       have c8b0 := decide_eq_false c8; clear c8; have H' := Aside0.mk H; clear H
       go_wp2
       go_roundg k2
       case measure => have := HK1.out; have := HK2.out; omega
       case rel => exact ⟨(x7_2), (wrap64 (x8_1 + 1)), Q9, H', ⟨Q68⟩, ⟨Q37⟩, ⟨Q1 BK101⟩, ⟨Q0 HB⟩⟩
   ·rw [if_neg c7] at H
    have c7b0 := decide_eq_false c7; clear c7; obtain rfl := Option.some.inj H
    go_wp2
    go_ret
    exact ⟨_, Q10, Q37, Q0 HB⟩
/-! ### spec_l2Parts: function 161 -/
mutual
def spec_l2Parts.l0 : Nat → List Int → List (List Int) → List Int → Int → Int → List (S71) → Option ((List (List Int)))
 | 0, _, _, _, _, _, _ => none
 | k + 1, x1, x5, x6, x7, x102000, x102001 => if x7 < (x1.length : Int) then (if 0 ≤ x7 then ((spec_l1Has.f k x6 (rd x1 x7)).bind fun t109 => (if t109 = true then (spec_l2Parts.l0 k x1 x5 x6 (wrap64 (x7 + 1)) x102000 x102001) else ((spec_l2Reach.f k x102000 x102001 x1 (rd x1 x7)).bind fun t111 => (spec_l2Parts.l1 k x1 x5 x6 x7 t111 0 x102000 x102001)))) else (none)) else (some x5)
def spec_l2Parts.l1 : Nat → List Int → List (List Int) → List Int → Int → List Int → Int → Int → List (S71) → Option ((List (List Int)))
 | 0, _, _, _, _, _, _, _, _ => none
 | k + 1, x1, x5, x6, x7, x8, x9, x102000, x102001 => if x9 < (x8.length : Int) then (if 0 ≤ x9 then ((spec_l1Put.f k x6 (rd x8 x9)).bind fun t115 => (spec_l2Parts.l1 k x1 x5 t115 x7 x8 (wrap64 (x9 + 1)) x102000 x102001)) else (none)) else (if x5.length < 5864062014805 then (spec_l2Parts.l0 k x1 (x5 ++ [x8]) x6 (wrap64 (x7 + 1)) x102000 x102001) else (none))
end
def spec_l2Parts.f (k : Nat) (a0_0 : Int) (l0_1 : List (S71)) (l1 : List Int) : Option ((List (List Int))) := spec_l2Parts.l0 k l1 (([] : List (List Int))) (([] : List Int)) 0 a0_0 l0_1
theorem spec_l2Parts.mono_l : ∀ k, (∀ y0 y1 y2 y3 y4 y5, LeO (spec_l2Parts.l0 k y0 y1 y2 y3 y4 y5) (spec_l2Parts.l0 (k + 1) y0 y1 y2 y3 y4 y5)) ∧ (∀ y0 y1 y2 y3 y4 y5 y6 y7, LeO (spec_l2Parts.l1 k y0 y1 y2 y3 y4 y5 y6 y7) (spec_l2Parts.l1 (k + 1) y0 y1 y2 y3 y4 y5 y6 y7))
 | 0 => ⟨fun _ _ _ _ _ _ r h => by simp [spec_l2Parts.l0] at h, fun _ _ _ _ _ _ _ _ r h => by simp [spec_l2Parts.l1] at h⟩
 | k + 1 => by
  obtain ⟨ih0, ih1⟩ := spec_l2Parts.mono_l k; refine ⟨?_, ?_⟩
  all_goals
   intros
   first | unfold spec_l2Parts.l0 | unfold spec_l2Parts.l1
   repeat' first | (with_reducible first | exact ih0 _ _ _ _ _ _ | exact ih1 _ _ _ _ _ _ _ _ | exact spec_l1Has.mono _ _ _ | exact spec_l1Put.mono _ _ _ | exact spec_l2Reach.mono _ _ _ _ _ | exact LeO.refl _ | exact LeO.none _ | refine LeO.ite ?_ ?_ | refine LeO.bind ?_ (fun _ => ?_))
theorem spec_l2Parts.mono : ∀ a0 a1 a2 k, LeO (spec_l2Parts.f k a0 a1 a2) (spec_l2Parts.f (k + 1) a0 a1 a2) := by
 intro a0 a1 a2 k
 obtain ⟨ih0, ih1⟩ := spec_l2Parts.mono_l k
 unfold spec_l2Parts.f
 repeat' first | (with_reducible first | exact ih0 _ _ _ _ _ _ | exact ih1 _ _ _ _ _ _ _ _ | exact spec_l1Has.mono _ _ _ | exact spec_l1Put.mono _ _ _ | exact spec_l2Reach.mono _ _ _ _ _ | exact LeO.refl _ | exact LeO.none _ | refine LeO.ite ?_ ?_ | refine LeO.bind ?_ (fun _ => ?_))
def spec_l2Parts.T6 : Bool × List (List Nat × List Nat) := (true, [([], []), ([], []), ([], []), ([], []), ([2, 3], [2, 3]), ([4], [4]), ([0, 1, 5], [0, 1, 5]), ([6, 6, 0, 1, 2, 3, 4, 5, 6], [6])])
def spec_l2Parts.B6 : List Nat := [0, 0, 0, 0, 12, 28, 63, 127]
theorem spec_l2Parts.tab6 : rtab .any (opsOf Try.f161 6) = spec_l2Parts.T6 := by kernel_rfl
theorem spec_l2Parts.bits6 : waitsOk spec_l2Parts.T6.2 spec_l2Parts.B6 = true := by kernel_rfl
set_option maxHeartbeats 8000000 in
set_option maxRecDepth 100000 in
theorem spec_l2Parts.calls (k : Nat) (a0_0 : Int) (A0_1 : Option Addr) (c0_1 : Nat) (l0_1 : List (S71)) (A1 : Option Addr) (c1 : Nat) (l1 : List Int) (r : List (List Int)) (w : World) (hr0_1 : Kd.C k71 w A0_1 l0_1.length l0_1) (hc0_1 : l0_1.length ≤ c0_1) (hr1 : Kd.C (Kd.int .i64) w A1 l1.length l1) (hc1 : l1.length ≤ c1) (h : spec_l2Parts.f k a0_0 l0_1 l1 = some r) :
  Calls Try.prog 161 #[.agg #[.int .i64 a0_0, .slice A0_1 l0_1.length c0_1], .slice A1 l1.length c1] w fun e w' => ∃ v0_ : Value, e = .returned (v0_) ∧ Kd.S (Kd.slice 3 (Kd.int .i64)) 25 w' w.heap.size (fun _ => True) v0_ r ∧ Below w.heap.size w w' := by
 have hu30 := Try.underlying30
 have HR0_1 := Aside0.mk hr0_1
 have HC0_1 := Aside0.mk hc0_1
 clear hr0_1 hc0_1
 have HR1 := Aside0.mk hr1
 have HC1 := Aside0.mk hc1
 clear hr1 hc1
 have HB := am (Below.refl w.heap.size w)
 have H : (spec_l2Parts.l0 k l1 (([] : List (List Int))) (([] : List Int)) 0 a0_0 l0_1) = some r := h
 clear h
 obtain ⟨y102, hy102⟩ : ∃ y_ : List (List Int), y_ = (([] : List (List Int))) := ⟨_, rfl⟩
 replace H : (spec_l2Parts.l0 k l1 y102 (([] : List Int)) 0 a0_0 l0_1) = some r := RH hy102 H
 have Ny102 := Aside0.mk hy102
 clear hy102
 obtain ⟨y105, hy105⟩ : ∃ y_ : List Int, y_ = (([] : List Int)) := ⟨_, rfl⟩
 replace H : (spec_l2Parts.l0 k l1 y102 y105 0 a0_0 l0_1) = some r := RH hy105 H
 have Ny105 := Aside0.mk hy105
 clear hy105
 have H' := Aside0.mk H
 clear H
 go_enter Try.func161, Try.ntmps161
 go_wp2_with (first | ((with_reducible refine gate_dst (N := 2) rfl ?_); refine box_event (by rfl) (N := 2) (by rfl) (cs := #[.int .i64 a0_0, .slice A0_1 l0_1.length c0_1]) (t := 30) Qr ?_; intro gb101 hg w3 hbox hb; have BK101 := am (hbox); have GW101 := am ((Q26 : w.heap.size ≤ gb101)); have GE101 := am ((Q26 : w.heap.size ≤ gb101)); replace HB := bs HB hb; clear hb hbox hg) | ((with_reducible refine gate_dst (N := 10) rfl ?_); refine Kd.S_lit (Kd.slice 3 (Kd.int .i64)) _ 25 (by rfl) (N := 10) (by rfl) (xs := ([] : List (List Int))) (inner := []) (ok := fun _ => True) (okp := fun _ => True) Qr ?hp (fun _ hk => hk) trivial (Below.refl _ _) (Nat.le_refl _) (by simp) ?_; (case hp => exact (Reps.none _ _)); intro v103 w4 ho5 hb hg_ hnew_; clear hg_ hnew_; (first | rw [← Ny102.out] at ho5 | (simp only [Int.reduceToNat] at ho5; rw [← Ny102.out] at ho5)); have HO104 := am (Kd.S_lower ho5 (below_size (Q0 HB))); replace BK101 := bb BK101 hb; replace HB := bs HB hb; clear hb ho5) | ((with_reducible refine gate_dst (N := 11) rfl ?_); refine Kd.R_lit (Kd.int .i64) _ 3 (by rfl) (N := 11) (by rfl) (xs := ([] : List Int)) (inner := []) (ok := fun _ => True) (okp := fun _ => True) Qr ?hp (fun _ hk => hk) trivial (Below.refl _ _) (Nat.le_refl _) (by simp) ?_; (case hp => exact (Reps.none _ _)); intro v106 w6 ho7 hb hg_ hnew_; clear hg_ hnew_; (first | rw [← Ny105.out] at ho7 | (simp only [Int.reduceToNat] at ho7; rw [← Ny105.out] at ho7)); replace HO104 := am (Kd.S_elder' (Q32 HO104) (Kd.R_base ho7) hb); have HO107 := am (Kd.R_lower ho7 (below_size (Q0 HB))); replace BK101 := bb BK101 hb; replace HB := bs HB hb; clear hb ho7))
 go_loopg [5, 6, 7] k (fun kq v5 v6 v7 w' => ∃ (x5_1 : List (List Int)) (x6_1 : List Int) (x7_1 : Int), v7 = .int .i64 x7_1 ∧ Aside0 (spec_l2Parts.l0 kq l1 x5_1 x6_1 x7_1 a0_0 l0_1 = some r) ∧ Aside0 (kq ≤ k) ∧ Aside0 (Kd.S (Kd.slice 3 (Kd.int .i64)) 25 w' w.heap.size (fun k_ => some k_ ≠ (v6 : Value).ownBlock) v5 x5_1) ∧ Aside0 (Kd.R (Kd.int .i64) 3 w' w.heap.size (fun _ => True) v6 x6_1) ∧ Aside0 (w'.heap[gb101]? = some (.cells #[.int .i64 a0_0, (.slice A0_1 l0_1.length c0_1)] 30 (0, 0))) ∧ Aside0 (Below w.heap.size w w'))
 case atStart => exact ⟨(y102), (y105), (0), Q9, H', ⟨Nat.le_refl _⟩, ⟨Q100 HO104⟩, ⟨Q2 HO107⟩, ⟨Q1 BK101⟩, ⟨Q0 HB⟩⟩
 case round =>
  clear H'
  obtain ⟨x5_1, x6_1, x7_1, rfl, HA, HK1, HO_5, HO_6, BK101, HB⟩ := hrel
  cases gk with
  | zero => exact absurd HA.out (by simp [spec_l2Parts.l0])
  | succ k1 =>
   have H := HA.out; clear HA
   simp only [spec_l2Parts.l0] at H
   by_cases c8 : x7_1 < (l1.length : Int)
   ·rw [if_pos c8] at H
    have c8b0 := decide_eq_true c8; clear c8
    obtain ⟨c9, H⟩ := ifn H
    have c9b0 := decide_eq_true c9; clear c9; replace H := (ob H); obtain ⟨t109, A100, H⟩ := H; (try dsimp only at H); have A10 := Aside0.mk A100; clear A100; have HU11 := Aside0.mk H; clear H; have p108 : 0 ≤ (x7_1 : Int) := D4; have q108 : x7_1 < (l1.length : Int) := D4; obtain ⟨ad108, e108, hx108_0⟩ := Kd.at_int HR1.out x7_1 p108 q108
    cases e108
    replace hx108_0 := (HB.out.cell (World.block_lt_of_cell? w _ hx108_0)).trans hx108_0; replace p108 := eq_true p108; replace q108 := eq_true q108; obtain ⟨Ao12, co12, eo12⟩ := Kd.R_slice HO_6.out; subst eo12
    go_upto_if 23 with (first | ((with_reducible refine gate_callee (f := 148) rfl ?_); refine goesL_ (some 23) rfl rfl Try.func148 (by kernel_rfl) rfl #[.slice Ao12 x6_1.length co12, .int .i64 (rd l1 x7_1)] rfl Q3 ?_; (with_reducible refine (spec_l1Has.calls k1 _ _ x6_1 (rd l1 x7_1) t109 _ ?side1 ?side2 A10.out).mono ?_); (case side1 => exact Q115); (case side2 => exact (Kd.R_reads' HO_6.out).2.1); rintro e w' ⟨rfl, ⟨nd, rfl⟩⟩; refine ⟨_, rfl, ?_⟩))
    (try simp only [Act.put, List.setIfInBounds_toArray, List.set_cons_zero, List.set_cons_succ]); have H := HU11.out; clear HU11
    by_cases c13 : t109 = true
    ·subst c13
     have H1 : (spec_l2Parts.l0 k1 l1 x5_1 x6_1 (wrap64 (x7_1 + 1)) a0_0 l0_1) = some r := by rw [if_pos rfl] at H; exact H
     clear H; have H := H1; clear H1; have H' := Aside0.mk H; clear H
     go_wp2
     go_roundg k1
     case measure => have := HK1.out; omega
     case rel => exact ⟨(x5_1), (x6_1), (wrap64 (x7_1 + 1)), Q9, H', ⟨Q54⟩, ⟨Q66⟩, ⟨Q23⟩, ⟨Q1 BK101⟩, ⟨Q0 HB⟩⟩
    ·replace c13 := Bool.eq_false_iff.mpr c13
     subst c13; have H1 : ((spec_l2Reach.f k1 a0_0 l0_1 l1 (rd l1 x7_1)).bind fun t111 => (spec_l2Parts.l1 k1 l1 x5_1 x6_1 x7_1 t111 0 a0_0 l0_1)) = some r := by rw [if_neg (show ¬ (false = true) by decide)] at H; exact H
     clear H; have H := H1; clear H1; replace H := (ob H); obtain ⟨t111, A140, H⟩ := H; (try dsimp only at H); have A14 := Aside0.mk A140; clear A140; have H' := Aside0.mk H; clear H
     try go_wp2
     (try (rw [drewN_self wr]; generalize hq_ : World.drewN wr _ = wr; have n0_ : Aside0 (Kd.S (Kd.slice 3 (Kd.int .i64)) 25 wr w.heap.size (fun k_ => some k_ ≠ (.slice Ao12 x6_1.length co12 : Value).ownBlock) u5 x5_1) := ⟨by rw [← hq_]; exact Q66⟩; have n1_ : Aside0 (Kd.R (Kd.int .i64) 3 wr w.heap.size (fun _ => True) (.slice Ao12 x6_1.length co12) x6_1) := ⟨by rw [← hq_]; exact Q23⟩; have n2_ : Aside0 (wr.heap[gb101]? = some (.cells #[.int .i64 a0_0, .slice A0_1 l0_1.length c0_1] 30 (0, 0))) := ⟨by rw [← hq_]; exact (Q1 BK101)⟩; have n3_ : Aside0 (Below w.heap.size w wr) := ⟨by rw [← hq_]; exact (Q0 HB)⟩; clear HO_5 HO_6 BK101 HB hq_; have HO_5 := n0_; have HO_6 := n1_; have BK101 := n2_; have HB := n3_; clear n0_ n1_ n2_ n3_)); replace HO_5 := am (Kd.S_drew HO_5.out); replace HO_6 := am (Kd.R_drew HO_6.out); replace BK101 := am (blk_drew BK101.out); replace HB := am (below_drew1 HB.out); have p110 : 0 ≤ (x7_1 : Int) := D4; have q110 : x7_1 < (l1.length : Int) := D4; obtain ⟨ad110, e110, hx110_0⟩ := Kd.at_int HR1.out x7_1 p110 q110; have hw110_0 := hx110_0; obtain rfl : ad108 = ad110 := (by injection e110); replace hx110_0 := (HB.out.cell (World.block_lt_of_cell? w _ hx110_0)).trans hx110_0; replace p110 := eq_true p110; replace q110 := eq_true q110; refine start_ (n := 8) (S := fun w' => w'.cell? ⟨gb101, 0, none⟩ = some (.int .i64 a0_0) ∧ w'.cell? ⟨gb101, 1, none⟩ = some (.slice A0_1 l0_1.length c0_1) ∧ w'.cell? (ad108.add (x7_1).toNat) = some (.int .i64 (rd l1 x7_1))) (ds := []) #[false, false, false, false, false, false, false, false] (by kernel_rfl) rfl rfl ⟨(blk_cell BK101.out 0).trans rfl, (blk_cell BK101.out 1).trans rfl, ((HB.out.cell (World.block_lt_of_cell? w _ hw110_0)).trans hw110_0)⟩ (fun hHeld => ?_); refine with_tabW spec_l2Parts.tab6 spec_l2Parts.bits6 (fun HT_ HW_ => ?_); generalize wr.drew = w15 at HO_5 HO_6 BK101 HB hx110_0 hHeld ⊢; refine pq 1 25 rfl rfl HT_ ?_; refine pq 2 26 rfl rfl HT_ ?_; refine pq 3 27 rfl rfl HT_ ?_; refine pq 4 28 rfl rfl HT_ ?_; refine tq3 0 24 rfl rfl HT_ HW_ hHeld ?_; refine tq3 5 29 rfl rfl HT_ HW_ hHeld ?_; refine oq 6 30 rfl rfl HT_ (fun K hK => ?_); refine goes_ Try.func206 (by kernel_rfl) rfl #[.agg #[.int .i64 a0_0, .slice A0_1 l0_1.length c0_1], .slice (some ad108) l1.length c1, .int .i64 (rd l1 x7_1)] (by rfl) rfl rfl Q3 ?_
     with_reducible refine (spec_l2Reach.calls k1 a0_0 _ _ l0_1 _ _ l1 (rd l1 x7_1) t111 _ ?side1 ?side2 ?side3 ?side4 A14.out).mono ?_
     (case side1 => exact (Q7 HR0_1 HB))
     (case side2 => exact HC0_1.out)
     (case side3 => exact (Q7 HR1 HB))
     (case side4 => exact HC1.out)
     rintro e w16 ⟨v112, rfl, ho0, hb⟩; refine ⟨_, rfl, ?_⟩; replace HO_5 := am (Kd.S_elder' Q66 (Kd.R_base ho0) hb); have HO113 := am (Kd.R_lower (Kd.R_new' ho0 (Kd.R_lt Q23)) (below_size (Q0 HB))); replace HO_6 := am (Kd.R_elder' Q23 (Kd.R_base ho0) hb); replace BK101 := bb BK101 hb; replace HB := bs HB hb; (try clear hb); (try clear hb2); (try clear hk); (try clear hi); (try clear ho0); refine hK.out _ _ ⟨(blk_cell BK101.out 0).trans rfl, (blk_cell BK101.out 1).trans rfl, ((HB.out.cell (World.block_lt_of_cell? w _ hw110_0)).trans hw110_0)⟩ (fun hHeld => ?_); clear hK K; refine nz ?_
     refine pq 7 8 rfl rfl HT_ ?_; refine done_ (done_of HT_.out (by kernel_rfl)) ?_
     try go_wp2
     go_loopg [6, 9] k1 (fun kq v6 v9 w' => ∃ (x6_2 : List Int) (x9_2 : Int), v9 = .int .i64 x9_2 ∧ Aside0 (spec_l2Parts.l1 kq l1 x5_1 x6_2 x7_1 t111 x9_2 a0_0 l0_1 = some r) ∧ Aside0 (kq ≤ k1) ∧ Aside0 (Kd.S (Kd.slice 3 (Kd.int .i64)) 25 w' w.heap.size (fun k_ => some k_ ≠ (v6 : Value).ownBlock ∧ some k_ ≠ (v112 : Value).ownBlock) u5 x5_1) ∧ Aside0 (Kd.R (Kd.int .i64) 3 w' w.heap.size (fun k_ => some k_ ≠ (v112 : Value).ownBlock) v6 x6_2) ∧ Aside0 (Kd.R (Kd.int .i64) 3 w' w.heap.size (fun k_ => some k_ ≠ (v6 : Value).ownBlock) v112 t111) ∧ Aside0 (w'.heap[gb101]? = some (.cells #[.int .i64 a0_0, (.slice A0_1 l0_1.length c0_1)] 30 (0, 0))) ∧ Aside0 (Below w.heap.size w w'))
     case atStart => exact ⟨(x6_1), (0), Q9, H', ⟨Nat.le_refl _⟩, ⟨Q66⟩, ⟨by (with_reducible repeat (first | apply Kd.R_alloc | apply Kd.R_drewN | apply Kd.R_drew)); exact Kd.R_mono HO_6.out (fun _ hk => hk.2)⟩, ⟨Q29 HO113⟩, ⟨Q1 BK101⟩, ⟨Q0 HB⟩⟩
     case round =>
      clear H'
      obtain ⟨x6_2, x9_2, rfl, HA, HK2, HO_5, HO_6, HO_8, BK101, HB⟩ := hrel
      cases gk with
      | zero => exact absurd HA.out (by simp [spec_l2Parts.l1])
      | succ k2 =>
       have H := HA.out; clear HA
       simp only [spec_l2Parts.l1] at H
       by_cases c17 : x9_2 < (t111.length : Int)
       ·rw [if_pos c17] at H
        have c17b0 := decide_eq_true c17; clear c17
        (first | rw [c17b0] | (simp only [i64_w, i32_w]; rw [c17b0]) | skip)
        obtain ⟨c18, H⟩ := ifn H
        have c18b0 := decide_eq_true c18; clear c18; replace H := (ob H); obtain ⟨t115, A190, H⟩ := H; (try dsimp only at H); have A19 := Aside0.mk A190; clear A190; have H' := Aside0.mk H; clear H; obtain ⟨Ao20, co20, eo20⟩ := Kd.R_slice HO_8.out; subst eo20; have p114 : 0 ≤ (x9_2 : Int) := D4; have q114 : x9_2 < (t111.length : Int) := D4; obtain ⟨ad114, e114, hx114_0⟩ := Kd.at_int (Kd.R_reads' HO_8.out).2.2 x9_2 p114 q114
        cases e114
        replace p114 := eq_true p114; replace q114 := eq_true q114; obtain ⟨Ao21, co21, eo21⟩ := Kd.R_slice HO_6.out; subst eo21
        go_wp2_with (first | ((with_reducible refine gate_callee (f := 207) rfl ?_); refine goesL_ (some 42) rfl rfl Try.func207 (by kernel_rfl) rfl #[.slice Ao21 x6_2.length co21, .int .i64 (rd t111 x9_2)] rfl Q3 ?_; (with_reducible refine (spec_l1Put.calls k2 _ _ x6_2 (rd t111 x9_2) t115 _ ?side1 ?side2 A19.out).mono ?_); (case side1 => exact Q115); (case side2 => exact (Kd.R_reads' HO_6.out).2.1); rintro e w22 ⟨v116, rfl, ho0, hb⟩; refine ⟨_, rfl, ?_⟩; replace HO_5 := am (Kd.S_elder' Q66 (Kd.R_base ho0) hb); have HO117 := am (Kd.R_lower (Kd.R_new' (Kd.R_new' ho0 (Kd.R_lt Q23)) (Kd.R_lt (by (with_reducible repeat (first | apply Kd.R_alloc | apply Kd.R_drewN | apply Kd.R_drew)); exact HO_8.out))) (below_size (Q0 HB))); replace HO_6 := am (Kd.R_elder' Q23 (Kd.R_base ho0) hb); replace HO_8 := am (Kd.R_elder' (by (with_reducible repeat (first | apply Kd.R_alloc | apply Kd.R_drewN | apply Kd.R_drew)); exact HO_8.out) (Kd.R_base ho0) hb); replace BK101 := bb BK101 hb; replace HB := bs HB hb; (try clear hb); (try clear hb2); (try clear hk); (try clear hi); (try clear ho0)))
        go_roundg k2
        case measure => have := HK1.out; have := HK2.out; omega
        case rel => exact ⟨(t115), (wrap64 (x9_2 + 1)), Q9, H', ⟨Q68⟩, ⟨by (with_reducible repeat (first | apply Kd.S_alloc | apply Kd.S_drewN | apply Kd.S_drew)); exact Kd.S_mono HO_5.out (fun _ hk => ⟨hk.2, hk.1.2⟩)⟩, ⟨Q29 HO117⟩, ⟨by (with_reducible repeat (first | apply Kd.R_alloc | apply Kd.R_drewN | apply Kd.R_drew)); exact Kd.R_mono HO_8.out (fun _ hk => hk.2)⟩, ⟨Q1 BK101⟩, ⟨Q0 HB⟩⟩
       ·rw [if_neg c17] at H
        have c17b0 := decide_eq_false c17; clear c17
        (first | rw [c17b0] | (simp only [i64_w, i32_w]; rw [c17b0]) | skip)
        obtain ⟨c23, H⟩ := ifn H
        have LMc23 := Aside0.mk c23; clear c23; obtain ⟨y118, hy118⟩ : ∃ y_ : List (List Int), y_ = (x5_1 ++ [t111]) := ⟨_, rfl⟩; replace H : (spec_l2Parts.l0 k2 l1 y118 x6_2 (wrap64 (x7_1 + 1)) a0_0 l0_1) = some r := RH hy118 H; have Ny118 := Aside0.mk hy118; clear hy118; have H' := Aside0.mk H; clear H; obtain ⟨Ao24, co24, eo24⟩ := Kd.R_slice HO_8.out; subst eo24
        go_wp2_with (first | ((with_reducible refine gate_builtin (b := .append) (xs := #[.tmp 43, .tmp 45]) rfl ?_); at_builtin; refine Kd.S_append (Kd.slice 3 (Kd.int .i64)) (w0 := w) w.heap.size rfl (.tmp 43) (.tmp 45) 27 25 (.slice none 0 0) 24 rfl Try.underlying27 info25 rfl (by decide) (by omega) u5 x5_1 t111 [.slice Ao24 t111.length co24] (fun k_ => some k_ ≠ (u6 : Value).ownBlock) (fun k_ => some k_ = (.slice Ao24 t111.length co24 : Value).ownBlock) rfl rfl ?aP (fun k_ hk_ => ((Kd.R_mono (ok' := fun k_ => ((fun k_ => some k_ ≠ (u6 : Value).ownBlock)) k_ ∧ some k_ ≠ (u5 : Value).ownBlock) (Kd.R_apart' (HO_8.out) (Kd.S_typed HO_5.out) (by decide)) (fun k_ hk => ⟨hk.1, hk.2⟩))).1 k_ hk_.symm) ?aF ?aO ?aB ?aS ?aL ?_; (case aP => exact Kd.M_row (Kd.R_mono (Kd.R_tight rfl (Kd.R_mono (ok' := fun k_ => ((fun k_ => some k_ ≠ (u6 : Value).ownBlock)) k_ ∧ some k_ ≠ (u5 : Value).ownBlock) (Kd.R_apart' (HO_8.out) (Kd.S_typed HO_5.out) (by decide)) (fun k_ hk => ⟨hk.1, hk.2⟩))) (fun _ h_ => h_))); (case aB => exact (Q0 HB)); (case aF => exact (fun k_ hk => Kd.fresh' (Kd.R_lt Q23) k_ hk)); (case aO => exact (by (with_reducible repeat (first | apply Kd.S_alloc | apply Kd.S_drewN | apply Kd.S_drew)); exact Kd.S_mono HO_5.out (fun k_ hk => ⟨hk.1, fun e_ => hk.2 e_⟩))); (case aS => exact (below_size (Q0 HB))); (case aL => have := LMc23.out; omega); intro v119 w25 ho hb hg hat; rw [← Ny118.out] at ho; replace HO_6 := am (Kd.R_over' Q23 (Kd.S_typed Q66) (by decide) hg); replace BK101 := am (blk_grown (g := gb101) (o := .cells #[.int .i64 a0_0, .slice A0_1 l0_1.length c0_1] 30 (0, 0)) (Q1 BK101) hg (Kd.S_ne HO_5.out BK101.out (by decide))); replace HB := am (hb); have HO120 := am (ho); clear HO_5 HO_8; clear ho hb hg hat))
        go_roundg k2
        case measure => have := HK1.out; have := HK2.out; omega
        case rel => exact ⟨(y118), (x6_2), (wrap64 (x7_1 + 1)), Q9, H', ⟨Q68⟩, ⟨Q32 HO120⟩, ⟨by (with_reducible repeat (first | apply Kd.R_alloc | apply Kd.R_drewN | apply Kd.R_drew)); exact Kd.R_mono HO_6.out (fun _ hk => trivial)⟩, ⟨Q1 BK101⟩, ⟨Q0 HB⟩⟩
   ·rw [if_neg c8] at H
    have c8b0 := decide_eq_false c8; clear c8; obtain rfl := Option.some.inj H
    go_wp2
    go_ret
    exact ⟨_, Q10, by (with_reducible repeat (first | apply Kd.S_alloc | apply Kd.S_drewN | apply Kd.S_drew)); exact Kd.S_mono HO_5.out (fun _ hk => trivial), Q0 HB⟩
/-! ### spec_l2Whole: function 162 -/
def spec_l2Whole.f (k : Nat) (a0_0 : Int) (l0_1 : List (S71)) : Option (Bool) := (spec_l2All.f k a0_0 l0_1).bind fun t102 => ((spec_l2Parts.f k a0_0 l0_1 t102).bind fun t105 => (some (decide ((t105.length : Int) ≤ 1))))
theorem spec_l2Whole.mono : ∀ a0 a1 k, LeO (spec_l2Whole.f k a0 a1) (spec_l2Whole.f (k + 1) a0 a1) := by
 intro a0 a1 k
 unfold spec_l2Whole.f
 repeat' first | (with_reducible first | exact spec_l2All.mono _ _ _ | exact spec_l2Parts.mono _ _ _ _ | exact LeO.refl _ | exact LeO.none _ | refine LeO.ite ?_ ?_ | refine LeO.bind ?_ (fun _ => ?_))
set_option maxHeartbeats 8000000 in
set_option maxRecDepth 100000 in
theorem spec_l2Whole.calls (k : Nat) (a0_0 : Int) (A0_1 : Option Addr) (c0_1 : Nat) (l0_1 : List (S71)) (r : Bool) (w : World) (hr0_1 : Kd.C k71 w A0_1 l0_1.length l0_1) (hc0_1 : l0_1.length ≤ c0_1) (h : spec_l2Whole.f k a0_0 l0_1 = some r) :
  Calls Try.prog 162 #[.agg #[.int .i64 a0_0, .slice A0_1 l0_1.length c0_1]] w fun e w' => e = .returned (.bool r) ∧ Below w.heap.size w w' := by
 have hu30 := Try.underlying30
 have HR0_1 := Aside0.mk hr0_1
 have HC0_1 := Aside0.mk hc0_1
 clear hr0_1 hc0_1
 have HB := am (Below.refl w.heap.size w)
 have H : ((spec_l2All.f k a0_0 l0_1).bind fun t102 => ((spec_l2Parts.f k a0_0 l0_1 t102).bind fun t105 => (some (decide ((t105.length : Int) ≤ 1))))) = some r := h
 clear h
 replace H := (ob H)
 obtain ⟨t102, A20, H⟩ := H
 (try dsimp only at H)
 have A2 := Aside0.mk A20
 clear A20
 replace H := (ob H)
 obtain ⟨t105, A30, H⟩ := H
 (try dsimp only at H)
 have A3 := Aside0.mk A30
 clear A30
 obtain rfl := Option.some.inj H
 go_enter Try.func162, Try.ntmps162
 try go_wp2_with (first | ((with_reducible refine gate_dst (N := 1) rfl ?_); refine box_event (by rfl) (N := 1) (by rfl) (cs := #[.int .i64 a0_0, .slice A0_1 l0_1.length c0_1]) (t := 30) Qr ?_; intro gb101 hg w4 hbox hb; have BK101 := am (hbox); have GW101 := am ((Q26 : w.heap.size ≤ gb101)); have GE101 := am ((Q26 : w.heap.size ≤ gb101)); replace HB := bs HB hb; clear hb hbox hg))
 replace BK101 := am (blk_drew BK101.out)
 replace HB := am (below_drew1 HB.out)
 refine start_ (n := 7) (S := fun w' => w'.cell? ⟨gb101, 0, none⟩ = some (.int .i64 a0_0) ∧ w'.cell? ⟨gb101, 1, none⟩ = some (.slice A0_1 l0_1.length c0_1)) (ds := []) #[false, false, false, false, false, false, false] (by kernel_rfl) rfl rfl ⟨(blk_cell BK101.out 0).trans rfl, (blk_cell BK101.out 1).trans rfl⟩ (fun hHeld => ?_)
 generalize w4.drew = w5 at BK101 HB hHeld ⊢
 refine take_ (i := 0) (N := some 3) (v := ?_) (a' := ?_) #[true, false, false, false, false, false, false] rfl rfl (by kernel_rfl) (fun _ _ _ h => h) (Or.inl ⟨by rfl, ?_⟩) hHeld ?_ ?_
 rotate_left
 ·rintro w' ⟨s0, s1⟩
  go_simp
  with_reducible rfl
 rotate_left
 ·simp only [Act.put, List.setIfInBounds_toArray, List.set_cons_zero, List.set_cons_succ, i64_w, i32_w]
  rfl
 refine take_ (i := 1) (N := some 4) (v := ?_) (a' := ?_) #[true, true, false, false, false, false, false] rfl rfl (by kernel_rfl) (fun _ _ _ h => h) (Or.inl ⟨by rfl, ?_⟩) hHeld ?_ ?_
 rotate_left
 ·rintro w' ⟨s0, s1⟩
  go_simp
  with_reducible rfl
 rotate_left
 ·simp only [Act.put, List.setIfInBounds_toArray, List.set_cons_zero, List.set_cons_succ, i64_w, i32_w]
  rfl
 refine one_ (i := 2) (N := some 5) #[true, true, true, false, false, false, false] rfl rfl (by kernel_rfl) (by decide) (fun K hK => ?_)
 refine goes_ Try.func128 (by kernel_rfl) rfl #[.agg #[.int .i64 a0_0, .slice A0_1 l0_1.length c0_1]] (by rfl) rfl rfl Q3 ?_
 with_reducible refine (spec_l2All.calls k a0_0 _ _ l0_1 t102 _ ?side1 ?side2 A2.out).mono ?_
 (case side1 => exact (Q7 HR0_1 HB))
 (case side2 => exact HC0_1.out)
 rintro e w6 ⟨v103, rfl, ho0, hb⟩
 refine ⟨_, rfl, ?_⟩
 have HO104 := am (Kd.R_lower ho0 (below_size (Q0 HB)))
 replace BK101 := bb BK101 hb
 replace HB := bs HB hb
 (try clear hb)
 (try clear hb2)
 (try clear hk)
 (try clear hi)
 (try clear ho0)
 obtain ⟨Ao7, co7, eo7⟩ := Kd.R_slice HO104.out
 (first | subst eo7 | (injection eo7 with f1_ f2_ f3_; have f4_ := f1_.symm; have f5_ := f3_.symm; clear f1_ f2_ f3_; subst f4_; subst f5_))
 refine hK.out _ _ ⟨(blk_cell BK101.out 0).trans rfl, (blk_cell BK101.out 1).trans rfl⟩ (fun hHeld => ?_)
 clear hK K
 refine nz ?_
 refine one_ (i := 3) (N := some 6) #[true, true, true, true, false, false, false] rfl rfl (by kernel_rfl) (by decide) (fun K hK => ?_)
 refine goes_ Try.func161 (by kernel_rfl) rfl #[.agg #[.int .i64 a0_0, .slice A0_1 l0_1.length c0_1], .slice Ao7 t102.length co7] (by rfl) rfl rfl Q3 ?_
 with_reducible refine (spec_l2Parts.calls k a0_0 _ _ l0_1 _ _ t102 t105 _ ?side1 ?side2 ?side3 ?side4 A3.out).mono ?_
 (case side1 => exact (Q7 HR0_1 HB))
 (case side2 => exact HC0_1.out)
 (case side3 => exact (Q15 HO104))
 (case side4 => exact (Kd.R_reads' HO104.out).2.1)
 rintro e w8 ⟨v106, rfl, ho0, hb⟩
 refine ⟨_, rfl, ?_⟩
 have HO107 := am (Kd.S_lower (Kd.S_new' ho0 (Kd.R_lt (Q2 HO104))) (below_size (Q0 HB)))
 replace HO104 := am (Kd.R_below (Q2 HO104) hb)
 replace BK101 := bb BK101 hb
 replace HB := bs HB hb
 (try clear hb)
 (try clear hb2)
 (try clear hk)
 (try clear hi)
 (try clear ho0)
 obtain ⟨Ao9, co9, eo9⟩ := Kd.S_slice HO107.out
 (first | subst eo9 | (injection eo9 with f1_ f2_ f3_; have f4_ := f1_.symm; have f5_ := f3_.symm; clear f1_ f2_ f3_; subst f4_; subst f5_))
 refine hK.out _ _ ⟨(blk_cell BK101.out 0).trans rfl, (blk_cell BK101.out 1).trans rfl⟩ (fun hHeld => ?_)
 clear hK K
 refine nz ?_
 refine pure_ (i := 4) (N := some 7) (v := ?_) (a' := ?_) #[true, true, true, true, true, false, false] rfl rfl (by kernel_rfl) (fun _ _ _ h => h) (Or.inl ⟨by rfl, ?_⟩) ?_ ?_
 rotate_left
 ·intro w'
  go_simp
  with_reducible rfl
 rotate_left
 ·simp only [Act.put, List.setIfInBounds_toArray, List.set_cons_zero, List.set_cons_succ, i64_w, i32_w]
  rfl
 refine pure_ (i := 5) (N := some 8) (v := ?_) (a' := ?_) #[true, true, true, true, true, true, false] rfl rfl (by kernel_rfl) (fun _ _ _ h => h) (Or.inl ⟨by rfl, ?_⟩) ?_ ?_
 rotate_left
 ·intro w'
  go_simp
  with_reducible rfl
 rotate_left
 ·simp only [Act.put, List.setIfInBounds_toArray, List.set_cons_zero, List.set_cons_succ, i64_w, i32_w]
  rfl
 refine pure_ (i := 6) (N := some 2) (v := ?_) (a' := ?_) #[true, true, true, true, true, true, true] rfl rfl (by kernel_rfl) (fun _ _ _ h => h) (Or.inl ⟨by rfl, ?_⟩) ?_ ?_
 rotate_left
 ·intro w'
  go_simp
  with_reducible rfl
 rotate_left
 ·simp only [Act.put, List.setIfInBounds_toArray, List.set_cons_zero, List.set_cons_succ, i64_w, i32_w]
  rfl
 refine done_ (by kernel_rfl) ?_
 try go_wp2
 go_ret
 exact ⟨Q10, Q0 HB⟩
/-! ### spec_IsConnected: function 77 -/
def spec_IsConnected.f (k : Nat) (a0_0 : Int) (l0_1 : List (S71)) : Option (Bool × Bool) := (spec_l2Good.f k a0_0 l0_1).bind fun t102 => (if t102 = true then ((spec_l2Whole.f k a0_0 l0_1).bind fun t103 => (some (t103, true))) else (some (false, false)))
theorem spec_IsConnected.mono : ∀ a0 a1 k, LeO (spec_IsConnected.f k a0 a1) (spec_IsConnected.f (k + 1) a0 a1) := by
 intro a0 a1 k
 unfold spec_IsConnected.f
 repeat' first | (with_reducible first | exact spec_l2Good.mono _ _ _ | exact spec_l2Whole.mono _ _ _ | exact LeO.refl _ | exact LeO.none _ | refine LeO.ite ?_ ?_ | refine LeO.bind ?_ (fun _ => ?_))
set_option maxHeartbeats 8000000 in
set_option maxRecDepth 100000 in
theorem spec_IsConnected.calls (k : Nat) (a0_0 : Int) (A0_1 : Option Addr) (c0_1 : Nat) (l0_1 : List (S71)) (r1 : Bool) (r2 : Bool) (w : World) (hr0_1 : Kd.C k71 w A0_1 l0_1.length l0_1) (hc0_1 : l0_1.length ≤ c0_1) (h : spec_IsConnected.f k a0_0 l0_1 = some (r1, r2)) :
  Calls Try.prog 77 #[.agg #[.int .i64 a0_0, .slice A0_1 l0_1.length c0_1]] w fun e w' => e = .returned (.tuple #[.bool r1, .bool r2]) ∧ Below w.heap.size w w' := by
 have hu30 := Try.underlying30
 have HR0_1 := Aside0.mk hr0_1
 have HC0_1 := Aside0.mk hc0_1
 clear hr0_1 hc0_1
 have HB := am (Below.refl w.heap.size w)
 have H : ((spec_l2Good.f k a0_0 l0_1).bind fun t102 => (if t102 = true then ((spec_l2Whole.f k a0_0 l0_1).bind fun t103 => (some (t103, true))) else (some (false, false)))) = some (r1, r2) := h
 clear h
 replace H := (ob H)
 obtain ⟨t102, A20, H⟩ := H
 (try dsimp only at H)
 have A2 := Aside0.mk A20
 clear A20
 have HU3 := Aside0.mk H
 clear H
 go_enter Try.func77, Try.ntmps77
 go_upto_if 6 with (first | ((with_reducible refine gate_dst (N := 1) rfl ?_); refine box_event (by rfl) (N := 1) (by rfl) (cs := #[.int .i64 a0_0, .slice A0_1 l0_1.length c0_1]) (t := 30) Qr ?_; intro gb101 hg w4 hbox hb; have BK101 := am (hbox); have GW101 := am ((Q26 : w.heap.size ≤ gb101)); have GE101 := am ((Q26 : w.heap.size ≤ gb101)); replace HB := bs HB hb; clear hb hbox hg; obtain ⟨hcz5_0, hfz5_0, hcz5_1, hfz5_1⟩ := b2 BK101) | ((with_reducible refine gate_callee (f := 120) rfl ?_); refine goesL_ (some 5) rfl rfl Try.func120 (by kernel_rfl) rfl #[.agg #[.int .i64 a0_0, .slice A0_1 l0_1.length c0_1]] rfl Q3 ?_; (with_reducible refine (spec_l2Good.calls k a0_0 _ _ l0_1 t102 _ ?side1 ?side2 A2.out).mono ?_); (case side1 => exact (Q7 HR0_1 HB)); (case side2 => exact HC0_1.out); rintro e w6 ⟨rfl, hb⟩; refine ⟨_, rfl, ?_⟩; replace BK101 := bb BK101 hb; replace HB := bs HB hb; (try clear hb); (try clear hb2); (try clear hk); (try clear hi)))
 (try simp only [Act.put, List.setIfInBounds_toArray, List.set_cons_zero, List.set_cons_succ])
 have H := HU3.out
 clear HU3
 by_cases c7 : t102 = true
 ·subst c7
  have H1 : ((spec_l2Whole.f k a0_0 l0_1).bind fun t103 => (some (t103, true))) = some (r1, r2) := by rw [if_pos rfl] at H; exact H
  clear H; have H := H1; clear H1; replace H := (ob H); obtain ⟨t103, A80, H⟩ := H; (try dsimp only at H); have A8 := Aside0.mk A80; clear A80
  simp only [Option.some.injEq, Prod.mk.injEq] at H
  obtain ⟨rfl, rfl⟩ := H; obtain ⟨hcz9_0, hfz9_0, hcz9_1, hfz9_1⟩ := b2 BK101
  go_wp2_with (first | ((with_reducible refine gate_callee (f := 162) rfl ?_); refine goesL_ (some 8) rfl rfl Try.func162 (by kernel_rfl) rfl #[.agg #[.int .i64 a0_0, .slice A0_1 l0_1.length c0_1]] rfl Q3 ?_; (with_reducible refine (spec_l2Whole.calls k a0_0 _ _ l0_1 t103 _ ?side1 ?side2 A8.out).mono ?_); (case side1 => exact (Q7 HR0_1 HB)); (case side2 => exact HC0_1.out); rintro e w10 ⟨rfl, hb⟩; refine ⟨_, rfl, ?_⟩; replace BK101 := bb BK101 hb; replace HB := bs HB hb; (try clear hb); (try clear hb2); (try clear hk); (try clear hi)))
  go_ret2
  exact ⟨Q10, Q0 HB⟩
 ·replace c7 := Bool.eq_false_iff.mpr c7
  subst c7; have H1 : (some (false, false)) = some (r1, r2) := by rw [if_neg (show ¬ (false = true) by decide)] at H; exact H
  clear H; have H := H1; clear H1
  simp only [Option.some.injEq, Prod.mk.injEq] at H
  obtain ⟨rfl, rfl⟩ := H
  go_wp2
  go_ret2
  exact ⟨Q10, Q0 HB⟩
end Go.Proofs.Ytcjddikalgnhpaa.P
