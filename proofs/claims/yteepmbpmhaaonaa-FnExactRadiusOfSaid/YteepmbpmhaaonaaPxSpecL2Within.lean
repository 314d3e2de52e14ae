/- Functions of the program as Lean functions, and that each call comes to what they say; written by a program of this session; no conditions beyond those that each theorem names. -/
import Derived.Test.YteepmbpmhaaonaaPx0
import Derived.Test.YteepmbpmhaaonaaPxSpecA
import Derived.Test.YteepmbpmhaaonaaPxSpecL2Dist
namespace Go.Proofs.Yteepmbpmhaaonaa.P
open Go.RowKit Go.Proofs.YteepmbpmhaaonaaW.PrintWords Go.Proofs.YteepmbpmhaaonaaW.PrintLast Go.Proofs.YteepmbpmhaaonaaW.PrintMore
attribute [local go_sem] max2_int min2_int max_two min_two max_three min_three max_four min_four   -- for this text's walks alone
set_option linter.unusedVariables false
set_option linter.unusedSimpArgs false

/-! ### spec_l2Within: function 81 -/
def spec_l2Within.l0 : Nat → Int → List Int → List Int → Int → Int → List (S65) → Option (List Int)
 | 0, _, _, _, _, _, _ => none
 | k + 1, x2, x7, x8, x9, x102000, x102001 => if x9 < x102000 then (if 0 ≤ x9 then (if x9 < (x8.length : Int) then ((spec_l1In.f (rd x8 x9) 0 x2).bind fun t110 => (if t110 = true then (if x7.length < 17592186044416 then (spec_l2Within.l0 k x2 (x7 ++ [x9]) x8 (wrap64 (x9 + 1)) x102000 x102001) else (none)) else (spec_l2Within.l0 k x2 x7 x8 (wrap64 (x9 + 1)) x102000 x102001))) else (none)) else (none)) else (some x7)
def spec_l2Within.f (k : Nat) (a0_0 : Int) (l0_1 : List (S65)) (a1 : Int) (a2 : Int) : Option (List Int) := (spec_l2Dist.f k a0_0 l0_1).bind fun t105 => (if 0 ≤ a1 then (if a1 < (t105.length : Int) then (spec_l2Within.l0 k a2 (([] : List Int)) (rd_L5 t105 a1) 0 a0_0 l0_1) else (none)) else (none))
theorem spec_l2Within.mono_l : ∀ k, (∀ y0 y1 y2 y3 y4 y5, LeO (spec_l2Within.l0 k y0 y1 y2 y3 y4 y5) (spec_l2Within.l0 (k + 1) y0 y1 y2 y3 y4 y5))
 | 0 => fun _ _ _ _ _ _ r h => by simp [spec_l2Within.l0] at h
 | k + 1 => by
  have ih0 := spec_l2Within.mono_l k
  all_goals
   intros
   first | unfold spec_l2Within.l0
   repeat' first | (with_reducible first | exact ih0 _ _ _ _ _ _ | exact spec_l2Dist.mono _ _ _ | exact LeO.refl _ | exact LeO.none _ | refine LeO.ite ?_ ?_ | refine LeO.bind ?_ (fun _ => ?_)) | exact ih0 _ _ _ _ _ _ | exact spec_l2Dist.mono _ _ _ | exact LeO.none _ | refine LeO.ite ?_ ?_ | refine LeO.bind ?_ (fun _ => ?_)
theorem spec_l2Within.mono : ∀ a0 a1 a2 a3 k, LeO (spec_l2Within.f k a0 a1 a2 a3) (spec_l2Within.f (k + 1) a0 a1 a2 a3) := by
 intro a0 a1 a2 a3 k
 have ih0 := spec_l2Within.mono_l k
 unfold spec_l2Within.f
 repeat' first | (with_reducible first | exact ih0 _ _ _ _ _ _ | exact spec_l2Dist.mono _ _ _ | exact LeO.refl _ | exact LeO.none _ | refine LeO.ite ?_ ?_ | refine LeO.bind ?_ (fun _ => ?_)) | exact ih0 _ _ _ _ _ _ | exact spec_l2Dist.mono _ _ _ | exact LeO.none _ | refine LeO.ite ?_ ?_ | refine LeO.bind ?_ (fun _ => ?_)
def spec_l2Within.T1 : Bool × List (List Nat × List Nat) := (true, [([], []), ([], []), ([1], [1]), ([], []), ([2, 3], [2, 3]), ([4], [4]), ([0, 2, 0], [0]), ([5, 6, 0, 1, 2, 3, 4, 5, 6], [5])])
def spec_l2Within.B1 : List Nat := [0, 0, 2, 0, 14, 30, 7, 127]
theorem spec_l2Within.tab1 : rtab .any (opsOf Try.f81 1) = spec_l2Within.T1 := by kernel_rfl
theorem spec_l2Within.bits1 : waitsOk spec_l2Within.T1.2 spec_l2Within.B1 = true := by kernel_rfl
set_option maxHeartbeats 8000000 in
set_option maxRecDepth 100000 in
theorem spec_l2Within.calls (k : Nat) (a0_0 : Int) (A0_1 : Option Addr) (c0_1 : Nat) (l0_1 : List (S65)) (a1 : Int) (a2 : Int) (r : List Int) (w : World) (hr0_1 : Kd.C k65 w A0_1 l0_1.length l0_1) (hc0_1 : l0_1.length ≤ c0_1) (h : spec_l2Within.f k a0_0 l0_1 a1 a2 = some r) :
  Calls Try.prog 81 #[.agg #[.int .i64 a0_0, .slice A0_1 l0_1.length c0_1], .int .i64 a1, .int .i64 a2] w fun e w' => ∃ v0_ : Value, e = .returned (v0_) ∧ Kd.R (Kd.int .i64) 3 w' w.heap.size (fun _ => True) v0_ r ∧ Below w.heap.size w w' := by
 have hu29 := Try.underlying29
 have HR0_1 := Aside0.mk hr0_1
 have HC0_1 := Aside0.mk hc0_1
 clear hr0_1 hc0_1
 have HB := Aside0.mk (Below.refl w.heap.size w)
 have H : ((spec_l2Dist.f k a0_0 l0_1).bind fun t105 => (if 0 ≤ a1 then (if a1 < (t105.length : Int) then (spec_l2Within.l0 k a2 (([] : List Int)) (rd_L5 t105 a1) 0 a0_0 l0_1) else (none)) else (none))) = some r := h
 clear h
 obtain ⟨y102, hy102⟩ : ∃ y_ : List Int, y_ = (([] : List Int)) := ⟨_, rfl⟩
 replace H : ((spec_l2Dist.f k a0_0 l0_1).bind fun t105 => (if 0 ≤ a1 then (if a1 < (t105.length : Int) then (spec_l2Within.l0 k a2 y102 (rd_L5 t105 a1) 0 a0_0 l0_1) else (none)) else (none))) = some r := by first | (rw [hy102]; with_reducible exact H) | (have H2_ := (Option.bind_some _ _).symm.trans H; rw [hy102]; with_reducible exact H2_) | (have H2_ := (Option.bind_some _ _).symm.trans H; with_reducible exact H2_) | with_reducible exact H | (rw [hy102]; exact H) | exact H
 have Ny102 := Aside0.mk hy102
 clear hy102
 replace H := Option.bind_eq_some_iff.mp H
 obtain ⟨t105, A40, H⟩ := H
 replace H : (if 0 ≤ a1 then (if a1 < (t105.length : Int) then (spec_l2Within.l0 k a2 y102 (rd_L5 t105 a1) 0 a0_0 l0_1) else (none)) else (none)) = some r := H
 have A4 := Aside0.mk A40
 clear A40
 by_cases c5 : 0 ≤ a1
 ·rw [if_pos c5] at H
  have c5b0 : decide (0 ≤ a1) = true := decide_eq_true c5
  clear c5
  by_cases c6 : a1 < (t105.length : Int)
  ·rw [if_pos c6] at H
   have c6b0 : decide (a1 < (t105.length : Int)) = true := decide_eq_true c6
   clear c6
   have H' := Aside0.mk H
   clear H
   go_enter Try.func81, Try.ntmps81
   try go_wp2_with (first | ((with_reducible refine gate_dst (N := 3) rfl ?_); refine box_event ?hg (N := 3) ?hd (cs := #[.int .i64 a0_0, .slice A0_1 l0_1.length c0_1]) (t := 29) ?hr ?_; (case hd => rfl); (case hg => rfl); (case hr => first | (go_simp; done) | (go_simp; rfl)); intro gb101 hg w7 hbox hb; have n0_ := Aside0.mk (below_step (by repeat (first | (with_reducible first | exact HB.out | apply below_alloc | apply pw_below_drewN | apply below_drew1) | exact HB.out)) hb); have n1_ := Aside0.mk (hbox); have n2_ := Aside0.mk ((by rw [hg]; exact (below_size (by repeat (first | (with_reducible first | exact HB.out | apply below_alloc | apply pw_below_drewN | apply below_drew1) | exact HB.out))) : w.heap.size ≤ gb101)); have n3_ := Aside0.mk ((by rw [hg]; exact (below_size (by repeat (first | (with_reducible first | exact HB.out | apply below_alloc | apply pw_below_drewN | apply below_drew1) | exact HB.out))) : w.heap.size ≤ gb101)); clear HB; have HB := n0_; have BK101 := n1_; have GW101 := n2_; have GE101 := n3_; clear n0_ n1_ n2_ n3_; clear hb hbox hg))
   have n0_ := Aside0.mk (blk_drew BK101.out)
   have n1_ := Aside0.mk (below_drew1 HB.out)
   clear BK101
   clear HB
   have BK101 := n0_
   have HB := n1_
   clear n0_ n1_
   have p108 : 0 ≤ (a1 : Int) := of_decide_eq_true (by first | (with_reducible assumption) | assumption)
   have q108 : a1 < (t105.length : Int) := of_decide_eq_true (by first | (with_reducible assumption) | assumption)
   replace p108 := eq_true p108
   replace q108 := eq_true q108
   refine start_ (n := 8) (S := fun w' => True) (ds := []) #[false, false, false, false, false, false, false, false] (by kernel_rfl) rfl rfl trivial (fun hHeld => ?_); refine with_tabW spec_l2Within.tab1 spec_l2Within.bits1 (fun HT_ HW_ => ?_)
   generalize w7.drew = w8 at BK101 HB hHeld ⊢
   refine pure_ (i := 3) (N := some 13) (v := ?_) (a' := ?_) #[false, false, false, true, false, false, false, false] rfl rfl (any_of HT_.out (by kernel_rfl)) (fun _ _ _ h => h) (Or.inl ⟨by rfl, ?_⟩) ?_ ?_
   rotate_left
   ·intro w'
    go_simp
    with_reducible rfl
   rotate_left
   ·simp only [Act.put, List.setIfInBounds_toArray, List.set_cons_zero, List.set_cons_succ, i64_w, i32_w]
    rfl
   refine inv_at [0, 1, 2, 4, 5, 6, 7] (fun a0_ b a w' => ∃ (v103 : Value) (v106 : Value) (m4_ m5_ m7_ m6_ : Value), a = putSel a0_ b [(0, 10, v103), (1, 11, .agg #[.int .i64 a0_0, .slice A0_1 l0_1.length c0_1]), (2, 12, v106), (4, 14, m4_), (5, 15, m5_), (6, 7, m6_), (7, 8, m7_)] ∧ (w'.heap[gb101]? = some (.cells #[.int .i64 a0_0, .slice A0_1 l0_1.length c0_1] 29 (0, 0))) ∧ (Below w.heap.size w w') ∧ (b 0 = true → Kd.R (Kd.int .i64) 3 w' w.heap.size (fun _ => True) v103 y102) ∧ (b 2 = true → Kd.S (Kd.slice 3 (Kd.int .i64)) 25 w' w.heap.size (fun _ => True) v106 t105) ∧ (b 6 = true → (m6_ : Value) = v103) ∧ (b 4 = true → ∃ ad c_, v106 = .slice (some ad) t105.length c_ ∧ m4_ = .pointer (some (ad.add (a1).toNat))) ∧ (b 5 = true → ∃ ad c_, v106 = .slice (some ad) t105.length c_ ∧ w'.cell? (ad.add (a1).toNat) = some m5_) ∧ (b 7 = true → m7_ = m5_) ∧ (b 0 = true → b 2 = true → Kd.S (Kd.slice 3 (Kd.int .i64)) 25 w' w.heap.size (fun k => True ∧ some k ≠ v103.ownBlock) v106 t105)) HT_.out HW_.out (by kernel_rfl) (by kernel_rfl) ?_ ?_ ?_
   ·exact ⟨.bool false, .bool false, .bool false, .bool false, .bool false, .bool false, by simp only [putSel, Bool.false_eq_true, if_false], BK101.out, HB.out, fun h_ => absurd h_ (by decide), fun h_ => absurd h_ (by decide), fun h_ => absurd h_ (by decide), fun h_ => absurd h_ (by decide), fun h_ => absurd h_ (by decide), fun h_ => absurd h_ (by decide), fun h_ => absurd h_ (by decide)⟩
   ·skip
    clear BK101 HB
    refine steps_cons ?_ ?_
    ·rintro b a w' ⟨v103, v106, m4_, m5_, m7_, m6_, ha, Q_BK101, Q_HB, Q_HO104, Q_HO107, Q_X6_, Q_4, Q_5, Q_7, Q_D⟩ hb_ hon hoff
     refine ⟨_, rfl, fun K hK => ?_⟩
     replace ha := Aside0.mk ha
     have BK101 := Aside0.mk Q_BK101
     have HB := Aside0.mk Q_HB
     refine Kd.R_lit_step (Kd.int .i64) _ 3 ?hg (N := 10) ?hd (xs := ([] : List Int)) (inner := []) (ok := fun _ => True) (okp := fun _ => True) ?hr ?hp (fun _ hk => hk) trivial (Below.refl _ _) (Nat.le_refl _) (by simp) ?_; (case hd => rfl); (case hg => rfl); (case hr => first | (go_simp; done) | (go_simp; rfl)); (case hp => exact (Reps.none _ _))
     intro v103 w9 ho10 hb hg_ hnew_
     clear hg_ hnew_
     (first | rw [← Ny102.out] at ho10 | (simp only [Int.reduceToNat] at ho10; rw [← Ny102.out] at ho10))
     have n0_ := Aside0.mk (Kd.R_lower ho10 (below_size (by repeat (first | (with_reducible first | exact HB.out | apply below_alloc | apply pw_below_drewN | apply below_drew1) | exact HB.out))))
     have n1_ := Aside0.mk (blk_below (g := gb101) (o := .cells #[.int .i64 a0_0, .slice A0_1 l0_1.length c0_1] 29 (0, 0)) (by (with_reducible repeat (first | refine blk_drewN ?_ _ | refine blk_drew ?_ | refine blk_alloc ?_ _)); exact BK101.out) hb)
     have n2_ := Aside0.mk (below_step (by repeat (first | (with_reducible first | exact HB.out | apply below_alloc | apply pw_below_drewN | apply below_drew1) | exact HB.out)) hb)
     have z_HO107 := fun (h0_ : b 2 = true) => (show Kd.S (Kd.slice 3 (Kd.int .i64)) 25 w9 w.heap.size (fun _ => True) v106 t105 from by first | exact (Kd.S_elder' (by (with_reducible repeat (first | apply Kd.S_alloc | apply Kd.S_drewN | apply Kd.S_drew)); exact (Q_HO107 h0_)) (Kd.R_base ho10) hb) | exact Kd.S_mono (Kd.S_elder' (by (with_reducible repeat (first | apply Kd.S_alloc | apply Kd.S_drewN | apply Kd.S_drew)); exact (Q_HO107 h0_)) (Kd.R_base ho10) hb) (fun _ h_ => by first | trivial | exact h_ | exact h_.1))
     have z_D := fun (h2_ : b 2 = true) => Kd.S_elder' (Q_HO107 h2_) (Kd.R_base ho10) hb
     have z_5 := fun (h0_ : b 5 = true) => (show ∃ ad c_, v106 = .slice (some ad) t105.length c_ ∧ w9.cell? (ad.add (a1).toNat) = some m5_ from by obtain ⟨ad, c_, e_, hc_⟩ := Q_5 h0_; exact ⟨ad, c_, e_, (hb.cell (World.block_lt_of_cell? _ _ hc_)).trans hc_⟩)
     clear BK101
     clear HB
     have HO104 := n0_
     have BK101 := n1_
     have HB := n2_
     clear n0_ n1_ n2_
     clear hb ho10
     refine hK.out _ _ ⟨v103, v106, m4_, m5_, m7_, m6_, (by rw [ha.out]; exact putSel_upk 0 hb_ rfl rfl rfl), (by (with_reducible repeat (first | refine blk_drewN ?_ _ | refine blk_drew ?_ | refine blk_alloc ?_ _)); exact BK101.out), (by repeat (first | (with_reducible first | exact HB.out | apply below_alloc | apply pw_below_drewN | apply below_drew1) | exact HB.out)), fun _ => (by (with_reducible repeat (first | apply Kd.R_alloc | apply Kd.R_drewN | apply Kd.R_drew)); exact HO104.out), z_HO107, fun h0_ => absurd ((hoff 6 (by kernel_rfl)).symm.trans h0_) (by decide), Q_4, z_5, Q_7, fun _ h2_ => z_D h2_⟩
    refine steps_cons ?_ ?_
    ·rintro b a w' ⟨v103, v106, m4_, m5_, m7_, m6_, ha, Q_BK101, Q_HB, Q_HO104, Q_HO107, Q_X6_, Q_4, Q_5, Q_7, Q_D⟩ hb_ hon hoff
     refine ⟨_, rfl, fun K hK => ?_⟩
     have e3 : a.tmps[3]? = some (.pointer (some ⟨gb101, 0, none⟩)) := by rw [ha]; exact (putSel_off rfl).trans rfl
     replace ha := Aside0.mk ha
     have BK101 := Aside0.mk Q_BK101
     have HB := Aside0.mk Q_HB
     have hc0_ : w'.cell? ⟨gb101, 0, none⟩ = some (.int .i64 a0_0) := (blk_cell BK101.out 0).trans rfl
     have hc1_ : w'.cell? ⟨gb101, 1, none⟩ = some (.slice A0_1 l0_1.length c0_1) := (blk_cell BK101.out 1).trans rfl
     refine value_ (w1 := w') (v := .agg #[.int .i64 a0_0, .slice A0_1 l0_1.length c0_1]) (by rfl) rfl ?_ ?_
     ·go_simp
      (try simp only [i64_w])
      try rfl
     refine hK.out _ _ ⟨v103, v106, m4_, m5_, m7_, m6_, (by rw [ha.out]; exact putSel_upk 1 hb_ rfl rfl rfl), Q_BK101, Q_HB, Q_HO104, fun h0_ => absurd ((hoff 2 (by kernel_rfl)).symm.trans h0_) (by decide), fun h0_ => absurd ((hoff 6 (by kernel_rfl)).symm.trans h0_) (by decide), Q_4, Q_5, Q_7, fun _ h0_ => absurd ((hoff 2 (by kernel_rfl)).symm.trans h0_) (by decide)⟩
    refine steps_cons ?_ ?_
    ·rintro b a w' ⟨v103, v106, m4_, m5_, m7_, m6_, ha, Q_BK101, Q_HB, Q_HO104, Q_HO107, Q_X6_, Q_4, Q_5, Q_7, Q_D⟩ hb_ hon hoff
     refine ⟨_, rfl, fun K hK => ?_⟩
     have e11 : a.tmps[11]? = some (.agg #[.int .i64 a0_0, .slice A0_1 l0_1.length c0_1]) := by rw [ha]; exact putSel_on (e := (1, 11, .agg #[.int .i64 a0_0, .slice A0_1 l0_1.length c0_1])) 1 rfl rfl (hon 1 (by kernel_rfl)) rfl
     replace ha := Aside0.mk ha
     have BK101 := Aside0.mk Q_BK101
     have HB := Aside0.mk Q_HB
     refine goes_ Try.func113 (by kernel_rfl) rfl #[.agg #[.int .i64 a0_0, .slice A0_1 l0_1.length c0_1]] (by rfl) rfl rfl (by first | (simp only [List.map_toArray, List.map_cons, List.map_nil, Act.eval, Array.getD_eq_getD_getElem?, Option.getD_some, e11]; done) | (simp only [List.map_toArray, List.map_cons, List.map_nil, Act.eval, Array.getD_eq_getD_getElem?, Option.getD_some, e11]; rfl)) ?_
     with_reducible refine (spec_l2Dist.calls k a0_0 _ _ l0_1 t105 _ ?side1 ?side2 A4.out).mono ?_
     (case side1 => repeat (first | exact (Kd.C_below HR0_1.out HB.out) | (with_reducible refine Kd.C_alloc ?_ _) | (with_reducible refine Kd.C_drewN ?_ _) | (with_reducible refine Kd.C_drew ?_)))
     (case side2 => exact HC0_1.out)
     rintro e w9 ⟨v106, rfl, ho0, hb⟩
     refine ⟨_, rfl, ?_⟩
     have z_D := fun (h0_ : b 0 = true) => Kd.S_lower (Kd.S_new' ho0 (Kd.R_lt (Q_HO104 h0_))) (below_size HB.out)
     have n0_ := Aside0.mk (Kd.S_lower ho0 (below_size (by repeat (first | (with_reducible first | exact HB.out | apply below_alloc | apply pw_below_drewN | apply below_drew1) | exact HB.out))))
     have n1_ := Aside0.mk (blk_below (g := gb101) (o := .cells #[.int .i64 a0_0, .slice A0_1 l0_1.length c0_1] 29 (0, 0)) (by (with_reducible repeat (first | refine blk_drewN ?_ _ | refine blk_drew ?_ | refine blk_alloc ?_ _)); exact BK101.out) hb)
     have n2_ := Aside0.mk (below_step (by repeat (first | (with_reducible first | exact HB.out | apply below_alloc | apply pw_below_drewN | apply below_drew1) | exact HB.out)) hb)
     have z_HO104 := fun (h0_ : b 0 = true) => (show Kd.R (Kd.int .i64) 3 w9 w.heap.size (fun _ => True) v103 y102 from by first | exact (Kd.R_below (by (with_reducible repeat (first | apply Kd.R_alloc | apply Kd.R_drewN | apply Kd.R_drew)); exact (Q_HO104 h0_)) hb) | exact Kd.R_mono (Kd.R_below (by (with_reducible repeat (first | apply Kd.R_alloc | apply Kd.R_drewN | apply Kd.R_drew)); exact (Q_HO104 h0_)) hb) (fun _ h_ => by first | trivial | exact h_ | exact h_.1))
     clear BK101
     clear HB
     have HO107 := n0_
     have BK101 := n1_
     have HB := n2_
     clear n0_ n1_ n2_
     (try clear hb)
     (try clear hb2)
     (try clear hk)
     (try clear hi)
     (try clear ho0)
     refine hK.out _ _ ⟨v103, v106, m4_, m5_, m7_, m6_, (by rw [ha.out]; exact putSel_upk 2 hb_ rfl rfl rfl), (by (with_reducible repeat (first | refine blk_drewN ?_ _ | refine blk_drew ?_ | refine blk_alloc ?_ _)); exact BK101.out), (by repeat (first | (with_reducible first | exact HB.out | apply below_alloc | apply pw_below_drewN | apply below_drew1) | exact HB.out)), z_HO104, fun _ => (by (with_reducible repeat (first | apply Kd.S_alloc | apply Kd.S_drewN | apply Kd.S_drew)); exact HO107.out), fun h0_ => absurd ((hoff 6 (by kernel_rfl)).symm.trans h0_) (by decide), fun h0_ => absurd ((hoff 4 (by kernel_rfl)).symm.trans h0_) (by decide), fun h0_ => absurd ((hoff 5 (by kernel_rfl)).symm.trans h0_) (by decide), fun h0_ => absurd ((hoff 7 (by kernel_rfl)).symm.trans h0_) (by decide), fun h0_ _ => z_D h0_⟩
    refine steps_cons ?_ ?_
    ·rintro b a w' ⟨v103, v106, m4_, m5_, m7_, m6_, ha, Q_BK101, Q_HB, Q_HO104, Q_HO107, Q_X6_, Q_4, Q_5, Q_7, Q_D⟩ hb_ hon hoff
     refine ⟨_, rfl, fun K hK => ?_⟩
     have e12 : a.tmps[12]? = some (v106) := by rw [ha]; exact putSel_on (e := (2, 12, v106)) 2 rfl rfl (hon 2 (by kernel_rfl)) rfl
     have e13 : a.tmps[13]? = some (.int .i64 a1) := by rw [ha]; exact (putSel_off rfl).trans rfl
     replace ha := Aside0.mk ha
     have BK101 := Aside0.mk Q_BK101
     have HB := Aside0.mk Q_HB
     have HO107 := Aside0.mk (Q_HO107 (hon 2 (by kernel_rfl)))
     obtain ⟨Az_, cz_, hv_⟩ := Kd.S_slice HO107.out
     subst hv_
     obtain ⟨adz_, A0z_, c0z_, eAz_, hcz_, _, _⟩ := at_L5 (Kd.S_reads' HO107.out).2.2 a1 (of_eq_true p108) (of_eq_true q108)
     subst eAz_
     refine value_ (w1 := w') (v := .pointer (some (adz_.add (a1).toNat))) (by rfl) rfl ?_ ?_
     ·go_simp
      (try simp only [i64_w])
      try rfl
     refine hK.out _ _ ⟨v103, _, _, m5_, m7_, m6_, (by rw [ha.out]; exact putSel_upk 3 hb_ rfl rfl rfl), Q_BK101, Q_HB, Q_HO104, Q_HO107, Q_X6_, fun _ => ⟨adz_, cz_, rfl, rfl⟩, Q_5, Q_7, Q_D⟩
    refine steps_cons ?_ ?_
    ·rintro b a w' ⟨v103, v106, m4_, m5_, m7_, m6_, ha, Q_BK101, Q_HB, Q_HO104, Q_HO107, Q_X6_, Q_4, Q_5, Q_7, Q_D⟩ hb_ hon hoff
     refine ⟨_, rfl, fun K hK => ?_⟩
     have e14 : a.tmps[14]? = some m4_ := by rw [ha]; exact putSel_on (e := (4, 14, m4_)) 3 rfl rfl (hon 4 (by kernel_rfl)) rfl
     replace ha := Aside0.mk ha
     have BK101 := Aside0.mk Q_BK101
     have HB := Aside0.mk Q_HB
     have HO107 := Aside0.mk (Q_HO107 (hon 2 (by kernel_rfl)))
     obtain ⟨adq_, cq_, hv_, rfl⟩ := Q_4 (hon 4 (by kernel_rfl))
     subst hv_
     obtain ⟨adz_, A108_0, c108_0, eAz_, hcz_, _, _⟩ := at_L5 (Kd.S_reads' HO107.out).2.2 a1 (of_eq_true p108) (of_eq_true q108)
     cases eAz_
     have hs0_ := hcz_
     refine value_ (w1 := w') (v := .slice A108_0 (rd_L5 t105 a1).length c108_0) (by rfl) rfl ?_ ?_
     ·go_simp
      (try simp only [i64_w])
      try rfl
     refine hK.out _ _ ⟨v103, _, _, .slice A108_0 (rd_L5 t105 a1).length c108_0, m7_, m6_, (by rw [ha.out]; exact putSel_upk 4 hb_ rfl rfl rfl), Q_BK101, Q_HB, Q_HO104, Q_HO107, Q_X6_, Q_4, fun _ => ⟨_, _, rfl, hcz_⟩, fun h0_ => absurd ((hoff 7 (by kernel_rfl)).symm.trans h0_) (by decide), Q_D⟩
    refine steps_cons ?_ ?_
    ·rintro b a w' ⟨v103, v106, m4_, m5_, m7_, m6_, ha, Q_BK101, Q_HB, Q_HO104, Q_HO107, Q_X6_, Q_4, Q_5, Q_7, Q_D⟩ hb_ hon hoff
     refine ⟨_, rfl, fun K hK => ?_⟩
     have e10 : a.tmps[10]? = some (v103) := by rw [ha]; exact putSel_on (e := (0, 10, v103)) 0 rfl rfl (hon 0 (by kernel_rfl)) rfl
     replace ha := Aside0.mk ha
     have BK101 := Aside0.mk Q_BK101
     have HB := Aside0.mk Q_HB
     have HO104 := Aside0.mk (Q_HO104 (hon 0 (by kernel_rfl)))
     have HO107 := Aside0.mk (Q_HO107 (hon 2 (by kernel_rfl)))
     refine value_ (w1 := w') (v := v103) (by rfl) rfl ?_ ?_
     ·go_simp
      (try simp only [i64_w])
      try rfl
     refine hK.out _ _ ⟨v103, v106, m4_, m5_, m7_, v103, (by rw [ha.out]; exact putSel_upk 5 hb_ rfl rfl rfl), Q_BK101, Q_HB, Q_HO104, Q_HO107, fun _ => rfl, Q_4, Q_5, Q_7, Q_D⟩
    refine steps_cons ?_ ?_
    ·rintro b a w' ⟨v103, v106, m4_, m5_, m7_, m6_, ha, Q_BK101, Q_HB, Q_HO104, Q_HO107, Q_X6_, Q_4, Q_5, Q_7, Q_D⟩ hb_ hon hoff
     refine ⟨_, rfl, fun K hK => ?_⟩
     have e15 : a.tmps[15]? = some (m5_) := by rw [ha]; exact putSel_on (e := (5, 15, m5_)) 4 rfl rfl (hon 5 (by kernel_rfl)) rfl
     replace ha := Aside0.mk ha
     have BK101 := Aside0.mk Q_BK101
     have HB := Aside0.mk Q_HB
     have HO104 := Aside0.mk (Q_HO104 (hon 0 (by kernel_rfl)))
     have HO107 := Aside0.mk (Q_HO107 (hon 2 (by kernel_rfl)))
     refine value_ (w1 := w') (v := m5_) (by rfl) rfl ?_ ?_
     ·go_simp
      (try simp only [i64_w])
      try rfl
     refine hK.out _ _ ⟨v103, v106, m4_, m5_, m5_, m6_, (by rw [ha.out]; exact putSel_upk 6 hb_ rfl rfl rfl), Q_BK101, Q_HB, Q_HO104, Q_HO107, Q_X6_, Q_4, Q_5, fun _ => rfl, Q_D⟩
    exact steps_nil
   rintro b a w12 hall ⟨v103, v106, m4_, m5_, m7_, m6_, ha, Q_BK101, Q_HB, Q_HO104, Q_HO107, Q_X6_, Q_4, Q_5, Q_7, Q_D⟩
   clear BK101 HB
   have hb0_ := hall 0 (by kernel_rfl)
   have hb0_' := hb0_
   have hb1_ := hall 1 (by kernel_rfl)
   have hb2_ := hall 2 (by kernel_rfl)
   have hb2_' := hb2_
   have hb4_ := hall 4 (by kernel_rfl)
   have hb5_ := hall 5 (by kernel_rfl)
   have hb6_ := hall 6 (by kernel_rfl)
   have hb7_ := hall 7 (by kernel_rfl)
   subst ha
   obtain rfl := Q_X6_ hb6_
   obtain rfl := Q_7 hb7_
   obtain ⟨adz_, cz_, hvz_, hcz_⟩ := Q_5 hb5_
   clear Q_5 Q_7 Q_X6_
   subst hvz_
   obtain ⟨adw_, cw_, hvw_, hmw_⟩ := Q_4 hb4_
   subst hmw_
   clear Q_4 hvw_
   have QC_ := Aside0.mk hcz_
   clear hcz_
   simp only [putSel, hb0_, hb1_, hb2_, hb4_, hb5_, hb6_, hb7_, if_true, Act.put, List.setIfInBounds_toArray, List.set_cons_zero, List.set_cons_succ]
   have BK101 := Aside0.mk Q_BK101
   clear Q_BK101
   have HB := Aside0.mk Q_HB
   clear Q_HB
   have HO104 := Aside0.mk (Q_HO104 hb0_)
   clear Q_HO104
   have HO107 := Aside0.mk (Q_HO107 hb2_)
   clear Q_HO107
   clear hall hb0_ hb1_ hb2_ hb4_ hb5_ hb6_ hb7_
   have HD_ := Aside0.mk (Q_D hb0_' hb2_')
   clear Q_D
   obtain ⟨Ao13, co13, eo13⟩ := Kd.S_slice HO107.out
   (first | subst eo13 | (injection eo13 with f1_ f2_ f3_; have f4_ := f1_.symm; have f5_ := f3_.symm; clear f1_ f2_ f3_; subst f4_; subst f5_))
   replace p108 := of_eq_true p108
   replace q108 := of_eq_true q108
   obtain ⟨ad108, A108_0, c108_0, e108, hx108_0, hl108_0, hi108_0⟩ := at_L5 (Kd.S_reads' HO107.out).2.2 a1 p108 q108
   cases e108
   have qm_ := Option.some.inj (QC_.out.symm.trans hx108_0)
   subst qm_
   clear QC_
   obtain ⟨ce108, hce108, hMe108, hcc108⟩ := Kd.S_get HD_.out [] a1 p108 (by first | exact q108 | exact of_decide_eq_true (by first | (with_reducible assumption) | assumption) | (have e_ := (Kd.S_reads' HO107.out).1; omega))
   obtain ⟨ve108_0, rfl, ge108_0⟩ := hMe108
   have hv108_0 := hcc108 0 _ rfl
   rw [Nat.add_zero, show ((Kd.slice 3 (Kd.int .i64))).sz = 1 from rfl, Nat.mul_one] at hv108_0
   replace hv108_0 := Option.some.inj (hv108_0.symm.trans hx108_0)
   rw [hv108_0] at ge108_0
   have HL108_0 := Aside0.mk (show Kd.R (Kd.int .i64) 3 _ _ (fun k => True ∧ some k ≠ m6_.ownBlock) _ (rd_L5 t105 a1) from Kd.R_mono ge108_0 (fun _ h_ => h_.1))
   clear hv108_0 ge108_0
   clear hcc108 hce108
   have HR108_0 := Aside0.mk hi108_0
   have HC108_0 := Aside0.mk hl108_0
   clear hi108_0 hl108_0
   replace p108 := eq_true p108
   replace q108 := eq_true q108
   try go_wp2
   go_loopg [7, 9] k (fun kq v7 v9 w' => ∃ (x7_1 : List Int) (x9_1 : Int), v9 = .int .i64 x9_1 ∧ Aside0 (spec_l2Within.l0 kq a2 x7_1 (rd_L5 t105 a1) x9_1 a0_0 l0_1 = some r) ∧ Aside0 (kq ≤ k) ∧ Aside0 (Kd.R (Kd.int .i64) 3 w' w.heap.size (fun _ => True) v7 x7_1) ∧ Aside0 (w'.heap[gb101]? = some (.cells #[.int .i64 a0_0, (.slice A0_1 l0_1.length c0_1)] 29 (0, 0))) ∧ Aside0 (Below w.heap.size w w') ∧ Aside0 (Kd.R (Kd.int .i64) 3 w' w.heap.size (fun k => True ∧ some k ≠ v7.ownBlock) (.slice A108_0 (rd_L5 t105 a1).length c108_0) (rd_L5 t105 a1)))
   case atStart => exact ⟨(y102), (0), (by first | rfl | (simp; done) | (simp [*]; done)), H', ⟨Nat.le_refl _⟩, ⟨by (with_reducible repeat (first | apply Kd.R_alloc | apply Kd.R_drewN | apply Kd.R_drew)); exact HO104.out⟩, ⟨by (with_reducible repeat (first | refine blk_drewN ?_ _ | refine blk_drew ?_ | refine blk_alloc ?_ _)); exact BK101.out⟩, ⟨by repeat (first | (with_reducible first | exact HB.out | apply below_alloc | apply pw_below_drewN | apply below_drew1) | exact HB.out)⟩, ⟨by (with_reducible repeat (first | apply Kd.R_alloc | apply Kd.R_drewN | apply Kd.R_drew)); exact HL108_0.out⟩⟩
   case round =>
    clear H'
    try clear c1
    try clear p1
    try clear q1
    try clear hx1
    try clear p2
    try clear c5
    try clear c5b0
    try clear c6
    try clear c6b0
    try clear c8
    try clear c10
    try clear p10
    try clear q10
    try clear hx10
    try clear c11
    try clear hx108_0
    try clear p108
    try clear q108
    obtain ⟨x7_1, x9_1, rfl, HA, HK1, HO_7, BK101, HB, HRW⟩ := hrel
    cases gk with
    | zero => exact absurd HA.out (by simp [spec_l2Within.l0])
    | succ k1 =>
     have H := HA.out
     clear HA
     simp only [spec_l2Within.l0] at H
     by_cases c14 : x9_1 < a0_0
     ·rw [if_pos c14] at H
      have c14b0 : decide (x9_1 < a0_0) = true := decide_eq_true c14
      clear c14
      by_cases c15 : 0 ≤ x9_1
      ·rw [if_pos c15] at H
       have c15b0 : decide (0 ≤ x9_1) = true := decide_eq_true c15
       clear c15
       by_cases c16 : x9_1 < ((rd_L5 t105 a1).length : Int)
       ·rw [if_pos c16] at H
        have c16b0 : decide (x9_1 < ((rd_L5 t105 a1).length : Int)) = true := decide_eq_true c16
        clear c16
        replace H := Option.bind_eq_some_iff.mp H
        obtain ⟨t110, A170, H⟩ := H
        replace H : (if t110 = true then (if x7_1.length < 17592186044416 then (spec_l2Within.l0 k1 a2 (x7_1 ++ [x9_1]) (rd_L5 t105 a1) (wrap64 (x9_1 + 1)) a0_0 l0_1) else (none)) else (spec_l2Within.l0 k1 a2 x7_1 (rd_L5 t105 a1) (wrap64 (x9_1 + 1)) a0_0 l0_1)) = some r := H
        have A17 := Aside0.mk A170
        clear A170
        have HU18 := Aside0.mk H
        clear H
        have hcz19_0 : wr.cell? ⟨gb101, 0, none⟩ = some (.int .i64 a0_0) := (blk_cell BK101.out 0).trans rfl
        have hcz19_1 : wr.cell? ⟨gb101, 1, none⟩ = some (.slice A0_1 l0_1.length c0_1) := (blk_cell BK101.out 1).trans rfl
        have hfz19_0 := blk_frozen BK101.out 0
        have hfz19_1 := blk_frozen BK101.out 1
        have p109 : 0 ≤ (x9_1 : Int) := of_decide_eq_true (by first | (with_reducible assumption) | assumption)
        have q109 : x9_1 < ((rd_L5 t105 a1).length : Int) := of_decide_eq_true (by first | (with_reducible assumption) | assumption)
        obtain ⟨ad109, e109, hx109_0⟩ := Kd.at_int (Kd.R_reads' HRW.out).2.2 x9_1 p109 q109
        cases e109
        replace p109 := eq_true p109
        replace q109 := eq_true q109
        go_upto_if 27 with (first | ((with_reducible refine gate_callee (f := 95) rfl ?_); refine goesL_ (some 27) rfl rfl Try.func95 (by kernel_rfl) rfl #[.int .i64 (rd (rd_L5 t105 a1) x9_1), .int .i64 0, .int .i64 a2] rfl (by (try simp only [List.map_toArray, List.map_cons, List.map_nil]); first | done | rfl | (simp only [List.length_drop, List.length_take]; rfl)) ?_; (with_reducible refine (spec_l1In.calls (rd (rd_L5 t105 a1) x9_1) 0 a2 t110 _ A17.out).mono ?_); rintro e w' ⟨rfl, ⟨nd, rfl⟩⟩; refine ⟨_, rfl, ?_⟩))
        (try simp only [Act.put, List.setIfInBounds_toArray, List.set_cons_zero, List.set_cons_succ])
        have H := HU18.out
        clear HU18
        by_cases c20 : t110 = true
        ·subst c20
         have H1 : (if x7_1.length < 17592186044416 then (spec_l2Within.l0 k1 a2 (x7_1 ++ [x9_1]) (rd_L5 t105 a1) (wrap64 (x9_1 + 1)) a0_0 l0_1) else (none)) = some r := by rw [if_pos rfl] at H; exact H
         clear H
         have H := H1
         clear H1
         by_cases c21 : x7_1.length < 17592186044416
         ·rw [if_pos c21] at H
          have LMc21 := Aside0.mk c21
          clear c21
          obtain ⟨y111, hy111⟩ : ∃ y_ : List Int, y_ = (x7_1 ++ [x9_1]) := ⟨_, rfl⟩
          replace H : (spec_l2Within.l0 k1 a2 y111 (rd_L5 t105 a1) (wrap64 (x9_1 + 1)) a0_0 l0_1) = some r := by first | (rw [hy111]; with_reducible exact H) | (have H2_ := (Option.bind_some _ _).symm.trans H; rw [hy111]; with_reducible exact H2_) | (have H2_ := (Option.bind_some _ _).symm.trans H; with_reducible exact H2_) | with_reducible exact H | (rw [hy111]; exact H) | exact H
          have Ny111 := Aside0.mk hy111
          clear hy111
          have H' := Aside0.mk H
          clear H
          go_wp2_with (first | ((with_reducible refine gate_builtin (b := .append) (xs := #[.tmp 28, .tmp 30]) rfl ?_); at_builtin; refine Kd.R_append (Kd.int .i64) (w0 := w) w.heap.size rfl (.tmp 28) (.tmp 30) 25 3 (.int .i64 0) 8 rfl Try.underlying25 info3 rfl (by decide) (by omega) u7 x7_1 x9_1 [.int .i64 x9_1] (fun _ => True) (fun _ => False) rfl rfl ?aP (fun _ hk => hk.elim) ?aF ?aO ?aB ?aS ?aL ?_; (case aP => exact rfl); (case aB => exact (by repeat (first | (with_reducible first | exact HB.out | apply below_alloc | apply pw_below_drewN | apply below_drew1) | exact HB.out))); (case aF => exact (fun _ _ => trivial)); (case aO => exact (by (with_reducible repeat (first | apply Kd.R_alloc | apply Kd.R_drewN | apply Kd.R_drew)); exact HO_7.out)); (case aS => exact (below_size (by repeat (first | (with_reducible first | exact HB.out | apply below_alloc | apply pw_below_drewN | apply below_drew1) | exact HB.out)))); (case aL => have := LMc21.out; omega); intro v112 w22 ho hb hg hat; rw [← Ny111.out] at ho; have n0_ := Aside0.mk (blk_grown (g := gb101) (o := .cells #[.int .i64 a0_0, .slice A0_1 l0_1.length c0_1] 29 (0, 0)) (by (with_reducible repeat (first | refine blk_drewN ?_ _ | refine blk_drew ?_ | refine blk_alloc ?_ _)); exact BK101.out) hg (Kd.R_ne HO_7.out BK101.out (by decide))); have n1_ := Aside0.mk (hb); have n2_ := Aside0.mk (ho); have n3_ := Aside0.mk (Kd.R_after (by (with_reducible repeat (first | apply Kd.R_alloc | apply Kd.R_drewN | apply Kd.R_drew)); exact HRW.out) hg hat); clear BK101; clear HB; clear HO_7; clear HRW; have BK101 := n0_; have HB := n1_; have HO113 := n2_; have HRW := n3_; clear n0_ n1_ n2_ n3_; clear ho hb hg hat))
          go_roundg k1
          case measure => have := HK1.out; omega
          case rel => exact ⟨(y111), (wrap64 (x9_1 + 1)), (by first | rfl | (simp; done) | (simp [*]; done)), H', ⟨by have := HK1.out; omega⟩, ⟨by (with_reducible repeat (first | apply Kd.R_alloc | apply Kd.R_drewN | apply Kd.R_drew)); exact HO113.out⟩, ⟨by (with_reducible repeat (first | refine blk_drewN ?_ _ | refine blk_drew ?_ | refine blk_alloc ?_ _)); exact BK101.out⟩, ⟨by repeat (first | (with_reducible first | exact HB.out | apply below_alloc | apply pw_below_drewN | apply below_drew1) | exact HB.out)⟩, ⟨by (with_reducible repeat (first | apply Kd.R_alloc | apply Kd.R_drewN | apply Kd.R_drew)); exact HRW.out⟩⟩
         ·rw [if_neg c21] at H
          exact absurd H (by simp)
        ·replace c20 := Bool.eq_false_iff.mpr c20
         subst c20
         have H1 : (spec_l2Within.l0 k1 a2 x7_1 (rd_L5 t105 a1) (wrap64 (x9_1 + 1)) a0_0 l0_1) = some r := by rw [if_neg (show ¬ (false = true) by decide)] at H; exact H
         clear H
         have H := H1
         clear H1
         have H' := Aside0.mk H
         clear H
         go_wp2
         go_roundg k1
         case measure => have := HK1.out; omega
         case rel => exact ⟨(x7_1), (wrap64 (x9_1 + 1)), (by first | rfl | (simp; done) | (simp [*]; done)), H', ⟨by have := HK1.out; omega⟩, ⟨by (with_reducible repeat (first | apply Kd.R_alloc | apply Kd.R_drewN | apply Kd.R_drew)); exact HO_7.out⟩, ⟨by (with_reducible repeat (first | refine blk_drewN ?_ _ | refine blk_drew ?_ | refine blk_alloc ?_ _)); exact BK101.out⟩, ⟨by repeat (first | (with_reducible first | exact HB.out | apply below_alloc | apply pw_below_drewN | apply below_drew1) | exact HB.out)⟩, ⟨by (with_reducible repeat (first | apply Kd.R_alloc | apply Kd.R_drewN | apply Kd.R_drew)); exact HRW.out⟩⟩
       ·rw [if_neg c16] at H
        exact absurd H (by simp)
      ·rw [if_neg c15] at H
       exact absurd H (by simp)
     ·rw [if_neg c14] at H
      have c14b0 : decide (x9_1 < a0_0) = false := decide_eq_false c14
      clear c14
      obtain rfl := Option.some.inj H
      have hcz23_0 : wr.cell? ⟨gb101, 0, none⟩ = some (.int .i64 a0_0) := (blk_cell BK101.out 0).trans rfl
      have hcz23_1 : wr.cell? ⟨gb101, 1, none⟩ = some (.slice A0_1 l0_1.length c0_1) := (blk_cell BK101.out 1).trans rfl
      have hfz23_0 := blk_frozen BK101.out 0
      have hfz23_1 := blk_frozen BK101.out 1
      go_wp2
      go_ret
      exact ⟨_, by first | rfl | (simp [errW_none, errW_some] <;> rfl) | (simp [*, errW_none, errW_some] <;> rfl), by (with_reducible repeat (first | apply Kd.R_alloc | apply Kd.R_drewN | apply Kd.R_drew)); exact HO_7.out, by repeat (first | (with_reducible first | exact HB.out | apply below_alloc | apply pw_below_drewN | apply below_drew1) | exact HB.out)⟩
  ·rw [if_neg c6] at H
   exact absurd H (by simp)
 ·rw [if_neg c5] at H
  exact absurd H (by simp)

end Go.Proofs.Yteepmbpmhaaonaa.P
