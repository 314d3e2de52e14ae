/- Functions of the program as Lean functions, and that each call comes to what they say; written by a program of this session; no conditions beyond those that each theorem names. -/
import Derived.Test.YteepmbpmhaaonaaPx0
import Derived.Test.YteepmbpmhaaonaaPx1
import Derived.Test.YteepmbpmhaaonaaPx2
import Derived.Test.YteepmbpmhaaonaaPx11
import Derived.Test.YteepmbpmhaaonaaPx19
import Derived.Test.YteepmbpmhaaonaaPx20
import Derived.Test.YteepmbpmhaaonaaPx21
namespace Go.Proofs.Yteepmbpmhaaonaa.P
open Go.RowKit Go.Proofs.YteepmbpmhaaonaaW.PrintWords Go.Proofs.YteepmbpmhaaonaaW.PrintLast Go.Proofs.YteepmbpmhaaonaaW.PrintMore
attribute [local go_sem] max2_int min2_int max_two min_two max_three min_three max_four min_four   -- for this text's walks alone
set_option linter.unusedVariables false
set_option linter.unusedSimpArgs false

/-! ### laws_FnExactInducedGraph: function 11 -/
mutual
def laws_FnExactInducedGraph.j0 : Nat → List Int → Bool → List Int → Bool → Bool → Int → List (S65) → Int → List (S65) → Int → List (S65) → Int → List (S65) → Option (Bool)
 | 0, _, _, _, _, _, _, _, _, _, _, _, _, _ => none
 | k + 1, x1, x7, x9, x11, x51, x437000, x437001, x451000, x451001, x456000, x456001, x465000, x465001 => if x51 = true then (some false) else ((laws_toGraph.f k x437000 x437001).bind fun bt466 => ((laws_eqGraph.f k x456000 x456001 bt466.1 bt466.2).bind fun t470 => (if t470 = true then ((laws_toIntS.f k x1).bind fun t471 => ((laws_eqIntS.f k x9 t471).bind fun t474 => (if t474 = true then ((laws_markGraph.f k x456000 x456001 1).bind fun bt475 => ((laws_markIntS.f k x9 bt475.1).bind fun bt477 => (if bt477.1 < 0 then (laws_FnExactInducedGraph.j1 k x1 x7 true x437000 x437001 x451000 x451001 x465000 x465001) else ((laws_eqGraph.f k x465000 x465001 x451000 x451001).bind fun t479 => (if t479 = true then (laws_FnExactInducedGraph.j1 k x1 x7 (x11 != x7) x437000 x437001 x451000 x451001 x465000 x465001) else (laws_FnExactInducedGraph.j1 k x1 x7 true x437000 x437001 x451000 x451001 x465000 x465001)))))) else (some false)))) else (some false))))
def laws_FnExactInducedGraph.j1 : Nat → List Int → Bool → Bool → Int → List (S65) → Int → List (S65) → Int → List (S65) → Option (Bool)
 | 0, _, _, _, _, _, _, _, _, _ => none
 | k + 1, x1, x7, x80, x437000, x437001, x451000, x451001, x465000, x465001 => if x80 = true then (some false) else ((laws_markGraph.f k x465000 x465001 1).bind fun bt480 => ((laws_heldGraph.f k x465000 bt480.2 1).bind fun t482 => (if t482 < 0 then (some false) else (if t482 = bt480.1 then ((laws_toGraph.f k x437000 x437001).bind fun bt483 => ((laws_toIntS.f k x1).bind fun t487 => ((impl_InducedGraph.f k bt483.1 bt483.2 t487).bind fun bt490 => ((laws_eqGraph.f k bt490.1 bt490.2.1 x451000 x451001).bind fun t496 => (if t496 = true then (laws_FnExactInducedGraph.j2 k bt480.1 (bt490.2.2 != x7) x465000 bt480.2) else (laws_FnExactInducedGraph.j2 k bt480.1 true x465000 bt480.2)))))) else (some false)))))
def laws_FnExactInducedGraph.j2 : Nat → Int → Bool → Int → List (S65) → Option (Bool)
 | 0, _, _, _, _ => none
 | k + 1, x13, x108, x465000, x465001 => if x108 = true then (some false) else ((laws_heldGraph.f k x465000 x465001 1).bind fun t497 => (if t497 < 0 then (some false) else (if t497 = x13 then (some true) else (some false))))
end
def laws_FnExactInducedGraph.f (k : Nat) (a0_0 : Int) (l0_1 : List (S65)) (l1 : List Int) : Option (Bool) := if (l1.length : Int) > 1048576 then (some true) else ((laws_szGraph.f a0_0 l0_1 1048576).bind fun t437 => (if t437 < 0 then (some true) else ((laws_toGraph.f k a0_0 l0_1).bind fun bt438 => ((laws_toIntS.f k l1).bind fun t442 => ((spec_InducedGraph.f k bt438.1 bt438.2 t442).bind fun bt445 => ((laws_toGraph.f k a0_0 l0_1).bind fun bt451 => ((laws_toIntS.f k l1).bind fun t456 => ((impl_InducedGraph.f k bt451.1 bt451.2 t456).bind fun bt459 => ((laws_eqGraph.f k bt459.1 bt459.2.1 bt445.1 bt445.2.1).bind fun t465 => (if t465 = true then (laws_FnExactInducedGraph.j0 k l1 bt445.2.2 t456 bt459.2.2 (bt459.2.2 != bt445.2.2) a0_0 l0_1 bt445.1 bt445.2.1 bt451.1 bt451.2 bt459.1 bt459.2.1) else (laws_FnExactInducedGraph.j0 k l1 bt445.2.2 t456 bt459.2.2 true a0_0 l0_1 bt445.1 bt445.2.1 bt451.1 bt451.2 bt459.1 bt459.2.1)))))))))))
theorem laws_FnExactInducedGraph.mono_l : ∀ k, (∀ y0 y1 y2 y3 y4 y5 y6 y7 y8 y9 y10 y11 y12, LeO (laws_FnExactInducedGraph.j0 k y0 y1 y2 y3 y4 y5 y6 y7 y8 y9 y10 y11 y12) (laws_FnExactInducedGraph.j0 (k + 1) y0 y1 y2 y3 y4 y5 y6 y7 y8 y9 y10 y11 y12)) ∧ (∀ y0 y1 y2 y3 y4 y5 y6 y7 y8, LeO (laws_FnExactInducedGraph.j1 k y0 y1 y2 y3 y4 y5 y6 y7 y8) (laws_FnExactInducedGraph.j1 (k + 1) y0 y1 y2 y3 y4 y5 y6 y7 y8)) ∧ (∀ y0 y1 y2 y3, LeO (laws_FnExactInducedGraph.j2 k y0 y1 y2 y3) (laws_FnExactInducedGraph.j2 (k + 1) y0 y1 y2 y3))
 | 0 => ⟨fun _ _ _ _ _ _ _ _ _ _ _ _ _ r h => by simp [laws_FnExactInducedGraph.j0] at h, fun _ _ _ _ _ _ _ _ _ r h => by simp [laws_FnExactInducedGraph.j1] at h, fun _ _ _ _ r h => by simp [laws_FnExactInducedGraph.j2] at h⟩
 | k + 1 => by
  obtain ⟨ih0, ih1, ih2⟩ := laws_FnExactInducedGraph.mono_l k
  refine ⟨?_, ?_, ?_⟩
  ·intro y0 y1 y2 y3 y4 y5 y6 y7 y8 y9 y10 y11 y12
   unfold laws_FnExactInducedGraph.j0
   repeat' first
   | (with_reducible exact ih0 _ _ _ _ _ _ _ _ _ _ _ _ _)
   | (with_reducible exact ih1 _ _ _ _ _ _ _ _ _)
   | (with_reducible exact ih2 _ _ _ _)
   | (with_reducible exact impl_InducedGraph.mono _ _ _ _)
   | (with_reducible exact laws_eqGraph.mono _ _ _ _ _)
   | (with_reducible exact laws_eqIntS.mono _ _ _)
   | (with_reducible exact laws_heldGraph.mono _ _ _ _)
   | (with_reducible exact laws_markGraph.mono _ _ _ _)
   | (with_reducible exact laws_markIntS.mono _ _ _)
   | (with_reducible exact laws_toGraph.mono _ _ _)
   | (with_reducible exact laws_toIntS.mono _ _)
   | (with_reducible exact spec_InducedGraph.mono _ _ _ _)
   | (with_reducible exact LeO.refl _)
   | (with_reducible exact LeO.none _)
   | (with_reducible refine LeO.ite ?_ ?_)
   | (with_reducible refine LeO.bind ?_ (fun _ => ?_))
   | exact ih0 _ _ _ _ _ _ _ _ _ _ _ _ _
   | exact ih1 _ _ _ _ _ _ _ _ _
   | exact ih2 _ _ _ _
   | exact impl_InducedGraph.mono _ _ _ _
   | exact laws_eqGraph.mono _ _ _ _ _
   | exact laws_eqIntS.mono _ _ _
   | exact laws_heldGraph.mono _ _ _ _
   | exact laws_markGraph.mono _ _ _ _
   | exact laws_markIntS.mono _ _ _
   | exact laws_toGraph.mono _ _ _
   | exact laws_toIntS.mono _ _
   | exact spec_InducedGraph.mono _ _ _ _
   | exact LeO.none _
   | refine LeO.ite ?_ ?_
   | refine LeO.bind ?_ (fun _ => ?_)
  ·intro y0 y1 y2 y3 y4 y5 y6 y7 y8
   unfold laws_FnExactInducedGraph.j1
   repeat' first
   | (with_reducible exact ih0 _ _ _ _ _ _ _ _ _ _ _ _ _)
   | (with_reducible exact ih1 _ _ _ _ _ _ _ _ _)
   | (with_reducible exact ih2 _ _ _ _)
   | (with_reducible exact impl_InducedGraph.mono _ _ _ _)
   | (with_reducible exact laws_eqGraph.mono _ _ _ _ _)
   | (with_reducible exact laws_eqIntS.mono _ _ _)
   | (with_reducible exact laws_heldGraph.mono _ _ _ _)
   | (with_reducible exact laws_markGraph.mono _ _ _ _)
   | (with_reducible exact laws_markIntS.mono _ _ _)
   | (with_reducible exact laws_toGraph.mono _ _ _)
   | (with_reducible exact laws_toIntS.mono _ _)
   | (with_reducible exact spec_InducedGraph.mono _ _ _ _)
   | (with_reducible exact LeO.refl _)
   | (with_reducible exact LeO.none _)
   | (with_reducible refine LeO.ite ?_ ?_)
   | (with_reducible refine LeO.bind ?_ (fun _ => ?_))
   | exact ih0 _ _ _ _ _ _ _ _ _ _ _ _ _
   | exact ih1 _ _ _ _ _ _ _ _ _
   | exact ih2 _ _ _ _
   | exact impl_InducedGraph.mono _ _ _ _
   | exact laws_eqGraph.mono _ _ _ _ _
   | exact laws_eqIntS.mono _ _ _
   | exact laws_heldGraph.mono _ _ _ _
   | exact laws_markGraph.mono _ _ _ _
   | exact laws_markIntS.mono _ _ _
   | exact laws_toGraph.mono _ _ _
   | exact laws_toIntS.mono _ _
   | exact spec_InducedGraph.mono _ _ _ _
   | exact LeO.none _
   | refine LeO.ite ?_ ?_
   | refine LeO.bind ?_ (fun _ => ?_)
  ·intro y0 y1 y2 y3
   unfold laws_FnExactInducedGraph.j2
   repeat' first
   | (with_reducible exact ih0 _ _ _ _ _ _ _ _ _ _ _ _ _)
   | (with_reducible exact ih1 _ _ _ _ _ _ _ _ _)
   | (with_reducible exact ih2 _ _ _ _)
   | (with_reducible exact impl_InducedGraph.mono _ _ _ _)
   | (with_reducible exact laws_eqGraph.mono _ _ _ _ _)
   | (with_reducible exact laws_eqIntS.mono _ _ _)
   | (with_reducible exact laws_heldGraph.mono _ _ _ _)
   | (with_reducible exact laws_markGraph.mono _ _ _ _)
   | (with_reducible exact laws_markIntS.mono _ _ _)
   | (with_reducible exact laws_toGraph.mono _ _ _)
   | (with_reducible exact laws_toIntS.mono _ _)
   | (with_reducible exact spec_InducedGraph.mono _ _ _ _)
   | (with_reducible exact LeO.refl _)
   | (with_reducible exact LeO.none _)
   | (with_reducible refine LeO.ite ?_ ?_)
   | (with_reducible refine LeO.bind ?_ (fun _ => ?_))
   | exact ih0 _ _ _ _ _ _ _ _ _ _ _ _ _
   | exact ih1 _ _ _ _ _ _ _ _ _
   | exact ih2 _ _ _ _
   | exact impl_InducedGraph.mono _ _ _ _
   | exact laws_eqGraph.mono _ _ _ _ _
   | exact laws_eqIntS.mono _ _ _
   | exact laws_heldGraph.mono _ _ _ _
   | exact laws_markGraph.mono _ _ _ _
   | exact laws_markIntS.mono _ _ _
   | exact laws_toGraph.mono _ _ _
   | exact laws_toIntS.mono _ _
   | exact spec_InducedGraph.mono _ _ _ _
   | exact LeO.none _
   | refine LeO.ite ?_ ?_
   | refine LeO.bind ?_ (fun _ => ?_)
theorem laws_FnExactInducedGraph.mono : ∀ a0 a1 a2 k, LeO (laws_FnExactInducedGraph.f k a0 a1 a2) (laws_FnExactInducedGraph.f (k + 1) a0 a1 a2) := by
 intro a0 a1 a2 k
 obtain ⟨ih0, ih1, ih2⟩ := laws_FnExactInducedGraph.mono_l k
 unfold laws_FnExactInducedGraph.f
 repeat' first
   | (with_reducible exact ih0 _ _ _ _ _ _ _ _ _ _ _ _ _)
   | (with_reducible exact ih1 _ _ _ _ _ _ _ _ _)
   | (with_reducible exact ih2 _ _ _ _)
   | (with_reducible exact impl_InducedGraph.mono _ _ _ _)
   | (with_reducible exact laws_eqGraph.mono _ _ _ _ _)
   | (with_reducible exact laws_eqIntS.mono _ _ _)
   | (with_reducible exact laws_heldGraph.mono _ _ _ _)
   | (with_reducible exact laws_markGraph.mono _ _ _ _)
   | (with_reducible exact laws_markIntS.mono _ _ _)
   | (with_reducible exact laws_toGraph.mono _ _ _)
   | (with_reducible exact laws_toIntS.mono _ _)
   | (with_reducible exact spec_InducedGraph.mono _ _ _ _)
   | (with_reducible exact LeO.refl _)
   | (with_reducible exact LeO.none _)
   | (with_reducible refine LeO.ite ?_ ?_)
   | (with_reducible refine LeO.bind ?_ (fun _ => ?_))
   | exact ih0 _ _ _ _ _ _ _ _ _ _ _ _ _
   | exact ih1 _ _ _ _ _ _ _ _ _
   | exact ih2 _ _ _ _
   | exact impl_InducedGraph.mono _ _ _ _
   | exact laws_eqGraph.mono _ _ _ _ _
   | exact laws_eqIntS.mono _ _ _
   | exact laws_heldGraph.mono _ _ _ _
   | exact laws_markGraph.mono _ _ _ _
   | exact laws_markIntS.mono _ _ _
   | exact laws_toGraph.mono _ _ _
   | exact laws_toIntS.mono _ _
   | exact spec_InducedGraph.mono _ _ _ _
   | exact LeO.none _
   | refine LeO.ite ?_ ?_
   | refine LeO.bind ?_ (fun _ => ?_)
set_option maxHeartbeats 8000000 in
set_option maxRecDepth 100000 in
theorem laws_FnExactInducedGraph.calls (k : Nat) (a0_0 : Int) (A0_1 : Option Addr) (c0_1 : Nat) (l0_1 : List (S65)) (A1 : Option Addr) (c1 : Nat) (l1 : List Int) (r : Bool) (w : World) (hr0_1 : Kd.C k65 w A0_1 l0_1.length l0_1) (hc0_1 : l0_1.length ≤ c0_1) (hr1 : Kd.C (Kd.int .i64) w A1 l1.length l1) (hc1 : l1.length ≤ c1) (h : laws_FnExactInducedGraph.f k a0_0 l0_1 l1 = some r) :
  Calls Try.prog 11 #[.agg #[.int .i64 a0_0, .slice A0_1 l0_1.length c0_1], .slice A1 l1.length c1] w fun e w' => e = .returned (.bool r) ∧ Below w.heap.size w w' := by
 have hu24 := Try.underlying24
 have hu29 := Try.underlying29
 have HR0_1 := Aside0.mk hr0_1
 have HC0_1 := Aside0.mk hc0_1
 clear hr0_1 hc0_1
 have HR1 := Aside0.mk hr1
 have HC1 := Aside0.mk hc1
 clear hr1 hc1
 have HB := Aside0.mk (Below.refl w.heap.size w)
 have H : (if (l1.length : Int) > 1048576 then (some true) else ((laws_szGraph.f a0_0 l0_1 1048576).bind fun t437 => (if t437 < 0 then (some true) else ((laws_toGraph.f k a0_0 l0_1).bind fun bt438 => ((laws_toIntS.f k l1).bind fun t442 => ((spec_InducedGraph.f k bt438.1 bt438.2 t442).bind fun bt445 => ((laws_toGraph.f k a0_0 l0_1).bind fun bt451 => ((laws_toIntS.f k l1).bind fun t456 => ((impl_InducedGraph.f k bt451.1 bt451.2 t456).bind fun bt459 => ((laws_eqGraph.f k bt459.1 bt459.2.1 bt445.1 bt445.2.1).bind fun t465 => (if t465 = true then (laws_FnExactInducedGraph.j0 k l1 bt445.2.2 t456 bt459.2.2 (bt459.2.2 != bt445.2.2) a0_0 l0_1 bt445.1 bt445.2.1 bt451.1 bt451.2 bt459.1 bt459.2.1) else (laws_FnExactInducedGraph.j0 k l1 bt445.2.2 t456 bt459.2.2 true a0_0 l0_1 bt445.1 bt445.2.1 bt451.1 bt451.2 bt459.1 bt459.2.1)))))))))))) = some r := h
 clear h
 have HU3 := Aside0.mk H
 clear H
 go_enter Try.func11, Try.ntmps11
 go_upto_if 19 with (first | ((with_reducible refine gate_dst (N := 2) rfl ?_); refine box_event ?hg (N := 2) ?hd (cs := #[.int .i64 a0_0, .slice A0_1 l0_1.length c0_1]) (t := 24) ?hr ?_; (case hd => rfl); (case hg => rfl); (case hr => first | (go_simp; done) | (go_simp; rfl)); intro gb436 hg w4 hbox hb; have n0_ := Aside0.mk (below_step (by repeat (first | (with_reducible first | exact HB.out | apply below_alloc | apply pw_below_drewN | apply below_drew1) | exact HB.out)) hb); have n1_ := Aside0.mk (hbox); have n2_ := Aside0.mk ((by rw [hg]; exact (below_size (by repeat (first | (with_reducible first | exact HB.out | apply below_alloc | apply pw_below_drewN | apply below_drew1) | exact HB.out))) : w.heap.size ≤ gb436)); have n3_ := Aside0.mk ((by rw [hg]; exact (below_size (by repeat (first | (with_reducible first | exact HB.out | apply below_alloc | apply pw_below_drewN | apply below_drew1) | exact HB.out))) : w.heap.size ≤ gb436)); clear HB; have HB := n0_; have BK436 := n1_; have GW436 := n2_; have GE436 := n3_; clear n0_ n1_ n2_ n3_; clear hb hbox hg))
 (try simp only [Act.put, List.setIfInBounds_toArray, List.set_cons_zero, List.set_cons_succ])
 have H := HU3.out
 clear HU3
 by_cases c5 : (l1.length : Int) > 1048576
 ·rw [if_pos c5] at H
  have c5b0 : decide (1048576 < (l1.length : Int)) = true := decide_eq_true c5
  have c5b1 : decide (1048576 < l1.length) = true := decide_eq_true (by omega)
  clear c5
  (first | rw [c5b0] | (simp only [i64_w, i32_w]; rw [c5b0]) | rw [c5b1] | skip)
  obtain rfl := Option.some.inj H
  go_wp2
  go_ret
  exact ⟨by first | rfl | (simp [errW_none, errW_some] <;> rfl) | (simp [*, errW_none, errW_some] <;> rfl), by repeat (first | (with_reducible first | exact HB.out | apply below_alloc | apply pw_below_drewN | apply below_drew1 | refine below_set ?_ GE436.out) | exact HB.out)⟩
 ·rw [if_neg c5] at H
  have c5b0 : decide (1048576 < (l1.length : Int)) = false := decide_eq_false c5
  have c5b1 : decide (1048576 < l1.length) = false := decide_eq_false (by omega)
  clear c5
  (first | rw [c5b0] | (simp only [i64_w, i32_w]; rw [c5b0]) | rw [c5b1] | skip)
  replace H := Option.bind_eq_some_iff.mp H
  obtain ⟨t437, A60, H⟩ := H
  replace H : (if t437 < 0 then (some true) else ((laws_toGraph.f k a0_0 l0_1).bind fun bt438 => ((laws_toIntS.f k l1).bind fun t442 => ((spec_InducedGraph.f k bt438.1 bt438.2 t442).bind fun bt445 => ((laws_toGraph.f k a0_0 l0_1).bind fun bt451 => ((laws_toIntS.f k l1).bind fun t456 => ((impl_InducedGraph.f k bt451.1 bt451.2 t456).bind fun bt459 => ((laws_eqGraph.f k bt459.1 bt459.2.1 bt445.1 bt445.2.1).bind fun t465 => (if t465 = true then (laws_FnExactInducedGraph.j0 k l1 bt445.2.2 t456 bt459.2.2 (bt459.2.2 != bt445.2.2) a0_0 l0_1 bt445.1 bt445.2.1 bt451.1 bt451.2 bt459.1 bt459.2.1) else (laws_FnExactInducedGraph.j0 k l1 bt445.2.2 t456 bt459.2.2 true a0_0 l0_1 bt445.1 bt445.2.1 bt451.1 bt451.2 bt459.1 bt459.2.1)))))))))) = some r := H
  have A6 := Aside0.mk A60
  clear A60
  have HU7 := Aside0.mk H
  clear H
  have hcz8_0 : w4.cell? ⟨gb436, 0, none⟩ = some (.int .i64 a0_0) := (blk_cell BK436.out 0).trans rfl
  have hcz8_1 : w4.cell? ⟨gb436, 1, none⟩ = some (.slice A0_1 l0_1.length c0_1) := (blk_cell BK436.out 1).trans rfl
  have hfz8_0 := blk_frozen BK436.out 0
  have hfz8_1 := blk_frozen BK436.out 1
  go_upto_if 24 with (first | ((with_reducible refine gate_callee (f := 15) rfl ?_); refine goesL_ (some 22) rfl rfl Try.func15 (by kernel_rfl) rfl #[.agg #[.int .i64 a0_0, .slice A0_1 l0_1.length c0_1], .int .i64 1048576] rfl (by (try simp only [List.map_toArray, List.map_cons, List.map_nil]); first | done | rfl | (simp only [List.length_drop, List.length_take]; rfl)) ?_; (with_reducible refine (laws_szGraph.calls a0_0 _ _ l0_1 1048576 t437 _ ?side1 ?side2 A6.out).mono ?_); (case side1 => repeat (first | exact (Kd.C_below HR0_1.out HB.out) | (with_reducible refine Kd.C_alloc ?_ _) | (with_reducible refine Kd.C_drewN ?_ _) | (with_reducible refine Kd.C_drew ?_))); (case side2 => exact HC0_1.out); rintro e w9 ⟨rfl, hb⟩; refine ⟨_, rfl, ?_⟩; have n0_ := Aside0.mk (blk_below (g := gb436) (o := .cells #[.int .i64 a0_0, .slice A0_1 l0_1.length c0_1] 24 (0, 0)) (by (with_reducible repeat (first | refine blk_drewN ?_ _ | refine blk_drew ?_ | refine blk_alloc ?_ _)); exact BK436.out) hb); have n1_ := Aside0.mk (below_step (by repeat (first | (with_reducible first | exact HB.out | apply below_alloc | apply pw_below_drewN | apply below_drew1 | refine below_set ?_ GE436.out) | exact HB.out)) hb); clear BK436; clear HB; have BK436 := n0_; have HB := n1_; clear n0_ n1_; (try clear hb); (try clear hb2); (try clear hk); (try clear hi)))
  (try simp only [Act.put, List.setIfInBounds_toArray, List.set_cons_zero, List.set_cons_succ])
  have H := HU7.out
  clear HU7
  by_cases c10 : t437 < 0
  ·rw [if_pos c10] at H
   have c10b0 : decide (t437 < 0) = true := decide_eq_true c10
   clear c10
   (first | rw [c10b0] | (simp only [i64_w, i32_w]; rw [c10b0]) | skip)
   obtain rfl := Option.some.inj H
   go_wp2
   go_ret
   exact ⟨by first | rfl | (simp [errW_none, errW_some] <;> rfl) | (simp [*, errW_none, errW_some] <;> rfl), by repeat (first | (with_reducible first | exact HB.out | apply below_alloc | apply pw_below_drewN | apply below_drew1 | refine below_set ?_ GE436.out) | exact HB.out)⟩
  ·rw [if_neg c10] at H
   have c10b0 : decide (t437 < 0) = false := decide_eq_false c10
   clear c10
   (first | rw [c10b0] | (simp only [i64_w, i32_w]; rw [c10b0]) | skip)
   replace H := Option.bind_eq_some_iff.mp H
   obtain ⟨⟨t438, t439⟩, A110, H⟩ := H
   replace H : ((laws_toIntS.f k l1).bind fun t442 => ((spec_InducedGraph.f k t438 t439 t442).bind fun bt445 => ((laws_toGraph.f k a0_0 l0_1).bind fun bt451 => ((laws_toIntS.f k l1).bind fun t456 => ((impl_InducedGraph.f k bt451.1 bt451.2 t456).bind fun bt459 => ((laws_eqGraph.f k bt459.1 bt459.2.1 bt445.1 bt445.2.1).bind fun t465 => (if t465 = true then (laws_FnExactInducedGraph.j0 k l1 bt445.2.2 t456 bt459.2.2 (bt459.2.2 != bt445.2.2) a0_0 l0_1 bt445.1 bt445.2.1 bt451.1 bt451.2 bt459.1 bt459.2.1) else (laws_FnExactInducedGraph.j0 k l1 bt445.2.2 t456 bt459.2.2 true a0_0 l0_1 bt445.1 bt445.2.1 bt451.1 bt451.2 bt459.1 bt459.2.1)))))))) = some r := H
   have A11 := Aside0.mk A110
   clear A110
   replace H := Option.bind_eq_some_iff.mp H
   obtain ⟨t442, A120, H⟩ := H
   replace H : ((spec_InducedGraph.f k t438 t439 t442).bind fun bt445 => ((laws_toGraph.f k a0_0 l0_1).bind fun bt451 => ((laws_toIntS.f k l1).bind fun t456 => ((impl_InducedGraph.f k bt451.1 bt451.2 t456).bind fun bt459 => ((laws_eqGraph.f k bt459.1 bt459.2.1 bt445.1 bt445.2.1).bind fun t465 => (if t465 = true then (laws_FnExactInducedGraph.j0 k l1 bt445.2.2 t456 bt459.2.2 (bt459.2.2 != bt445.2.2) a0_0 l0_1 bt445.1 bt445.2.1 bt451.1 bt451.2 bt459.1 bt459.2.1) else (laws_FnExactInducedGraph.j0 k l1 bt445.2.2 t456 bt459.2.2 true a0_0 l0_1 bt445.1 bt445.2.1 bt451.1 bt451.2 bt459.1 bt459.2.1))))))) = some r := H
   have A12 := Aside0.mk A120
   clear A120
   replace H := Option.bind_eq_some_iff.mp H
   obtain ⟨⟨t445, t446, t449⟩, A130, H⟩ := H
   replace H : ((laws_toGraph.f k a0_0 l0_1).bind fun bt451 => ((laws_toIntS.f k l1).bind fun t456 => ((impl_InducedGraph.f k bt451.1 bt451.2 t456).bind fun bt459 => ((laws_eqGraph.f k bt459.1 bt459.2.1 t445 t446).bind fun t465 => (if t465 = true then (laws_FnExactInducedGraph.j0 k l1 t449 t456 bt459.2.2 (bt459.2.2 != t449) a0_0 l0_1 t445 t446 bt451.1 bt451.2 bt459.1 bt459.2.1) else (laws_FnExactInducedGraph.j0 k l1 t449 t456 bt459.2.2 true a0_0 l0_1 t445 t446 bt451.1 bt451.2 bt459.1 bt459.2.1)))))) = some r := H
   have A13 := Aside0.mk A130
   clear A130
   replace H := Option.bind_eq_some_iff.mp H
   obtain ⟨⟨t451, t452⟩, A140, H⟩ := H
   replace H : ((laws_toIntS.f k l1).bind fun t456 => ((impl_InducedGraph.f k t451 t452 t456).bind fun bt459 => ((laws_eqGraph.f k bt459.1 bt459.2.1 t445 t446).bind fun t465 => (if t465 = true then (laws_FnExactInducedGraph.j0 k l1 t449 t456 bt459.2.2 (bt459.2.2 != t449) a0_0 l0_1 t445 t446 t451 t452 bt459.1 bt459.2.1) else (laws_FnExactInducedGraph.j0 k l1 t449 t456 bt459.2.2 true a0_0 l0_1 t445 t446 t451 t452 bt459.1 bt459.2.1))))) = some r := H
   have A14 := Aside0.mk A140
   clear A140
   replace H := Option.bind_eq_some_iff.mp H
   obtain ⟨t456, A150, H⟩ := H
   replace H : ((impl_InducedGraph.f k t451 t452 t456).bind fun bt459 => ((laws_eqGraph.f k bt459.1 bt459.2.1 t445 t446).bind fun t465 => (if t465 = true then (laws_FnExactInducedGraph.j0 k l1 t449 t456 bt459.2.2 (bt459.2.2 != t449) a0_0 l0_1 t445 t446 t451 t452 bt459.1 bt459.2.1) else (laws_FnExactInducedGraph.j0 k l1 t449 t456 bt459.2.2 true a0_0 l0_1 t445 t446 t451 t452 bt459.1 bt459.2.1)))) = some r := H
   have A15 := Aside0.mk A150
   clear A150
   replace H := Option.bind_eq_some_iff.mp H
   obtain ⟨⟨t459, t460, t463⟩, A160, H⟩ := H
   replace H : ((laws_eqGraph.f k t459 t460 t445 t446).bind fun t465 => (if t465 = true then (laws_FnExactInducedGraph.j0 k l1 t449 t456 t463 (t463 != t449) a0_0 l0_1 t445 t446 t451 t452 t459 t460) else (laws_FnExactInducedGraph.j0 k l1 t449 t456 t463 true a0_0 l0_1 t445 t446 t451 t452 t459 t460))) = some r := H
   have A16 := Aside0.mk A160
   clear A160
   have HU17 := Aside0.mk H
   clear H
   have hcz18_0 : w9.cell? ⟨gb436, 0, none⟩ = some (.int .i64 a0_0) := (blk_cell BK436.out 0).trans rfl
   have hcz18_1 : w9.cell? ⟨gb436, 1, none⟩ = some (.slice A0_1 l0_1.length c0_1) := (blk_cell BK436.out 1).trans rfl
   have hfz18_0 := blk_frozen BK436.out 0
   have hfz18_1 := blk_frozen BK436.out 1
   go_upto_region 11 with (first | ((with_reducible refine gate_callee (f := 17) rfl ?_); refine goesL_ (some 27) rfl rfl Try.func17 (by kernel_rfl) rfl #[.agg #[.int .i64 a0_0, .slice A0_1 l0_1.length c0_1]] rfl (by (try simp only [List.map_toArray, List.map_cons, List.map_nil]); first | done | rfl | (simp only [List.length_drop, List.length_take]; rfl)) ?_; (with_reducible refine (laws_toGraph.calls k a0_0 _ _ l0_1 t438 t439 _ ?side1 ?side2 A11.out).mono ?_); (case side1 => repeat (first | exact (Kd.C_below HR0_1.out HB.out) | (with_reducible refine Kd.C_alloc ?_ _) | (with_reducible refine Kd.C_drewN ?_ _) | (with_reducible refine Kd.C_drew ?_))); (case side2 => exact HC0_1.out); rintro e w19 ⟨v440, rfl, ho0, hb⟩; refine ⟨_, rfl, ?_⟩; have n0_ := Aside0.mk (Kd.R_lower ho0 (below_size (by repeat (first | (with_reducible first | exact HB.out | apply below_alloc | apply pw_below_drewN | apply below_drew1 | refine below_set ?_ GE436.out) | exact HB.out)))); have n1_ := Aside0.mk (blk_below (g := gb436) (o := .cells #[.int .i64 a0_0, .slice A0_1 l0_1.length c0_1] 24 (0, 0)) (by (with_reducible repeat (first | refine blk_drewN ?_ _ | refine blk_drew ?_ | refine blk_alloc ?_ _)); exact BK436.out) hb); have n2_ := Aside0.mk (below_step (by repeat (first | (with_reducible first | exact HB.out | apply below_alloc | apply pw_below_drewN | apply below_drew1 | refine below_set ?_ GE436.out) | exact HB.out)) hb); clear BK436; clear HB; have HO441 := n0_; have BK436 := n1_; have HB := n2_; clear n0_ n1_ n2_; (try clear hb); (try clear hb2); (try clear hk); (try clear hi); (try clear ho0)) | ((with_reducible refine gate_callee (f := 18) rfl ?_); refine goesL_ (some 29) rfl rfl Try.func18 (by kernel_rfl) rfl #[.slice A1 l1.length c1] rfl (by (try simp only [List.map_toArray, List.map_cons, List.map_nil]); first | done | rfl | (simp only [List.length_drop, List.length_take]; rfl)) ?_; (with_reducible refine (laws_toIntS.calls k _ _ l1 t442 _ ?side1 ?side2 A12.out).mono ?_); (case side1 => repeat (first | exact (Kd.C_below HR1.out HB.out) | (with_reducible refine Kd.C_alloc ?_ _) | (with_reducible refine Kd.C_drewN ?_ _) | (with_reducible refine Kd.C_drew ?_))); (case side2 => exact HC1.out); rintro e w20 ⟨v443, rfl, ho0, hb⟩; refine ⟨_, rfl, ?_⟩; have n0_ := Aside0.mk (Kd.R_below (by (with_reducible repeat (first | apply Kd.R_alloc | apply Kd.R_drewN | apply Kd.R_drew)); exact HO441.out) hb); have n1_ := Aside0.mk (Kd.R_lower ho0 (below_size (by repeat (first | (with_reducible first | exact HB.out | apply below_alloc | apply pw_below_drewN | apply below_drew1 | refine below_set ?_ GE436.out) | exact HB.out)))); have n2_ := Aside0.mk (blk_below (g := gb436) (o := .cells #[.int .i64 a0_0, .slice A0_1 l0_1.length c0_1] 24 (0, 0)) (by (with_reducible repeat (first | refine blk_drewN ?_ _ | refine blk_drew ?_ | refine blk_alloc ?_ _)); exact BK436.out) hb); have n3_ := Aside0.mk (below_step (by repeat (first | (with_reducible first | exact HB.out | apply below_alloc | apply pw_below_drewN | apply below_drew1 | refine below_set ?_ GE436.out) | exact HB.out)) hb); clear HO441; clear BK436; clear HB; have HO441 := n0_; have HO444 := n1_; have BK436 := n2_; have HB := n3_; clear n0_ n1_ n2_ n3_; (try clear hb); (try clear hb2); (try clear hk); (try clear hi); (try clear ho0); obtain ⟨Ao21, co21, eo21⟩ := Kd.R_slice HO441.out; subst eo21; obtain ⟨Ao22, co22, eo22⟩ := Kd.R_slice HO444.out; subst eo22) | ((with_reducible refine gate_callee (f := 43) rfl ?_); refine goesL_ (some 30) rfl rfl Try.func43 (by kernel_rfl) rfl #[.agg #[.int .i64 t438, .slice Ao21 t439.length co21], .slice Ao22 t442.length co22] rfl (by (try simp only [List.map_toArray, List.map_cons, List.map_nil]); first | done | rfl | (simp only [List.length_drop, List.length_take]; rfl)) ?_; (with_reducible refine (spec_InducedGraph.calls k t438 _ _ t439 _ _ t442 t445 t446 t449 _ ?side1 ?side2 ?side3 ?side4 A13.out).mono ?_); (case side1 => repeat (first | exact (Kd.R_reads' HO441.out).2.2 | (with_reducible refine Kd.C_alloc ?_ _) | (with_reducible refine Kd.C_drewN ?_ _) | (with_reducible refine Kd.C_drew ?_))); (case side2 => exact (Kd.R_reads' HO441.out).2.1); (case side3 => repeat (first | exact (Kd.R_reads' HO444.out).2.2 | (with_reducible refine Kd.C_alloc ?_ _) | (with_reducible refine Kd.C_drewN ?_ _) | (with_reducible refine Kd.C_drew ?_))); (case side4 => exact (Kd.R_reads' HO444.out).2.1); rintro e w23 ⟨v447, rfl, ho0, hb⟩; refine ⟨_, rfl, ?_⟩; have n0_ := Aside0.mk (Kd.R_elder' (by (with_reducible repeat (first | apply Kd.R_alloc | apply Kd.R_drewN | apply Kd.R_drew)); exact HO441.out) (Kd.R_base ho0) hb); have n1_ := Aside0.mk (Kd.R_below (by (with_reducible repeat (first | apply Kd.R_alloc | apply Kd.R_drewN | apply Kd.R_drew)); exact HO444.out) hb); have n2_ := Aside0.mk (Kd.R_lower (Kd.R_new' ho0 (Kd.R_lt (by (with_reducible repeat (first | apply Kd.R_alloc | apply Kd.R_drewN | apply Kd.R_drew)); exact HO441.out))) (below_size (by repeat (first | (with_reducible first | exact HB.out | apply below_alloc | apply pw_below_drewN | apply below_drew1 | refine below_set ?_ GE436.out) | exact HB.out)))); have n3_ := Aside0.mk (blk_below (g := gb436) (o := .cells #[.int .i64 a0_0, .slice A0_1 l0_1.length c0_1] 24 (0, 0)) (by (with_reducible repeat (first | refine blk_drewN ?_ _ | refine blk_drew ?_ | refine blk_alloc ?_ _)); exact BK436.out) hb); have n4_ := Aside0.mk (below_step (by repeat (first | (with_reducible first | exact HB.out | apply below_alloc | apply pw_below_drewN | apply below_drew1 | refine below_set ?_ GE436.out) | exact HB.out)) hb); clear HO441; clear HO444; clear BK436; clear HB; have HO441 := n0_; have HO444 := n1_; have HO448 := n2_; have BK436 := n3_; have HB := n4_; clear n0_ n1_ n2_ n3_ n4_; (try clear hb); (try clear hb2); (try clear hk); (try clear hi); (try clear ho0)) | ((with_reducible refine gate_dst (N := 6) rfl ?_); refine box_event ?hg (N := 6) ?hd (cs := #[.int .i64 0, .slice none 0 0]) (t := 29) ?hr ?_; (case hd => rfl); (case hg => rfl); (case hr => first | (go_simp; done) | (go_simp; rfl)); intro gb450 hg w24 hbox hb; have n0_ := Aside0.mk (Kd.R_below (by (with_reducible repeat (first | apply Kd.R_alloc | apply Kd.R_drewN | apply Kd.R_drew)); exact HO441.out) hb); have n1_ := Aside0.mk (Kd.R_below (by (with_reducible repeat (first | apply Kd.R_alloc | apply Kd.R_drewN | apply Kd.R_drew)); exact HO444.out) hb); have n2_ := Aside0.mk (Kd.R_below (by (with_reducible repeat (first | apply Kd.R_alloc | apply Kd.R_drewN | apply Kd.R_drew)); exact HO448.out) hb); have n3_ := Aside0.mk (blk_below (g := gb436) (o := .cells #[.int .i64 a0_0, .slice A0_1 l0_1.length c0_1] 24 (0, 0)) (by (with_reducible repeat (first | refine blk_drewN ?_ _ | refine blk_drew ?_ | refine blk_alloc ?_ _)); exact BK436.out) hb); have n4_ := Aside0.mk (below_step (by repeat (first | (with_reducible first | exact HB.out | apply below_alloc | apply pw_below_drewN | apply below_drew1 | refine below_set ?_ GE436.out) | exact HB.out)) hb); have n5_ := Aside0.mk (hbox); have n6_ := Aside0.mk ((by rw [hg]; exact (below_size (by repeat (first | (with_reducible first | exact HB.out | apply below_alloc | apply pw_below_drewN | apply below_drew1 | refine below_set ?_ GE436.out) | exact HB.out))) : w.heap.size ≤ gb450)); have n7_ := Aside0.mk ((by rw [hg]; exact (below_size (by repeat (first | (with_reducible first | exact HB.out | apply below_alloc | apply pw_below_drewN | apply below_drew1 | refine below_set ?_ GE436.out) | exact HB.out))) : w.heap.size ≤ gb450)); have n8_ := Aside0.mk ((by rw [hg]; exact Nat.ne_of_lt (blk_lt (g := gb436) (o := .cells #[.int .i64 a0_0, .slice A0_1 l0_1.length c0_1] 24 (0, 0)) (by (with_reducible repeat (first | refine blk_drewN ?_ _ | refine blk_drew ?_ | refine blk_alloc ?_ _)); exact BK436.out)) : gb436 ≠ gb450)); have n9_ := Aside0.mk ((by rw [hg]; exact Nat.ne_of_gt (blk_lt (g := gb436) (o := .cells #[.int .i64 a0_0, .slice A0_1 l0_1.length c0_1] 24 (0, 0)) (by (with_reducible repeat (first | refine blk_drewN ?_ _ | refine blk_drew ?_ | refine blk_alloc ?_ _)); exact BK436.out)) : gb450 ≠ gb436)); clear HO441; clear HO444; clear HO448; clear BK436; clear HB; have HO441 := n0_; have HO444 := n1_; have HO448 := n2_; have BK436 := n3_; have HB := n4_; have BK450 := n5_; have GW450 := n6_; have GE450 := n7_; have NB436_450 := n8_; have NB450_436 := n9_; clear n0_ n1_ n2_ n3_ n4_ n5_ n6_ n7_ n8_ n9_; clear hb hbox hg; have hnb25 := NB450_436.out; have hnc25 := NB436_450.out; have hcz26_0 : w24.cell? ⟨gb450, 0, none⟩ = some (.int .i64 0) := (blk_cell BK450.out 0).trans rfl; have hcz26_1 : w24.cell? ⟨gb450, 1, none⟩ = some (.slice none 0 0) := (blk_cell BK450.out 1).trans rfl; have hfz26_0 := blk_frozen BK450.out 0; have hfz26_1 := blk_frozen BK450.out 1; obtain ⟨Ao27, co27, eo27⟩ := Kd.R_slice HO448.out; subst eo27; have hcz28_0 : w24.cell? ⟨gb436, 0, none⟩ = some (.int .i64 a0_0) := (blk_cell BK436.out 0).trans rfl; have hcz28_1 : w24.cell? ⟨gb436, 1, none⟩ = some (.slice A0_1 l0_1.length c0_1) := (blk_cell BK436.out 1).trans rfl; have hfz28_0 := blk_frozen BK436.out 0; have hfz28_1 := blk_frozen BK436.out 1) | ((with_reducible refine gate_callee (f := 17) rfl ?_); refine goesL_ (some 34) rfl rfl Try.func17 (by kernel_rfl) rfl #[.agg #[.int .i64 a0_0, .slice A0_1 l0_1.length c0_1]] rfl (by (try simp only [List.map_toArray, List.map_cons, List.map_nil]); first | done | rfl | (simp only [List.length_drop, List.length_take]; rfl)) ?_; (with_reducible refine (laws_toGraph.calls k a0_0 _ _ l0_1 t451 t452 _ ?side1 ?side2 A14.out).mono ?_); (case side1 => exact Kd.C_below HR0_1.out (by repeat (first | (with_reducible first | exact HB.out | apply below_alloc | apply pw_below_drewN | apply below_drew1 | refine below_set ?_ GE436.out | refine below_set ?_ GE450.out) | exact HB.out))); (case side2 => exact HC0_1.out); rintro e w29 ⟨v453, rfl, ho0, hb⟩; refine ⟨_, rfl, ?_⟩; have n0_ := Aside0.mk (Kd.R_elder' (by (with_reducible repeat (first | apply Kd.R_alloc | apply Kd.R_drewN | apply Kd.R_drew)); exact (Kd.R_mono (Kd.R_far (p := ⟨gb450, 1, none⟩) (Kd.R_far (p := ⟨gb450, 0, none⟩) (Kd.R_types HO441.out BK450.out (by decide)) (fun _ hk => hk.2) (.int .i64 t445)) (fun _ hk => hk.2) (.slice Ao27 t446.length co27)) (fun _ h_ => h_.1))) (Kd.R_base ho0) hb); have n1_ := Aside0.mk (Kd.R_below (by (with_reducible repeat (first | apply Kd.R_alloc | apply Kd.R_drewN | apply Kd.R_drew)); exact (Kd.R_mono (Kd.R_far (p := ⟨gb450, 1, none⟩) (Kd.R_far (p := ⟨gb450, 0, none⟩) (Kd.R_types HO444.out BK450.out (by decide)) (fun _ hk => hk.2) (.int .i64 t445)) (fun _ hk => hk.2) (.slice Ao27 t446.length co27)) (fun _ h_ => h_.1))) hb); have n2_ := Aside0.mk (Kd.R_elder' (by (with_reducible repeat (first | apply Kd.R_alloc | apply Kd.R_drewN | apply Kd.R_drew)); exact (Kd.R_mono (Kd.R_far (p := ⟨gb450, 1, none⟩) (Kd.R_far (p := ⟨gb450, 0, none⟩) (Kd.R_types HO448.out BK450.out (by decide)) (fun _ hk => hk.2) (.int .i64 t445)) (fun _ hk => hk.2) (.slice Ao27 t446.length co27)) (fun _ h_ => h_.1))) (Kd.R_base ho0) hb); have n3_ := Aside0.mk (Kd.R_lower (Kd.R_new' (Kd.R_new' ho0 (Kd.R_lt (by (with_reducible repeat (first | apply Kd.R_alloc | apply Kd.R_drewN | apply Kd.R_drew)); exact (Kd.R_mono (Kd.R_far (p := ⟨gb450, 1, none⟩) (Kd.R_far (p := ⟨gb450, 0, none⟩) (Kd.R_types HO441.out BK450.out (by decide)) (fun _ hk => hk.2) (.int .i64 t445)) (fun _ hk => hk.2) (.slice Ao27 t446.length co27)) (fun _ h_ => h_.1))))) (Kd.R_lt (by (with_reducible repeat (first | apply Kd.R_alloc | apply Kd.R_drewN | apply Kd.R_drew)); exact (Kd.R_mono (Kd.R_far (p := ⟨gb450, 1, none⟩) (Kd.R_far (p := ⟨gb450, 0, none⟩) (Kd.R_types HO448.out BK450.out (by decide)) (fun _ hk => hk.2) (.int .i64 t445)) (fun _ hk => hk.2) (.slice Ao27 t446.length co27)) (fun _ h_ => h_.1))))) (below_size (by repeat (first | (with_reducible first | exact HB.out | apply below_alloc | apply pw_below_drewN | apply below_drew1 | refine below_set ?_ GE436.out | refine below_set ?_ GE450.out) | exact HB.out)))); have n4_ := Aside0.mk (blk_below (g := gb436) (o := .cells #[.int .i64 a0_0, .slice A0_1 l0_1.length c0_1] 24 (0, 0)) (by (with_reducible repeat (first | refine blk_drewN ?_ _ | refine blk_drew ?_ | refine blk_alloc ?_ _)); refine blk_far ?_ NB436_450.out _; (with_reducible repeat (first | refine blk_drewN ?_ _ | refine blk_drew ?_ | refine blk_alloc ?_ _)); refine blk_far ?_ NB436_450.out _; (with_reducible repeat (first | refine blk_drewN ?_ _ | refine blk_drew ?_ | refine blk_alloc ?_ _)); exact BK436.out) hb); have n5_ := Aside0.mk (blk_below (g := gb450) (o := .cells #[.int .i64 t445, .slice Ao27 t446.length co27] 29 (0, 0)) (by (with_reducible repeat (first | refine blk_drewN ?_ _ | refine blk_drew ?_ | refine blk_alloc ?_ _)); refine blk_put (cs := #[.int .i64 t445, .slice none 0 0]) ?_ 1 _ rfl; (with_reducible repeat (first | refine blk_drewN ?_ _ | refine blk_drew ?_ | refine blk_alloc ?_ _)); refine blk_put (cs := #[.int .i64 0, .slice none 0 0]) ?_ 0 _ rfl; (with_reducible repeat (first | refine blk_drewN ?_ _ | refine blk_drew ?_ | refine blk_alloc ?_ _)); exact BK450.out) hb); have n6_ := Aside0.mk (below_step (by repeat (first | (with_reducible first | exact HB.out | apply below_alloc | apply pw_below_drewN | apply below_drew1 | refine below_set ?_ GE436.out | refine below_set ?_ GE450.out) | exact HB.out)) hb); clear HO441; clear HO444; clear HO448; clear BK436; clear BK450; clear HB; have HO441 := n0_; have HO444 := n1_; have HO448 := n2_; have HO454 := n3_; have BK436 := n4_; have BK450 := n5_; have HB := n6_; clear n0_ n1_ n2_ n3_ n4_ n5_ n6_; (try clear hb); (try clear hb2); (try clear hk); (try clear hi); (try clear ho0)) | ((with_reducible refine gate_dst (N := 8) rfl ?_); refine box_event ?hg (N := 8) ?hd (cs := #[.int .i64 0, .slice none 0 0]) (t := 29) ?hr ?_; (case hd => rfl); (case hg => rfl); (case hr => first | (go_simp; done) | (go_simp; rfl)); intro gb455 hg w30 hbox hb; have n0_ := Aside0.mk (Kd.R_below (by (with_reducible repeat (first | apply Kd.R_alloc | apply Kd.R_drewN | apply Kd.R_drew)); exact HO441.out) hb); have n1_ := Aside0.mk (Kd.R_below (by (with_reducible repeat (first | apply Kd.R_alloc | apply Kd.R_drewN | apply Kd.R_drew)); exact HO444.out) hb); have n2_ := Aside0.mk (Kd.R_below (by (with_reducible repeat (first | apply Kd.R_alloc | apply Kd.R_drewN | apply Kd.R_drew)); exact HO448.out) hb); have n3_ := Aside0.mk (Kd.R_below (by (with_reducible repeat (first | apply Kd.R_alloc | apply Kd.R_drewN | apply Kd.R_drew)); exact HO454.out) hb); have n4_ := Aside0.mk (blk_below (g := gb436) (o := .cells #[.int .i64 a0_0, .slice A0_1 l0_1.length c0_1] 24 (0, 0)) (by (with_reducible repeat (first | refine blk_drewN ?_ _ | refine blk_drew ?_ | refine blk_alloc ?_ _)); exact BK436.out) hb); have n5_ := Aside0.mk (blk_below (g := gb450) (o := .cells #[.int .i64 t445, .slice Ao27 t446.length co27] 29 (0, 0)) (by (with_reducible repeat (first | refine blk_drewN ?_ _ | refine blk_drew ?_ | refine blk_alloc ?_ _)); exact BK450.out) hb); have n6_ := Aside0.mk (below_step (by repeat (first | (with_reducible first | exact HB.out | apply below_alloc | apply pw_below_drewN | apply below_drew1 | refine below_set ?_ GE436.out | refine below_set ?_ GE450.out) | exact HB.out)) hb); have n7_ := Aside0.mk (hbox); have n8_ := Aside0.mk ((by rw [hg]; exact (below_size (by repeat (first | (with_reducible first | exact HB.out | apply below_alloc | apply pw_below_drewN | apply below_drew1 | refine below_set ?_ GE436.out | refine below_set ?_ GE450.out) | exact HB.out))) : w.heap.size ≤ gb455)); have n9_ := Aside0.mk ((by rw [hg]; exact (below_size (by repeat (first | (with_reducible first | exact HB.out | apply below_alloc | apply pw_below_drewN | apply below_drew1 | refine below_set ?_ GE436.out | refine below_set ?_ GE450.out) | exact HB.out))) : w.heap.size ≤ gb455)); have n10_ := Aside0.mk ((by rw [hg]; exact Nat.ne_of_lt (blk_lt (g := gb436) (o := .cells #[.int .i64 a0_0, .slice A0_1 l0_1.length c0_1] 24 (0, 0)) (by (with_reducible repeat (first | refine blk_drewN ?_ _ | refine blk_drew ?_ | refine blk_alloc ?_ _)); exact BK436.out)) : gb436 ≠ gb455)); have n11_ := Aside0.mk ((by rw [hg]; exact Nat.ne_of_gt (blk_lt (g := gb436) (o := .cells #[.int .i64 a0_0, .slice A0_1 l0_1.length c0_1] 24 (0, 0)) (by (with_reducible repeat (first | refine blk_drewN ?_ _ | refine blk_drew ?_ | refine blk_alloc ?_ _)); exact BK436.out)) : gb455 ≠ gb436)); have n12_ := Aside0.mk ((by rw [hg]; exact Nat.ne_of_lt (blk_lt (g := gb450) (o := .cells #[.int .i64 t445, .slice Ao27 t446.length co27] 29 (0, 0)) (by (with_reducible repeat (first | refine blk_drewN ?_ _ | refine blk_drew ?_ | refine blk_alloc ?_ _)); exact BK450.out)) : gb450 ≠ gb455)); have n13_ := Aside0.mk ((by rw [hg]; exact Nat.ne_of_gt (blk_lt (g := gb450) (o := .cells #[.int .i64 t445, .slice Ao27 t446.length co27] 29 (0, 0)) (by (with_reducible repeat (first | refine blk_drewN ?_ _ | refine blk_drew ?_ | refine blk_alloc ?_ _)); exact BK450.out)) : gb455 ≠ gb450)); clear HO441; clear HO444; clear HO448; clear HO454; clear BK436; clear BK450; clear HB; have HO441 := n0_; have HO444 := n1_; have HO448 := n2_; have HO454 := n3_; have BK436 := n4_; have BK450 := n5_; have HB := n6_; have BK455 := n7_; have GW455 := n8_; have GE455 := n9_; have NB436_455 := n10_; have NB455_436 := n11_; have NB450_455 := n12_; have NB455_450 := n13_; clear n0_ n1_ n2_ n3_ n4_ n5_ n6_ n7_ n8_ n9_ n10_ n11_ n12_ n13_; clear hb hbox hg; have hnb31 := NB455_436.out; have hnc31 := NB436_455.out; have hnb32 := NB455_450.out; have hnc32 := NB450_455.out; have hcz33_0 : w30.cell? ⟨gb455, 0, none⟩ = some (.int .i64 0) := (blk_cell BK455.out 0).trans rfl; have hcz33_1 : w30.cell? ⟨gb455, 1, none⟩ = some (.slice none 0 0) := (blk_cell BK455.out 1).trans rfl; have hfz33_0 := blk_frozen BK455.out 0; have hfz33_1 := blk_frozen BK455.out 1; obtain ⟨Ao34, co34, eo34⟩ := Kd.R_slice HO454.out; subst eo34) | ((with_reducible refine gate_callee (f := 18) rfl ?_); refine goesL_ (some 36) rfl rfl Try.func18 (by kernel_rfl) rfl #[.slice A1 l1.length c1] rfl (by (try simp only [List.map_toArray, List.map_cons, List.map_nil]); first | done | rfl | (simp only [List.length_drop, List.length_take]; rfl)) ?_; (with_reducible refine (laws_toIntS.calls k _ _ l1 t456 _ ?side1 ?side2 A15.out).mono ?_); (case side1 => exact Kd.C_below HR1.out (by repeat (first | (with_reducible first | exact HB.out | apply below_alloc | apply pw_below_drewN | apply below_drew1 | refine below_set ?_ GE436.out | refine below_set ?_ GE450.out | refine below_set ?_ GE455.out) | exact HB.out))); (case side2 => exact HC1.out); rintro e w35 ⟨v457, rfl, ho0, hb⟩; refine ⟨_, rfl, ?_⟩; have n0_ := Aside0.mk (Kd.R_below (by (with_reducible repeat (first | apply Kd.R_alloc | apply Kd.R_drewN | apply Kd.R_drew)); exact (Kd.R_mono (Kd.R_far (p := ⟨gb455, 1, none⟩) (Kd.R_far (p := ⟨gb455, 0, none⟩) (Kd.R_types HO441.out BK455.out (by decide)) (fun _ hk => hk.2) (.int .i64 t451)) (fun _ hk => hk.2) (.slice Ao34 t452.length co34)) (fun _ h_ => h_.1))) hb); have n1_ := Aside0.mk (Kd.R_elder' (by (with_reducible repeat (first | apply Kd.R_alloc | apply Kd.R_drewN | apply Kd.R_drew)); exact (Kd.R_mono (Kd.R_far (p := ⟨gb455, 1, none⟩) (Kd.R_far (p := ⟨gb455, 0, none⟩) (Kd.R_types HO444.out BK455.out (by decide)) (fun _ hk => hk.2) (.int .i64 t451)) (fun _ hk => hk.2) (.slice Ao34 t452.length co34)) (fun _ h_ => h_.1))) (Kd.R_base ho0) hb); have n2_ := Aside0.mk (Kd.R_below (by (with_reducible repeat (first | apply Kd.R_alloc | apply Kd.R_drewN | apply Kd.R_drew)); exact (Kd.R_mono (Kd.R_far (p := ⟨gb455, 1, none⟩) (Kd.R_far (p := ⟨gb455, 0, none⟩) (Kd.R_types HO448.out BK455.out (by decide)) (fun _ hk => hk.2) (.int .i64 t451)) (fun _ hk => hk.2) (.slice Ao34 t452.length co34)) (fun _ h_ => h_.1))) hb); have n3_ := Aside0.mk (Kd.R_below (by (with_reducible repeat (first | apply Kd.R_alloc | apply Kd.R_drewN | apply Kd.R_drew)); exact (Kd.R_mono (Kd.R_far (p := ⟨gb455, 1, none⟩) (Kd.R_far (p := ⟨gb455, 0, none⟩) (Kd.R_types HO454.out BK455.out (by decide)) (fun _ hk => hk.2) (.int .i64 t451)) (fun _ hk => hk.2) (.slice Ao34 t452.length co34)) (fun _ h_ => h_.1))) hb); have n4_ := Aside0.mk (Kd.R_lower (Kd.R_new' ho0 (Kd.R_lt (by (with_reducible repeat (first | apply Kd.R_alloc | apply Kd.R_drewN | apply Kd.R_drew)); exact (Kd.R_mono (Kd.R_far (p := ⟨gb455, 1, none⟩) (Kd.R_far (p := ⟨gb455, 0, none⟩) (Kd.R_types HO444.out BK455.out (by decide)) (fun _ hk => hk.2) (.int .i64 t451)) (fun _ hk => hk.2) (.slice Ao34 t452.length co34)) (fun _ h_ => h_.1))))) (below_size (by repeat (first | (with_reducible first | exact HB.out | apply below_alloc | apply pw_below_drewN | apply below_drew1 | refine below_set ?_ GE436.out | refine below_set ?_ GE450.out | refine below_set ?_ GE455.out) | exact HB.out)))); have n5_ := Aside0.mk (blk_below (g := gb436) (o := .cells #[.int .i64 a0_0, .slice A0_1 l0_1.length c0_1] 24 (0, 0)) (by (with_reducible repeat (first | refine blk_drewN ?_ _ | refine blk_drew ?_ | refine blk_alloc ?_ _)); refine blk_far ?_ NB436_455.out _; (with_reducible repeat (first | refine blk_drewN ?_ _ | refine blk_drew ?_ | refine blk_alloc ?_ _)); refine blk_far ?_ NB436_455.out _; (with_reducible repeat (first | refine blk_drewN ?_ _ | refine blk_drew ?_ | refine blk_alloc ?_ _)); exact BK436.out) hb); have n6_ := Aside0.mk (blk_below (g := gb450) (o := .cells #[.int .i64 t445, .slice Ao27 t446.length co27] 29 (0, 0)) (by (with_reducible repeat (first | refine blk_drewN ?_ _ | refine blk_drew ?_ | refine blk_alloc ?_ _)); refine blk_far ?_ NB450_455.out _; (with_reducible repeat (first | refine blk_drewN ?_ _ | refine blk_drew ?_ | refine blk_alloc ?_ _)); refine blk_far ?_ NB450_455.out _; (with_reducible repeat (first | refine blk_drewN ?_ _ | refine blk_drew ?_ | refine blk_alloc ?_ _)); exact BK450.out) hb); have n7_ := Aside0.mk (blk_below (g := gb455) (o := .cells #[.int .i64 t451, .slice Ao34 t452.length co34] 29 (0, 0)) (by (with_reducible repeat (first | refine blk_drewN ?_ _ | refine blk_drew ?_ | refine blk_alloc ?_ _)); refine blk_put (cs := #[.int .i64 t451, .slice none 0 0]) ?_ 1 _ rfl; (with_reducible repeat (first | refine blk_drewN ?_ _ | refine blk_drew ?_ | refine blk_alloc ?_ _)); refine blk_put (cs := #[.int .i64 0, .slice none 0 0]) ?_ 0 _ rfl; (with_reducible repeat (first | refine blk_drewN ?_ _ | refine blk_drew ?_ | refine blk_alloc ?_ _)); exact BK455.out) hb); have n8_ := Aside0.mk (below_step (by repeat (first | (with_reducible first | exact HB.out | apply below_alloc | apply pw_below_drewN | apply below_drew1 | refine below_set ?_ GE436.out | refine below_set ?_ GE450.out | refine below_set ?_ GE455.out) | exact HB.out)) hb); clear HO441; clear HO444; clear HO448; clear HO454; clear BK436; clear BK450; clear BK455; clear HB; have HO441 := n0_; have HO444 := n1_; have HO448 := n2_; have HO454 := n3_; have HO458 := n4_; have BK436 := n5_; have BK450 := n6_; have BK455 := n7_; have HB := n8_; clear n0_ n1_ n2_ n3_ n4_ n5_ n6_ n7_ n8_; (try clear hb); (try clear hb2); (try clear hk); (try clear hi); (try clear ho0); have hcz36_0 : w35.cell? ⟨gb455, 0, none⟩ = some (.int .i64 t451) := (blk_cell BK455.out 0).trans rfl; have hcz36_1 : w35.cell? ⟨gb455, 1, none⟩ = some (.slice Ao34 t452.length co34) := (blk_cell BK455.out 1).trans rfl; have hfz36_0 := blk_frozen BK455.out 0; have hfz36_1 := blk_frozen BK455.out 1; obtain ⟨Ao37, co37, eo37⟩ := Kd.R_slice HO458.out; subst eo37) | ((with_reducible refine gate_callee (f := 44) rfl ?_); refine goesL_ (some 40) rfl rfl Try.func44 (by kernel_rfl) rfl #[.agg #[.int .i64 t451, .slice Ao34 t452.length co34], .slice Ao37 t456.length co37] rfl (by (try simp only [List.map_toArray, List.map_cons, List.map_nil]); first | done | rfl | (simp only [List.length_drop, List.length_take]; rfl)) ?_; (with_reducible refine (impl_InducedGraph.calls k t451 _ _ t452 _ _ t456 t459 t460 t463 _ ?side1 ?side2 ?side3 ?side4 A16.out).mono ?_); (case side1 => repeat (first | exact (Kd.R_reads' HO454.out).2.2 | (with_reducible refine Kd.C_alloc ?_ _) | (with_reducible refine Kd.C_drewN ?_ _) | (with_reducible refine Kd.C_drew ?_))); (case side2 => exact (Kd.R_reads' HO454.out).2.1); (case side3 => repeat (first | exact (Kd.R_reads' HO458.out).2.2 | (with_reducible refine Kd.C_alloc ?_ _) | (with_reducible refine Kd.C_drewN ?_ _) | (with_reducible refine Kd.C_drew ?_))); (case side4 => exact (Kd.R_reads' HO458.out).2.1); rintro e w38 ⟨v461, rfl, ho0, hb⟩; refine ⟨_, rfl, ?_⟩; have n0_ := Aside0.mk (Kd.R_elder' (by (with_reducible repeat (first | apply Kd.R_alloc | apply Kd.R_drewN | apply Kd.R_drew)); exact HO441.out) (Kd.R_base ho0) hb); have n1_ := Aside0.mk (Kd.R_below (by (with_reducible repeat (first | apply Kd.R_alloc | apply Kd.R_drewN | apply Kd.R_drew)); exact HO444.out) hb); have n2_ := Aside0.mk (Kd.R_elder' (by (with_reducible repeat (first | apply Kd.R_alloc | apply Kd.R_drewN | apply Kd.R_drew)); exact HO448.out) (Kd.R_base ho0) hb); have n3_ := Aside0.mk (Kd.R_elder' (by (with_reducible repeat (first | apply Kd.R_alloc | apply Kd.R_drewN | apply Kd.R_drew)); exact HO454.out) (Kd.R_base ho0) hb); have n4_ := Aside0.mk (Kd.R_below (by (with_reducible repeat (first | apply Kd.R_alloc | apply Kd.R_drewN | apply Kd.R_drew)); exact HO458.out) hb); have n5_ := Aside0.mk (Kd.R_lower (Kd.R_new' (Kd.R_new' (Kd.R_new' ho0 (Kd.R_lt (by (with_reducible repeat (first | apply Kd.R_alloc | apply Kd.R_drewN | apply Kd.R_drew)); exact HO441.out))) (Kd.R_lt (by (with_reducible repeat (first | apply Kd.R_alloc | apply Kd.R_drewN | apply Kd.R_drew)); exact HO448.out))) (Kd.R_lt (by (with_reducible repeat (first | apply Kd.R_alloc | apply Kd.R_drewN | apply Kd.R_drew)); exact HO454.out))) (below_size (by repeat (first | (with_reducible first | exact HB.out | apply below_alloc | apply pw_below_drewN | apply below_drew1 | refine below_set ?_ GE436.out | refine below_set ?_ GE450.out | refine below_set ?_ GE455.out) | exact HB.out)))); have n6_ := Aside0.mk (blk_below (g := gb436) (o := .cells #[.int .i64 a0_0, .slice A0_1 l0_1.length c0_1] 24 (0, 0)) (by (with_reducible repeat (first | refine blk_drewN ?_ _ | refine blk_drew ?_ | refine blk_alloc ?_ _)); exact BK436.out) hb); have n7_ := Aside0.mk (blk_below (g := gb450) (o := .cells #[.int .i64 t445, .slice Ao27 t446.length co27] 29 (0, 0)) (by (with_reducible repeat (first | refine blk_drewN ?_ _ | refine blk_drew ?_ | refine blk_alloc ?_ _)); exact BK450.out) hb); have n8_ := Aside0.mk (blk_below (g := gb455) (o := .cells #[.int .i64 t451, .slice Ao34 t452.length co34] 29 (0, 0)) (by (with_reducible repeat (first | refine blk_drewN ?_ _ | refine blk_drew ?_ | refine blk_alloc ?_ _)); exact BK455.out) hb); have n9_ := Aside0.mk (below_step (by repeat (first | (with_reducible first | exact HB.out | apply below_alloc | apply pw_below_drewN | apply below_drew1 | refine below_set ?_ GE436.out | refine below_set ?_ GE450.out | refine below_set ?_ GE455.out) | exact HB.out)) hb); clear HO441; clear HO444; clear HO448; clear HO454; clear HO458; clear BK436; clear BK450; clear BK455; clear HB; have HO441 := n0_; have HO444 := n1_; have HO448 := n2_; have HO454 := n3_; have HO458 := n4_; have HO462 := n5_; have BK436 := n6_; have BK450 := n7_; have BK455 := n8_; have HB := n9_; clear n0_ n1_ n2_ n3_ n4_ n5_ n6_ n7_ n8_ n9_; (try clear hb); (try clear hb2); (try clear hk); (try clear hi); (try clear ho0)) | ((with_reducible refine gate_dst (N := 10) rfl ?_); refine box_event ?hg (N := 10) ?hd (cs := #[.int .i64 0, .slice none 0 0]) (t := 29) ?hr ?_; (case hd => rfl); (case hg => rfl); (case hr => first | (go_simp; done) | (go_simp; rfl)); intro gb464 hg w39 hbox hb; have n0_ := Aside0.mk (Kd.R_below (by (with_reducible repeat (first | apply Kd.R_alloc | apply Kd.R_drewN | apply Kd.R_drew)); exact HO441.out) hb); have n1_ := Aside0.mk (Kd.R_below (by (with_reducible repeat (first | apply Kd.R_alloc | apply Kd.R_drewN | apply Kd.R_drew)); exact HO444.out) hb); have n2_ := Aside0.mk (Kd.R_below (by (with_reducible repeat (first | apply Kd.R_alloc | apply Kd.R_drewN | apply Kd.R_drew)); exact HO448.out) hb); have n3_ := Aside0.mk (Kd.R_below (by (with_reducible repeat (first | apply Kd.R_alloc | apply Kd.R_drewN | apply Kd.R_drew)); exact HO454.out) hb); have n4_ := Aside0.mk (Kd.R_below (by (with_reducible repeat (first | apply Kd.R_alloc | apply Kd.R_drewN | apply Kd.R_drew)); exact HO458.out) hb); have n5_ := Aside0.mk (Kd.R_below (by (with_reducible repeat (first | apply Kd.R_alloc | apply Kd.R_drewN | apply Kd.R_drew)); exact HO462.out) hb); have n6_ := Aside0.mk (blk_below (g := gb436) (o := .cells #[.int .i64 a0_0, .slice A0_1 l0_1.length c0_1] 24 (0, 0)) (by (with_reducible repeat (first | refine blk_drewN ?_ _ | refine blk_drew ?_ | refine blk_alloc ?_ _)); exact BK436.out) hb); have n7_ := Aside0.mk (blk_below (g := gb450) (o := .cells #[.int .i64 t445, .slice Ao27 t446.length co27] 29 (0, 0)) (by (with_reducible repeat (first | refine blk_drewN ?_ _ | refine blk_drew ?_ | refine blk_alloc ?_ _)); exact BK450.out) hb); have n8_ := Aside0.mk (blk_below (g := gb455) (o := .cells #[.int .i64 t451, .slice Ao34 t452.length co34] 29 (0, 0)) (by (with_reducible repeat (first | refine blk_drewN ?_ _ | refine blk_drew ?_ | refine blk_alloc ?_ _)); exact BK455.out) hb); have n9_ := Aside0.mk (below_step (by repeat (first | (with_reducible first | exact HB.out | apply below_alloc | apply pw_below_drewN | apply below_drew1 | refine below_set ?_ GE436.out | refine below_set ?_ GE450.out | refine below_set ?_ GE455.out) | exact HB.out)) hb); have n10_ := Aside0.mk (hbox); have n11_ := Aside0.mk ((by rw [hg]; exact (below_size (by repeat (first | (with_reducible first | exact HB.out | apply below_alloc | apply pw_below_drewN | apply below_drew1 | refine below_set ?_ GE436.out | refine below_set ?_ GE450.out | refine below_set ?_ GE455.out) | exact HB.out))) : w.heap.size ≤ gb464)); have n12_ := Aside0.mk ((by rw [hg]; exact (below_size (by repeat (first | (with_reducible first | exact HB.out | apply below_alloc | apply pw_below_drewN | apply below_drew1 | refine below_set ?_ GE436.out | refine below_set ?_ GE450.out | refine below_set ?_ GE455.out) | exact HB.out))) : w.heap.size ≤ gb464)); have n13_ := Aside0.mk ((by rw [hg]; exact Nat.ne_of_lt (blk_lt (g := gb436) (o := .cells #[.int .i64 a0_0, .slice A0_1 l0_1.length c0_1] 24 (0, 0)) (by (with_reducible repeat (first | refine blk_drewN ?_ _ | refine blk_drew ?_ | refine blk_alloc ?_ _)); exact BK436.out)) : gb436 ≠ gb464)); have n14_ := Aside0.mk ((by rw [hg]; exact Nat.ne_of_gt (blk_lt (g := gb436) (o := .cells #[.int .i64 a0_0, .slice A0_1 l0_1.length c0_1] 24 (0, 0)) (by (with_reducible repeat (first | refine blk_drewN ?_ _ | refine blk_drew ?_ | refine blk_alloc ?_ _)); exact BK436.out)) : gb464 ≠ gb436)); have n15_ := Aside0.mk ((by rw [hg]; exact Nat.ne_of_lt (blk_lt (g := gb450) (o := .cells #[.int .i64 t445, .slice Ao27 t446.length co27] 29 (0, 0)) (by (with_reducible repeat (first | refine blk_drewN ?_ _ | refine blk_drew ?_ | refine blk_alloc ?_ _)); exact BK450.out)) : gb450 ≠ gb464)); have n16_ := Aside0.mk ((by rw [hg]; exact Nat.ne_of_gt (blk_lt (g := gb450) (o := .cells #[.int .i64 t445, .slice Ao27 t446.length co27] 29 (0, 0)) (by (with_reducible repeat (first | refine blk_drewN ?_ _ | refine blk_drew ?_ | refine blk_alloc ?_ _)); exact BK450.out)) : gb464 ≠ gb450)); have n17_ := Aside0.mk ((by rw [hg]; exact Nat.ne_of_lt (blk_lt (g := gb455) (o := .cells #[.int .i64 t451, .slice Ao34 t452.length co34] 29 (0, 0)) (by (with_reducible repeat (first | refine blk_drewN ?_ _ | refine blk_drew ?_ | refine blk_alloc ?_ _)); exact BK455.out)) : gb455 ≠ gb464)); have n18_ := Aside0.mk ((by rw [hg]; exact Nat.ne_of_gt (blk_lt (g := gb455) (o := .cells #[.int .i64 t451, .slice Ao34 t452.length co34] 29 (0, 0)) (by (with_reducible repeat (first | refine blk_drewN ?_ _ | refine blk_drew ?_ | refine blk_alloc ?_ _)); exact BK455.out)) : gb464 ≠ gb455)); clear HO441; clear HO444; clear HO448; clear HO454; clear HO458; clear HO462; clear BK436; clear BK450; clear BK455; clear HB; have HO441 := n0_; have HO444 := n1_; have HO448 := n2_; have HO454 := n3_; have HO458 := n4_; have HO462 := n5_; have BK436 := n6_; have BK450 := n7_; have BK455 := n8_; have HB := n9_; have BK464 := n10_; have GW464 := n11_; have GE464 := n12_; have NB436_464 := n13_; have NB464_436 := n14_; have NB450_464 := n15_; have NB464_450 := n16_; have NB455_464 := n17_; have NB464_455 := n18_; clear n0_ n1_ n2_ n3_ n4_ n5_ n6_ n7_ n8_ n9_ n10_ n11_ n12_ n13_ n14_ n15_ n16_ n17_ n18_; clear hb hbox hg; have hnb40 := NB464_436.out; have hnc40 := NB436_464.out; have hnb41 := NB464_450.out; have hnc41 := NB450_464.out; have hnb42 := NB464_455.out; have hnc42 := NB455_464.out; have hcz43_0 : w39.cell? ⟨gb464, 0, none⟩ = some (.int .i64 0) := (blk_cell BK464.out 0).trans rfl; have hcz43_1 : w39.cell? ⟨gb464, 1, none⟩ = some (.slice none 0 0) := (blk_cell BK464.out 1).trans rfl; have hfz43_0 := blk_frozen BK464.out 0; have hfz43_1 := blk_frozen BK464.out 1; obtain ⟨Ao44, co44, eo44⟩ := Kd.R_slice HO462.out; subst eo44))
   (try simp only [Act.put, List.setIfInBounds_toArray, List.set_cons_zero, List.set_cons_succ])
   have H := HU17.out
   clear HU17
   have HC45 := Aside0.mk H
   clear H
   go_upto_region 11 with (fail)
   go_cut [51] (fun v51 wc => ∃ (kq : Nat) (x51_44 : Bool), v51 = .bool x51_44 ∧ Aside0 (laws_FnExactInducedGraph.j0 kq l1 t449 t456 t463 x51_44 a0_0 l0_1 t445 t446 t451 t452 t459 t460 = some r) ∧ Aside0 (kq ≤ k) ∧ Aside0 (Kd.R (Kd.int .i64) 3 wc w.heap.size (fun _ => True) (.slice Ao37 t456.length co37) t456) ∧ Aside0 (Kd.R k65 65 wc w.heap.size (fun k_ => some k_ ≠ ((.slice Ao34 t452.length co34) : Value).ownBlock ∧ some k_ ≠ ((.slice Ao44 t460.length co44) : Value).ownBlock) (.slice Ao27 t446.length co27) t446) ∧ Aside0 (Kd.R k65 65 wc w.heap.size (fun k_ => some k_ ≠ ((.slice Ao27 t446.length co27) : Value).ownBlock ∧ some k_ ≠ ((.slice Ao44 t460.length co44) : Value).ownBlock) (.slice Ao34 t452.length co34) t452) ∧ Aside0 (Kd.R k65 65 wc w.heap.size (fun k_ => some k_ ≠ ((.slice Ao27 t446.length co27) : Value).ownBlock ∧ some k_ ≠ ((.slice Ao34 t452.length co34) : Value).ownBlock) (.slice Ao44 t460.length co44) t460) ∧ Aside0 (wc.heap[gb436]? = some (.cells #[.int .i64 a0_0, (.slice A0_1 l0_1.length c0_1)] 24 (0, 0))) ∧ Aside0 (wc.heap[gb450]? = some (.cells #[.int .i64 t445, (.slice Ao27 t446.length co27)] 29 (0, 0))) ∧ Aside0 (wc.heap[gb455]? = some (.cells #[.int .i64 t451, (.slice Ao34 t452.length co34)] 29 (0, 0))) ∧ Aside0 (wc.heap[gb464]? = some (.cells #[.int .i64 t459, (.slice Ao44 t460.length co44)] 29 (0, 0))) ∧ Aside0 (Below w.heap.size w wc))
   case first =>
    have H := HC45.out
    clear HC45
    replace H := Option.bind_eq_some_iff.mp H
    obtain ⟨t465, A460, H⟩ := H
    replace H : (if t465 = true then (laws_FnExactInducedGraph.j0 k l1 t449 t456 t463 (t463 != t449) a0_0 l0_1 t445 t446 t451 t452 t459 t460) else (laws_FnExactInducedGraph.j0 k l1 t449 t456 t463 true a0_0 l0_1 t445 t446 t451 t452 t459 t460)) = some r := H
    have A46 := Aside0.mk A460
    clear A460
    by_cases c47 : t465 = true
    ·subst c47
     have H1 : (laws_FnExactInducedGraph.j0 k l1 t449 t456 t463 (t463 != t449) a0_0 l0_1 t445 t446 t451 t452 t459 t460) = some r := by rw [if_pos rfl] at H; exact H
     clear H
     have H := H1
     clear H1
     have H' := Aside0.mk H
     clear H
     have hnb48 := NB464_436.out
     have hnc48 := NB436_464.out
     have hnb49 := NB464_450.out
     have hnc49 := NB450_464.out
     have hnb50 := NB464_455.out
     have hnc50 := NB455_464.out
     have hcz51_0 : w39.cell? ⟨gb464, 0, none⟩ = some (.int .i64 0) := (blk_cell BK464.out 0).trans rfl
     have hcz51_1 : w39.cell? ⟨gb464, 1, none⟩ = some (.slice none 0 0) := (blk_cell BK464.out 1).trans rfl
     have hfz51_0 := blk_frozen BK464.out 0
     have hfz51_1 := blk_frozen BK464.out 1
     have hnb52 := NB450_436.out
     have hnc52 := NB436_450.out
     have hnb53 := NB450_455.out
     have hnc53 := NB455_450.out
     have hcz54_0 : w39.cell? ⟨gb450, 0, none⟩ = some (.int .i64 t445) := (blk_cell BK450.out 0).trans rfl
     have hcz54_1 : w39.cell? ⟨gb450, 1, none⟩ = some (.slice Ao27 t446.length co27) := (blk_cell BK450.out 1).trans rfl
     have hfz54_0 := blk_frozen BK450.out 0
     have hfz54_1 := blk_frozen BK450.out 1
     go_wp2_with (first | ((with_reducible refine gate_callee (f := 20) rfl ?_); refine goesL_ (some 45) rfl rfl Try.func20 (by kernel_rfl) rfl #[.agg #[.int .i64 t459, .slice Ao44 t460.length co44], .agg #[.int .i64 t445, .slice Ao27 t446.length co27]] rfl (by (try simp only [List.map_toArray, List.map_cons, List.map_nil]); first | done | rfl | (simp only [List.length_drop, List.length_take]; rfl)) ?_; (with_reducible refine (laws_eqGraph.calls k t459 _ _ t460 t445 _ _ t446 true _ ?side1 ?side2 ?side3 ?side4 A46.out).mono ?_); (case side1 => refine (Kd.R_reads' (e := 65) (base := w.heap.size) (ok := fun k_ => (((True ∧ some k_ ≠ (.slice Ao21 t439.length co21 : Value).ownBlock) ∧ some k_ ≠ (.slice Ao27 t446.length co27 : Value).ownBlock) ∧ some k_ ≠ (.slice Ao34 t452.length co34 : Value).ownBlock)) (n := t460.length) (c := co44) ?_).2.2; exact (by (with_reducible repeat (first | apply Kd.R_alloc | apply Kd.R_drewN | apply Kd.R_drew)); exact (Kd.R_mono (Kd.R_far (p := ⟨gb464, 1, none⟩) (Kd.R_far (p := ⟨gb464, 0, none⟩) (Kd.R_types HO462.out BK464.out (by decide)) (fun _ hk => hk.2) (.int .i64 t459)) (fun _ hk => hk.2) (.slice Ao44 t460.length co44)) (fun _ h_ => h_.1)))); (case side2 => exact (Kd.R_reads' HO462.out).2.1); (case side3 => refine (Kd.R_reads' (e := 65) (base := w.heap.size) (ok := fun k_ => (((True ∧ some k_ ≠ (.slice Ao21 t439.length co21 : Value).ownBlock) ∧ some k_ ≠ (.slice Ao34 t452.length co34 : Value).ownBlock) ∧ some k_ ≠ (.slice Ao44 t460.length co44 : Value).ownBlock)) (n := t446.length) (c := co27) ?_).2.2; exact (by (with_reducible repeat (first | apply Kd.R_alloc | apply Kd.R_drewN | apply Kd.R_drew)); exact (Kd.R_mono (Kd.R_far (p := ⟨gb464, 1, none⟩) (Kd.R_far (p := ⟨gb464, 0, none⟩) (Kd.R_types HO448.out BK464.out (by decide)) (fun _ hk => hk.2) (.int .i64 t459)) (fun _ hk => hk.2) (.slice Ao44 t460.length co44)) (fun _ h_ => h_.1)))); (case side4 => exact (Kd.R_reads' HO448.out).2.1); rintro e w55 ⟨rfl, hb⟩; refine ⟨_, rfl, ?_⟩; have n0_ := Aside0.mk (Kd.R_below (by (with_reducible repeat (first | apply Kd.R_alloc | apply Kd.R_drewN | apply Kd.R_drew)); exact (Kd.R_mono (Kd.R_far (p := ⟨gb464, 1, none⟩) (Kd.R_far (p := ⟨gb464, 0, none⟩) (Kd.R_types HO441.out BK464.out (by decide)) (fun _ hk => hk.2) (.int .i64 t459)) (fun _ hk => hk.2) (.slice Ao44 t460.length co44)) (fun _ h_ => h_.1))) hb); have n1_ := Aside0.mk (Kd.R_below (by (with_reducible repeat (first | apply Kd.R_alloc | apply Kd.R_drewN | apply Kd.R_drew)); exact (Kd.R_mono (Kd.R_far (p := ⟨gb464, 1, none⟩) (Kd.R_far (p := ⟨gb464, 0, none⟩) (Kd.R_types HO444.out BK464.out (by decide)) (fun _ hk => hk.2) (.int .i64 t459)) (fun _ hk => hk.2) (.slice Ao44 t460.length co44)) (fun _ h_ => h_.1))) hb); have n2_ := Aside0.mk (Kd.R_below (by (with_reducible repeat (first | apply Kd.R_alloc | apply Kd.R_drewN | apply Kd.R_drew)); exact (Kd.R_mono (Kd.R_far (p := ⟨gb464, 1, none⟩) (Kd.R_far (p := ⟨gb464, 0, none⟩) (Kd.R_types HO448.out BK464.out (by decide)) (fun _ hk => hk.2) (.int .i64 t459)) (fun _ hk => hk.2) (.slice Ao44 t460.length co44)) (fun _ h_ => h_.1))) hb); have n3_ := Aside0.mk (Kd.R_below (by (with_reducible repeat (first | apply Kd.R_alloc | apply Kd.R_drewN | apply Kd.R_drew)); exact (Kd.R_mono (Kd.R_far (p := ⟨gb464, 1, none⟩) (Kd.R_far (p := ⟨gb464, 0, none⟩) (Kd.R_types HO454.out BK464.out (by decide)) (fun _ hk => hk.2) (.int .i64 t459)) (fun _ hk => hk.2) (.slice Ao44 t460.length co44)) (fun _ h_ => h_.1))) hb); have n4_ := Aside0.mk (Kd.R_below (by (with_reducible repeat (first | apply Kd.R_alloc | apply Kd.R_drewN | apply Kd.R_drew)); exact (Kd.R_mono (Kd.R_far (p := ⟨gb464, 1, none⟩) (Kd.R_far (p := ⟨gb464, 0, none⟩) (Kd.R_types HO458.out BK464.out (by decide)) (fun _ hk => hk.2) (.int .i64 t459)) (fun _ hk => hk.2) (.slice Ao44 t460.length co44)) (fun _ h_ => h_.1))) hb); have n5_ := Aside0.mk (Kd.R_below (by (with_reducible repeat (first | apply Kd.R_alloc | apply Kd.R_drewN | apply Kd.R_drew)); exact (Kd.R_mono (Kd.R_far (p := ⟨gb464, 1, none⟩) (Kd.R_far (p := ⟨gb464, 0, none⟩) (Kd.R_types HO462.out BK464.out (by decide)) (fun _ hk => hk.2) (.int .i64 t459)) (fun _ hk => hk.2) (.slice Ao44 t460.length co44)) (fun _ h_ => h_.1))) hb); have n6_ := Aside0.mk (blk_below (g := gb436) (o := .cells #[.int .i64 a0_0, .slice A0_1 l0_1.length c0_1] 24 (0, 0)) (by (with_reducible repeat (first | refine blk_drewN ?_ _ | refine blk_drew ?_ | refine blk_alloc ?_ _)); refine blk_far ?_ NB436_464.out _; (with_reducible repeat (first | refine blk_drewN ?_ _ | refine blk_drew ?_ | refine blk_alloc ?_ _)); refine blk_far ?_ NB436_464.out _; (with_reducible repeat (first | refine blk_drewN ?_ _ | refine blk_drew ?_ | refine blk_alloc ?_ _)); exact BK436.out) hb); have n7_ := Aside0.mk (blk_below (g := gb450) (o := .cells #[.int .i64 t445, .slice Ao27 t446.length co27] 29 (0, 0)) (by (with_reducible repeat (first | refine blk_drewN ?_ _ | refine blk_drew ?_ | refine blk_alloc ?_ _)); refine blk_far ?_ NB450_464.out _; (with_reducible repeat (first | refine blk_drewN ?_ _ | refine blk_drew ?_ | refine blk_alloc ?_ _)); refine blk_far ?_ NB450_464.out _; (with_reducible repeat (first | refine blk_drewN ?_ _ | refine blk_drew ?_ | refine blk_alloc ?_ _)); exact BK450.out) hb); have n8_ := Aside0.mk (blk_below (g := gb455) (o := .cells #[.int .i64 t451, .slice Ao34 t452.length co34] 29 (0, 0)) (by (with_reducible repeat (first | refine blk_drewN ?_ _ | refine blk_drew ?_ | refine blk_alloc ?_ _)); refine blk_far ?_ NB455_464.out _; (with_reducible repeat (first | refine blk_drewN ?_ _ | refine blk_drew ?_ | refine blk_alloc ?_ _)); refine blk_far ?_ NB455_464.out _; (with_reducible repeat (first | refine blk_drewN ?_ _ | refine blk_drew ?_ | refine blk_alloc ?_ _)); exact BK455.out) hb); have n9_ := Aside0.mk (blk_below (g := gb464) (o := .cells #[.int .i64 t459, .slice Ao44 t460.length co44] 29 (0, 0)) (by (with_reducible repeat (first | refine blk_drewN ?_ _ | refine blk_drew ?_ | refine blk_alloc ?_ _)); refine blk_put (cs := #[.int .i64 t459, .slice none 0 0]) ?_ 1 _ rfl; (with_reducible repeat (first | refine blk_drewN ?_ _ | refine blk_drew ?_ | refine blk_alloc ?_ _)); refine blk_put (cs := #[.int .i64 0, .slice none 0 0]) ?_ 0 _ rfl; (with_reducible repeat (first | refine blk_drewN ?_ _ | refine blk_drew ?_ | refine blk_alloc ?_ _)); exact BK464.out) hb); have n10_ := Aside0.mk (below_step (by repeat (first | (with_reducible first | exact HB.out | apply below_alloc | apply pw_below_drewN | apply below_drew1 | refine below_set ?_ GE436.out | refine below_set ?_ GE450.out | refine below_set ?_ GE455.out | refine below_set ?_ GE464.out) | exact HB.out)) hb); clear HO441; clear HO444; clear HO448; clear HO454; clear HO458; clear HO462; clear BK436; clear BK450; clear BK455; clear BK464; clear HB; have HO441 := n0_; have HO444 := n1_; have HO448 := n2_; have HO454 := n3_; have HO458 := n4_; have HO462 := n5_; have BK436 := n6_; have BK450 := n7_; have BK455 := n8_; have BK464 := n9_; have HB := n10_; clear n0_ n1_ n2_ n3_ n4_ n5_ n6_ n7_ n8_ n9_ n10_; (try clear hb); (try clear hb2); (try clear hk); (try clear hi)))
     go_meet
     case rel => exact ⟨_, ((t463 != t449)), (by first | rfl | (simp; done) | (simp [*]; done)), H', ⟨by first | omega | exact Nat.le_refl _⟩, ⟨by (with_reducible repeat (first | apply Kd.R_alloc | apply Kd.R_drewN | apply Kd.R_drew)); exact Kd.R_mono HO458.out (fun _ hk => trivial)⟩, ⟨by (with_reducible repeat (first | apply Kd.R_alloc | apply Kd.R_drewN | apply Kd.R_drew)); exact Kd.R_mono HO448.out (fun _ hk => ⟨hk.1.2, hk.2⟩)⟩, ⟨by (with_reducible repeat (first | apply Kd.R_alloc | apply Kd.R_drewN | apply Kd.R_drew)); exact Kd.R_mono HO454.out (fun _ hk => ⟨hk.1.2, hk.2⟩)⟩, ⟨by (with_reducible repeat (first | apply Kd.R_alloc | apply Kd.R_drewN | apply Kd.R_drew)); exact Kd.R_mono HO462.out (fun _ hk => ⟨hk.1.2, hk.2⟩)⟩, ⟨by (with_reducible repeat (first | refine blk_drewN ?_ _ | refine blk_drew ?_ | refine blk_alloc ?_ _)); exact BK436.out⟩, ⟨by (with_reducible repeat (first | refine blk_drewN ?_ _ | refine blk_drew ?_ | refine blk_alloc ?_ _)); exact BK450.out⟩, ⟨by (with_reducible repeat (first | refine blk_drewN ?_ _ | refine blk_drew ?_ | refine blk_alloc ?_ _)); exact BK455.out⟩, ⟨by (with_reducible repeat (first | refine blk_drewN ?_ _ | refine blk_drew ?_ | refine blk_alloc ?_ _)); exact BK464.out⟩, ⟨by repeat (first | (with_reducible first | exact HB.out | apply below_alloc | apply pw_below_drewN | apply below_drew1 | refine below_set ?_ GE436.out | refine below_set ?_ GE450.out | refine below_set ?_ GE455.out | refine below_set ?_ GE464.out) | exact HB.out)⟩⟩
    ·replace c47 := Bool.eq_false_iff.mpr c47
     subst c47
     have H1 : (laws_FnExactInducedGraph.j0 k l1 t449 t456 t463 true a0_0 l0_1 t445 t446 t451 t452 t459 t460) = some r := by rw [if_neg (show ¬ (false = true) by decide)] at H; exact H
     clear H
     have H := H1
     clear H1
     have H' := Aside0.mk H
     clear H
     have hnb56 := NB464_436.out
     have hnc56 := NB436_464.out
     have hnb57 := NB464_450.out
     have hnc57 := NB450_464.out
     have hnb58 := NB464_455.out
     have hnc58 := NB455_464.out
     have hcz59_0 : w39.cell? ⟨gb464, 0, none⟩ = some (.int .i64 0) := (blk_cell BK464.out 0).trans rfl
     have hcz59_1 : w39.cell? ⟨gb464, 1, none⟩ = some (.slice none 0 0) := (blk_cell BK464.out 1).trans rfl
     have hfz59_0 := blk_frozen BK464.out 0
     have hfz59_1 := blk_frozen BK464.out 1
     have hnb60 := NB450_436.out
     have hnc60 := NB436_450.out
     have hnb61 := NB450_455.out
     have hnc61 := NB455_450.out
     have hcz62_0 : w39.cell? ⟨gb450, 0, none⟩ = some (.int .i64 t445) := (blk_cell BK450.out 0).trans rfl
     have hcz62_1 : w39.cell? ⟨gb450, 1, none⟩ = some (.slice Ao27 t446.length co27) := (blk_cell BK450.out 1).trans rfl
     have hfz62_0 := blk_frozen BK450.out 0
     have hfz62_1 := blk_frozen BK450.out 1
     go_wp2_with (first | ((with_reducible refine gate_callee (f := 20) rfl ?_); refine goesL_ (some 45) rfl rfl Try.func20 (by kernel_rfl) rfl #[.agg #[.int .i64 t459, .slice Ao44 t460.length co44], .agg #[.int .i64 t445, .slice Ao27 t446.length co27]] rfl (by (try simp only [List.map_toArray, List.map_cons, List.map_nil]); first | done | rfl | (simp only [List.length_drop, List.length_take]; rfl)) ?_; (with_reducible refine (laws_eqGraph.calls k t459 _ _ t460 t445 _ _ t446 false _ ?side1 ?side2 ?side3 ?side4 A46.out).mono ?_); (case side1 => refine (Kd.R_reads' (e := 65) (base := w.heap.size) (ok := fun k_ => (((True ∧ some k_ ≠ (.slice Ao21 t439.length co21 : Value).ownBlock) ∧ some k_ ≠ (.slice Ao27 t446.length co27 : Value).ownBlock) ∧ some k_ ≠ (.slice Ao34 t452.length co34 : Value).ownBlock)) (n := t460.length) (c := co44) ?_).2.2; exact (by (with_reducible repeat (first | apply Kd.R_alloc | apply Kd.R_drewN | apply Kd.R_drew)); exact (Kd.R_mono (Kd.R_far (p := ⟨gb464, 1, none⟩) (Kd.R_far (p := ⟨gb464, 0, none⟩) (Kd.R_types HO462.out BK464.out (by decide)) (fun _ hk => hk.2) (.int .i64 t459)) (fun _ hk => hk.2) (.slice Ao44 t460.length co44)) (fun _ h_ => h_.1)))); (case side2 => exact (Kd.R_reads' HO462.out).2.1); (case side3 => refine (Kd.R_reads' (e := 65) (base := w.heap.size) (ok := fun k_ => (((True ∧ some k_ ≠ (.slice Ao21 t439.length co21 : Value).ownBlock) ∧ some k_ ≠ (.slice Ao34 t452.length co34 : Value).ownBlock) ∧ some k_ ≠ (.slice Ao44 t460.length co44 : Value).ownBlock)) (n := t446.length) (c := co27) ?_).2.2; exact (by (with_reducible repeat (first | apply Kd.R_alloc | apply Kd.R_drewN | apply Kd.R_drew)); exact (Kd.R_mono (Kd.R_far (p := ⟨gb464, 1, none⟩) (Kd.R_far (p := ⟨gb464, 0, none⟩) (Kd.R_types HO448.out BK464.out (by decide)) (fun _ hk => hk.2) (.int .i64 t459)) (fun _ hk => hk.2) (.slice Ao44 t460.length co44)) (fun _ h_ => h_.1)))); (case side4 => exact (Kd.R_reads' HO448.out).2.1); rintro e w63 ⟨rfl, hb⟩; refine ⟨_, rfl, ?_⟩; have n0_ := Aside0.mk (Kd.R_below (by (with_reducible repeat (first | apply Kd.R_alloc | apply Kd.R_drewN | apply Kd.R_drew)); exact (Kd.R_mono (Kd.R_far (p := ⟨gb464, 1, none⟩) (Kd.R_far (p := ⟨gb464, 0, none⟩) (Kd.R_types HO441.out BK464.out (by decide)) (fun _ hk => hk.2) (.int .i64 t459)) (fun _ hk => hk.2) (.slice Ao44 t460.length co44)) (fun _ h_ => h_.1))) hb); have n1_ := Aside0.mk (Kd.R_below (by (with_reducible repeat (first | apply Kd.R_alloc | apply Kd.R_drewN | apply Kd.R_drew)); exact (Kd.R_mono (Kd.R_far (p := ⟨gb464, 1, none⟩) (Kd.R_far (p := ⟨gb464, 0, none⟩) (Kd.R_types HO444.out BK464.out (by decide)) (fun _ hk => hk.2) (.int .i64 t459)) (fun _ hk => hk.2) (.slice Ao44 t460.length co44)) (fun _ h_ => h_.1))) hb); have n2_ := Aside0.mk (Kd.R_below (by (with_reducible repeat (first | apply Kd.R_alloc | apply Kd.R_drewN | apply Kd.R_drew)); exact (Kd.R_mono (Kd.R_far (p := ⟨gb464, 1, none⟩) (Kd.R_far (p := ⟨gb464, 0, none⟩) (Kd.R_types HO448.out BK464.out (by decide)) (fun _ hk => hk.2) (.int .i64 t459)) (fun _ hk => hk.2) (.slice Ao44 t460.length co44)) (fun _ h_ => h_.1))) hb); have n3_ := Aside0.mk (Kd.R_below (by (with_reducible repeat (first | apply Kd.R_alloc | apply Kd.R_drewN | apply Kd.R_drew)); exact (Kd.R_mono (Kd.R_far (p := ⟨gb464, 1, none⟩) (Kd.R_far (p := ⟨gb464, 0, none⟩) (Kd.R_types HO454.out BK464.out (by decide)) (fun _ hk => hk.2) (.int .i64 t459)) (fun _ hk => hk.2) (.slice Ao44 t460.length co44)) (fun _ h_ => h_.1))) hb); have n4_ := Aside0.mk (Kd.R_below (by (with_reducible repeat (first | apply Kd.R_alloc | apply Kd.R_drewN | apply Kd.R_drew)); exact (Kd.R_mono (Kd.R_far (p := ⟨gb464, 1, none⟩) (Kd.R_far (p := ⟨gb464, 0, none⟩) (Kd.R_types HO458.out BK464.out (by decide)) (fun _ hk => hk.2) (.int .i64 t459)) (fun _ hk => hk.2) (.slice Ao44 t460.length co44)) (fun _ h_ => h_.1))) hb); have n5_ := Aside0.mk (Kd.R_below (by (with_reducible repeat (first | apply Kd.R_alloc | apply Kd.R_drewN | apply Kd.R_drew)); exact (Kd.R_mono (Kd.R_far (p := ⟨gb464, 1, none⟩) (Kd.R_far (p := ⟨gb464, 0, none⟩) (Kd.R_types HO462.out BK464.out (by decide)) (fun _ hk => hk.2) (.int .i64 t459)) (fun _ hk => hk.2) (.slice Ao44 t460.length co44)) (fun _ h_ => h_.1))) hb); have n6_ := Aside0.mk (blk_below (g := gb436) (o := .cells #[.int .i64 a0_0, .slice A0_1 l0_1.length c0_1] 24 (0, 0)) (by (with_reducible repeat (first | refine blk_drewN ?_ _ | refine blk_drew ?_ | refine blk_alloc ?_ _)); refine blk_far ?_ NB436_464.out _; (with_reducible repeat (first | refine blk_drewN ?_ _ | refine blk_drew ?_ | refine blk_alloc ?_ _)); refine blk_far ?_ NB436_464.out _; (with_reducible repeat (first | refine blk_drewN ?_ _ | refine blk_drew ?_ | refine blk_alloc ?_ _)); exact BK436.out) hb); have n7_ := Aside0.mk (blk_below (g := gb450) (o := .cells #[.int .i64 t445, .slice Ao27 t446.length co27] 29 (0, 0)) (by (with_reducible repeat (first | refine blk_drewN ?_ _ | refine blk_drew ?_ | refine blk_alloc ?_ _)); refine blk_far ?_ NB450_464.out _; (with_reducible repeat (first | refine blk_drewN ?_ _ | refine blk_drew ?_ | refine blk_alloc ?_ _)); refine blk_far ?_ NB450_464.out _; (with_reducible repeat (first | refine blk_drewN ?_ _ | refine blk_drew ?_ | refine blk_alloc ?_ _)); exact BK450.out) hb); have n8_ := Aside0.mk (blk_below (g := gb455) (o := .cells #[.int .i64 t451, .slice Ao34 t452.length co34] 29 (0, 0)) (by (with_reducible repeat (first | refine blk_drewN ?_ _ | refine blk_drew ?_ | refine blk_alloc ?_ _)); refine blk_far ?_ NB455_464.out _; (with_reducible repeat (first | refine blk_drewN ?_ _ | refine blk_drew ?_ | refine blk_alloc ?_ _)); refine blk_far ?_ NB455_464.out _; (with_reducible repeat (first | refine blk_drewN ?_ _ | refine blk_drew ?_ | refine blk_alloc ?_ _)); exact BK455.out) hb); have n9_ := Aside0.mk (blk_below (g := gb464) (o := .cells #[.int .i64 t459, .slice Ao44 t460.length co44] 29 (0, 0)) (by (with_reducible repeat (first | refine blk_drewN ?_ _ | refine blk_drew ?_ | refine blk_alloc ?_ _)); refine blk_put (cs := #[.int .i64 t459, .slice none 0 0]) ?_ 1 _ rfl; (with_reducible repeat (first | refine blk_drewN ?_ _ | refine blk_drew ?_ | refine blk_alloc ?_ _)); refine blk_put (cs := #[.int .i64 0, .slice none 0 0]) ?_ 0 _ rfl; (with_reducible repeat (first | refine blk_drewN ?_ _ | refine blk_drew ?_ | refine blk_alloc ?_ _)); exact BK464.out) hb); have n10_ := Aside0.mk (below_step (by repeat (first | (with_reducible first | exact HB.out | apply below_alloc | apply pw_below_drewN | apply below_drew1 | refine below_set ?_ GE436.out | refine below_set ?_ GE450.out | refine below_set ?_ GE455.out | refine below_set ?_ GE464.out) | exact HB.out)) hb); clear HO441; clear HO444; clear HO448; clear HO454; clear HO458; clear HO462; clear BK436; clear BK450; clear BK455; clear BK464; clear HB; have HO441 := n0_; have HO444 := n1_; have HO448 := n2_; have HO454 := n3_; have HO458 := n4_; have HO462 := n5_; have BK436 := n6_; have BK450 := n7_; have BK455 := n8_; have BK464 := n9_; have HB := n10_; clear n0_ n1_ n2_ n3_ n4_ n5_ n6_ n7_ n8_ n9_ n10_; (try clear hb); (try clear hb2); (try clear hk); (try clear hi)))
     go_meet
     case rel => exact ⟨_, (true), (by first | rfl | (simp; done) | (simp [*]; done)), H', ⟨by first | omega | exact Nat.le_refl _⟩, ⟨by (with_reducible repeat (first | apply Kd.R_alloc | apply Kd.R_drewN | apply Kd.R_drew)); exact Kd.R_mono HO458.out (fun _ hk => trivial)⟩, ⟨by (with_reducible repeat (first | apply Kd.R_alloc | apply Kd.R_drewN | apply Kd.R_drew)); exact Kd.R_mono HO448.out (fun _ hk => ⟨hk.1.2, hk.2⟩)⟩, ⟨by (with_reducible repeat (first | apply Kd.R_alloc | apply Kd.R_drewN | apply Kd.R_drew)); exact Kd.R_mono HO454.out (fun _ hk => ⟨hk.1.2, hk.2⟩)⟩, ⟨by (with_reducible repeat (first | apply Kd.R_alloc | apply Kd.R_drewN | apply Kd.R_drew)); exact Kd.R_mono HO462.out (fun _ hk => ⟨hk.1.2, hk.2⟩)⟩, ⟨by (with_reducible repeat (first | refine blk_drewN ?_ _ | refine blk_drew ?_ | refine blk_alloc ?_ _)); exact BK436.out⟩, ⟨by (with_reducible repeat (first | refine blk_drewN ?_ _ | refine blk_drew ?_ | refine blk_alloc ?_ _)); exact BK450.out⟩, ⟨by (with_reducible repeat (first | refine blk_drewN ?_ _ | refine blk_drew ?_ | refine blk_alloc ?_ _)); exact BK455.out⟩, ⟨by (with_reducible repeat (first | refine blk_drewN ?_ _ | refine blk_drew ?_ | refine blk_alloc ?_ _)); exact BK464.out⟩, ⟨by repeat (first | (with_reducible first | exact HB.out | apply below_alloc | apply pw_below_drewN | apply below_drew1 | refine below_set ?_ GE436.out | refine below_set ?_ GE450.out | refine below_set ?_ GE455.out | refine below_set ?_ GE464.out) | exact HB.out)⟩⟩
   case rest =>
    clear HC45
    try clear c1
    try clear c2
    try clear p2
    try clear c3
    try clear c4
    try clear c5
    try clear c5b0
    try clear c5b1
    try clear c6
    try clear c10
    try clear c10b0
    try clear c11
    try clear c15
    try clear c17
    try clear c18
    try clear c20
    try clear c25
    try clear c31
    try clear c32
    try clear c40
    try clear c41
    try clear c42
    try clear c43
    try clear c44
    try clear c47
    try clear c48
    try clear c49
    try clear c50
    try clear c52
    try clear c53
    try clear c56
    try clear c57
    try clear c58
    try clear c60
    try clear c61
    try clear hcz18_0
    try clear hcz18_1
    try clear hcz26_0
    try clear hcz26_1
    try clear hcz28_0
    try clear hcz28_1
    try clear hcz33_0
    try clear hcz33_1
    try clear hcz36_0
    try clear hcz36_1
    try clear hcz43_0
    try clear hcz43_1
    try clear hcz51_0
    try clear hcz51_1
    try clear hcz54_0
    try clear hcz54_1
    try clear hcz59_0
    try clear hcz59_1
    try clear hcz62_0
    try clear hcz62_1
    try clear hcz8_0
    try clear hcz8_1
    try clear hfz18_0
    try clear hfz18_1
    try clear hfz26_0
    try clear hfz26_1
    try clear hfz28_0
    try clear hfz28_1
    try clear hfz33_0
    try clear hfz33_1
    try clear hfz36_0
    try clear hfz36_1
    try clear hfz43_0
    try clear hfz43_1
    try clear hfz51_0
    try clear hfz51_1
    try clear hfz54_0
    try clear hfz54_1
    try clear hfz59_0
    try clear hfz59_1
    try clear hfz62_0
    try clear hfz62_1
    try clear hfz8_0
    try clear hfz8_1
    obtain ⟨kq, x51_44, rfl, HA, HJ44, HO_9, HO_451001, HO_456001, HO_465001, BK436, BK450, BK455, BK464, HB⟩ := hcut
    cases kq with
    | zero => exact absurd HA.out (by simp [laws_FnExactInducedGraph.j0])
    | succ kj44 =>
     have H := HA.out
     clear HA
     simp only [laws_FnExactInducedGraph.j0] at H
     by_cases c64 : x51_44 = true
     ·subst c64
      have H1 : (some false) = some r := by rw [if_pos rfl] at H; exact H
      clear H
      have H := H1
      clear H1
      obtain rfl := Option.some.inj H
      go_wp2
      go_ret
      exact ⟨by first | rfl | (simp [errW_none, errW_some] <;> rfl) | (simp [*, errW_none, errW_some] <;> rfl), by repeat (first | (with_reducible first | exact HB.out | apply below_alloc | apply pw_below_drewN | apply below_drew1 | refine below_set ?_ GE436.out | refine below_set ?_ GE450.out | refine below_set ?_ GE455.out | refine below_set ?_ GE464.out) | exact HB.out)⟩
     ·replace c64 := Bool.eq_false_iff.mpr c64
      subst c64
      have H1 : ((laws_toGraph.f kj44 a0_0 l0_1).bind fun bt466 => ((laws_eqGraph.f kj44 t451 t452 bt466.1 bt466.2).bind fun t470 => (if t470 = true then ((laws_toIntS.f kj44 l1).bind fun t471 => ((laws_eqIntS.f kj44 t456 t471).bind fun t474 => (if t474 = true then ((laws_markGraph.f kj44 t451 t452 1).bind fun bt475 => ((laws_markIntS.f kj44 t456 bt475.1).bind fun bt477 => (if bt477.1 < 0 then (laws_FnExactInducedGraph.j1 kj44 l1 t449 true a0_0 l0_1 t445 t446 t459 t460) else ((laws_eqGraph.f kj44 t459 t460 t445 t446).bind fun t479 => (if t479 = true then (laws_FnExactInducedGraph.j1 kj44 l1 t449 (t463 != t449) a0_0 l0_1 t445 t446 t459 t460) else (laws_FnExactInducedGraph.j1 kj44 l1 t449 true a0_0 l0_1 t445 t446 t459 t460)))))) else (some false)))) else (some false)))) = some r := by rw [if_neg (show ¬ (false = true) by decide)] at H; exact H
      clear H
      have H := H1
      clear H1
      replace H := Option.bind_eq_some_iff.mp H
      obtain ⟨⟨t466, t467⟩, A650, H⟩ := H
      replace H : ((laws_eqGraph.f kj44 t451 t452 t466 t467).bind fun t470 => (if t470 = true then ((laws_toIntS.f kj44 l1).bind fun t471 => ((laws_eqIntS.f kj44 t456 t471).bind fun t474 => (if t474 = true then ((laws_markGraph.f kj44 t451 t452 1).bind fun bt475 => ((laws_markIntS.f kj44 t456 bt475.1).bind fun bt477 => (if bt477.1 < 0 then (laws_FnExactInducedGraph.j1 kj44 l1 t449 true a0_0 l0_1 t445 t446 t459 t460) else ((laws_eqGraph.f kj44 t459 t460 t445 t446).bind fun t479 => (if t479 = true then (laws_FnExactInducedGraph.j1 kj44 l1 t449 (t463 != t449) a0_0 l0_1 t445 t446 t459 t460) else (laws_FnExactInducedGraph.j1 kj44 l1 t449 true a0_0 l0_1 t445 t446 t459 t460)))))) else (some false)))) else (some false))) = some r := H
      have A65 := Aside0.mk A650
      clear A650
      replace H := Option.bind_eq_some_iff.mp H
      obtain ⟨t470, A660, H⟩ := H
      replace H : (if t470 = true then ((laws_toIntS.f kj44 l1).bind fun t471 => ((laws_eqIntS.f kj44 t456 t471).bind fun t474 => (if t474 = true then ((laws_markGraph.f kj44 t451 t452 1).bind fun bt475 => ((laws_markIntS.f kj44 t456 bt475.1).bind fun bt477 => (if bt477.1 < 0 then (laws_FnExactInducedGraph.j1 kj44 l1 t449 true a0_0 l0_1 t445 t446 t459 t460) else ((laws_eqGraph.f kj44 t459 t460 t445 t446).bind fun t479 => (if t479 = true then (laws_FnExactInducedGraph.j1 kj44 l1 t449 (t463 != t449) a0_0 l0_1 t445 t446 t459 t460) else (laws_FnExactInducedGraph.j1 kj44 l1 t449 true a0_0 l0_1 t445 t446 t459 t460)))))) else (some false)))) else (some false)) = some r := H
      have A66 := Aside0.mk A660
      clear A660
      have HU67 := Aside0.mk H
      clear H
      try go_wp2
      have n0_ := Aside0.mk (Kd.R_drew HO_9.out)
      have n1_ := Aside0.mk (Kd.R_drew HO_451001.out)
      have n2_ := Aside0.mk (Kd.R_drew HO_456001.out)
      have n3_ := Aside0.mk (Kd.R_drew HO_465001.out)
      have n4_ := Aside0.mk (blk_drew BK436.out)
      have n5_ := Aside0.mk (blk_drew BK450.out)
      have n6_ := Aside0.mk (blk_drew BK455.out)
      have n7_ := Aside0.mk (blk_drew BK464.out)
      have n8_ := Aside0.mk (below_drew1 HB.out)
      clear HO_9
      clear HO_451001
      clear HO_456001
      clear HO_465001
      clear BK436
      clear BK450
      clear BK455
      clear BK464
      clear HB
      have HO_9 := n0_
      have HO_451001 := n1_
      have HO_456001 := n2_
      have HO_465001 := n3_
      have BK436 := n4_
      have BK450 := n5_
      have BK455 := n6_
      have BK464 := n7_
      have HB := n8_
      clear n0_ n1_ n2_ n3_ n4_ n5_ n6_ n7_ n8_
      refine start_ (n := 5) (S := fun w' => w'.cell? ⟨gb455, 0, none⟩ = some (.int .i64 t451) ∧ w'.cell? ⟨gb455, 1, none⟩ = some (.slice Ao34 t452.length co34) ∧ w'.cell? ⟨gb436, 0, none⟩ = some (.int .i64 a0_0) ∧ w'.cell? ⟨gb436, 1, none⟩ = some (.slice A0_1 l0_1.length c0_1)) (ds := []) #[false, false, false, false, false] (by kernel_rfl) rfl rfl ⟨(blk_cell BK455.out 0).trans rfl, (blk_cell BK455.out 1).trans rfl, (blk_cell BK436.out 0).trans rfl, (blk_cell BK436.out 1).trans rfl⟩ (fun hHeld => ?_)
      generalize wc.drew = w68 at HO_9 HO_451001 HO_456001 HO_465001 BK436 BK450 BK455 BK464 HB hHeld ⊢
      refine take_ (i := 0) (N := some 52) (v := ?_) (a' := ?_) #[true, false, false, false, false] rfl rfl (by kernel_rfl) (fun _ _ _ h => h) (Or.inl ⟨by rfl, ?_⟩) hHeld ?_ ?_
      rotate_left
      ·rintro w' ⟨s0, s1, s2, s3⟩
       go_simp
       with_reducible rfl
      rotate_left
      ·simp only [Act.put, List.setIfInBounds_toArray, List.set_cons_zero, List.set_cons_succ, i64_w, i32_w]
       rfl
      refine take_ (i := 1) (N := some 53) (v := ?_) (a' := ?_) #[true, true, false, false, false] rfl rfl (by kernel_rfl) (fun _ _ _ h => h) (Or.inl ⟨by rfl, ?_⟩) hHeld ?_ ?_
      rotate_left
      ·rintro w' ⟨s0, s1, s2, s3⟩
       go_simp
       with_reducible rfl
      rotate_left
      ·simp only [Act.put, List.setIfInBounds_toArray, List.set_cons_zero, List.set_cons_succ, i64_w, i32_w]
       rfl
      refine one_ (i := 2) (N := some 54) #[true, true, true, false, false] rfl rfl (by kernel_rfl) (by decide) (fun K hK => ?_)
      refine goes_ Try.func17 (by kernel_rfl) rfl #[.agg #[.int .i64 a0_0, .slice A0_1 l0_1.length c0_1]] (by rfl) rfl rfl (by (try simp only [List.map_toArray, List.map_cons, List.map_nil]); first | done | rfl | (simp only [List.length_drop, List.length_take]; rfl)) ?_
      with_reducible refine (laws_toGraph.calls kj44 a0_0 _ _ l0_1 t466 t467 _ ?side1 ?side2 A65.out).mono ?_
      (case side1 => repeat (first | exact (Kd.C_below HR0_1.out HB.out) | (with_reducible refine Kd.C_alloc ?_ _) | (with_reducible refine Kd.C_drewN ?_ _) | (with_reducible refine Kd.C_drew ?_)))
      (case side2 => exact HC0_1.out)
      rintro e w69 ⟨v468, rfl, ho0, hb⟩
      refine ⟨_, rfl, ?_⟩
      have n0_ := Aside0.mk (Kd.R_below (by (with_reducible repeat (first | apply Kd.R_alloc | apply Kd.R_drewN | apply Kd.R_drew)); exact HO_9.out) hb)
      have n1_ := Aside0.mk (Kd.R_elder' (by (with_reducible repeat (first | apply Kd.R_alloc | apply Kd.R_drewN | apply Kd.R_drew)); exact HO_451001.out) (Kd.R_base ho0) hb)
      have n2_ := Aside0.mk (Kd.R_elder' (by (with_reducible repeat (first | apply Kd.R_alloc | apply Kd.R_drewN | apply Kd.R_drew)); exact HO_456001.out) (Kd.R_base ho0) hb)
      have n3_ := Aside0.mk (Kd.R_elder' (by (with_reducible repeat (first | apply Kd.R_alloc | apply Kd.R_drewN | apply Kd.R_drew)); exact HO_465001.out) (Kd.R_base ho0) hb)
      have n4_ := Aside0.mk (Kd.R_lower (Kd.R_new' (Kd.R_new' (Kd.R_new' ho0 (Kd.R_lt (by (with_reducible repeat (first | apply Kd.R_alloc | apply Kd.R_drewN | apply Kd.R_drew)); exact HO_451001.out))) (Kd.R_lt (by (with_reducible repeat (first | apply Kd.R_alloc | apply Kd.R_drewN | apply Kd.R_drew)); exact HO_456001.out))) (Kd.R_lt (by (with_reducible repeat (first | apply Kd.R_alloc | apply Kd.R_drewN | apply Kd.R_drew)); exact HO_465001.out))) (below_size (by repeat (first | (with_reducible first | exact HB.out | apply below_alloc | apply pw_below_drewN | apply below_drew1 | refine below_set ?_ GE436.out | refine below_set ?_ GE450.out | refine below_set ?_ GE455.out | refine below_set ?_ GE464.out) | exact HB.out))))
      have n5_ := Aside0.mk (blk_below (g := gb436) (o := .cells #[.int .i64 a0_0, .slice A0_1 l0_1.length c0_1] 24 (0, 0)) (by (with_reducible repeat (first | refine blk_drewN ?_ _ | refine blk_drew ?_ | refine blk_alloc ?_ _)); exact BK436.out) hb)
      have n6_ := Aside0.mk (blk_below (g := gb450) (o := .cells #[.int .i64 t445, .slice Ao27 t446.length co27] 29 (0, 0)) (by (with_reducible repeat (first | refine blk_drewN ?_ _ | refine blk_drew ?_ | refine blk_alloc ?_ _)); exact BK450.out) hb)
      have n7_ := Aside0.mk (blk_below (g := gb455) (o := .cells #[.int .i64 t451, .slice Ao34 t452.length co34] 29 (0, 0)) (by (with_reducible repeat (first | refine blk_drewN ?_ _ | refine blk_drew ?_ | refine blk_alloc ?_ _)); exact BK455.out) hb)
      have n8_ := Aside0.mk (blk_below (g := gb464) (o := .cells #[.int .i64 t459, .slice Ao44 t460.length co44] 29 (0, 0)) (by (with_reducible repeat (first | refine blk_drewN ?_ _ | refine blk_drew ?_ | refine blk_alloc ?_ _)); exact BK464.out) hb)
      have n9_ := Aside0.mk (below_step (by repeat (first | (with_reducible first | exact HB.out | apply below_alloc | apply pw_below_drewN | apply below_drew1 | refine below_set ?_ GE436.out | refine below_set ?_ GE450.out | refine below_set ?_ GE455.out | refine below_set ?_ GE464.out) | exact HB.out)) hb)
      clear HO_9
      clear HO_451001
      clear HO_456001
      clear HO_465001
      clear BK436
      clear BK450
      clear BK455
      clear BK464
      clear HB
      have HO_9 := n0_
      have HO_451001 := n1_
      have HO_456001 := n2_
      have HO_465001 := n3_
      have HO469 := n4_
      have BK436 := n5_
      have BK450 := n6_
      have BK455 := n7_
      have BK464 := n8_
      have HB := n9_
      clear n0_ n1_ n2_ n3_ n4_ n5_ n6_ n7_ n8_ n9_
      (try clear hb)
      (try clear hb2)
      (try clear hk)
      (try clear hi)
      (try clear ho0)
      obtain ⟨Ao70, co70, eo70⟩ := Kd.R_slice HO469.out
      (first | subst eo70 | (injection eo70 with f1_ f2_ f3_; have f4_ := f1_.symm; have f5_ := f3_.symm; clear f1_ f2_ f3_; subst f4_; subst f5_))
      refine hK.out _ _ ⟨(blk_cell BK455.out 0).trans rfl, (blk_cell BK455.out 1).trans rfl, (blk_cell BK436.out 0).trans rfl, (blk_cell BK436.out 1).trans rfl⟩ (fun hHeld => ?_)
      clear hK K
      refine norm_ (a' := ?_) ?_ ?_
      rotate_left
      ·show Act.put _ (some 54) _ = _
       simp only [Act.put, List.setIfInBounds_toArray, List.set_cons_zero, List.set_cons_succ, i64_w, i32_w]
       rfl
      refine one_ (i := 3) (N := some 55) #[true, true, true, true, false] rfl rfl (by kernel_rfl) (by decide) (fun K hK => ?_)
      refine goes_ Try.func20 (by kernel_rfl) rfl #[.agg #[.int .i64 t451, .slice Ao34 t452.length co34], .agg #[.int .i64 t466, .slice Ao70 t467.length co70]] (by rfl) rfl rfl (by (try simp only [List.map_toArray, List.map_cons, List.map_nil]); first | done | rfl | (simp only [List.length_drop, List.length_take]; rfl)) ?_
      with_reducible refine (laws_eqGraph.calls kj44 t451 _ _ t452 t466 _ _ t467 t470 _ ?side1 ?side2 ?side3 ?side4 A66.out).mono ?_
      (case side1 => repeat (first | exact (Kd.R_reads' HO_456001.out).2.2 | (with_reducible refine Kd.C_alloc ?_ _) | (with_reducible refine Kd.C_drewN ?_ _) | (with_reducible refine Kd.C_drew ?_)))
      (case side2 => exact (Kd.R_reads' HO_456001.out).2.1)
      (case side3 => repeat (first | exact (Kd.R_reads' HO469.out).2.2 | (with_reducible refine Kd.C_alloc ?_ _) | (with_reducible refine Kd.C_drewN ?_ _) | (with_reducible refine Kd.C_drew ?_)))
      (case side4 => exact (Kd.R_reads' HO469.out).2.1)
      rintro e w71 ⟨rfl, hb⟩
      refine ⟨_, rfl, ?_⟩
      have n0_ := Aside0.mk (Kd.R_below (by (with_reducible repeat (first | apply Kd.R_alloc | apply Kd.R_drewN | apply Kd.R_drew)); exact HO_9.out) hb)
      have n1_ := Aside0.mk (Kd.R_below (by (with_reducible repeat (first | apply Kd.R_alloc | apply Kd.R_drewN | apply Kd.R_drew)); exact HO_451001.out) hb)
      have n2_ := Aside0.mk (Kd.R_below (by (with_reducible repeat (first | apply Kd.R_alloc | apply Kd.R_drewN | apply Kd.R_drew)); exact HO_456001.out) hb)
      have n3_ := Aside0.mk (Kd.R_below (by (with_reducible repeat (first | apply Kd.R_alloc | apply Kd.R_drewN | apply Kd.R_drew)); exact HO_465001.out) hb)
      have n4_ := Aside0.mk (Kd.R_below (by (with_reducible repeat (first | apply Kd.R_alloc | apply Kd.R_drewN | apply Kd.R_drew)); exact HO469.out) hb)
      have n5_ := Aside0.mk (blk_below (g := gb436) (o := .cells #[.int .i64 a0_0, .slice A0_1 l0_1.length c0_1] 24 (0, 0)) (by (with_reducible repeat (first | refine blk_drewN ?_ _ | refine blk_drew ?_ | refine blk_alloc ?_ _)); exact BK436.out) hb)
      have n6_ := Aside0.mk (blk_below (g := gb450) (o := .cells #[.int .i64 t445, .slice Ao27 t446.length co27] 29 (0, 0)) (by (with_reducible repeat (first | refine blk_drewN ?_ _ | refine blk_drew ?_ | refine blk_alloc ?_ _)); exact BK450.out) hb)
      have n7_ := Aside0.mk (blk_below (g := gb455) (o := .cells #[.int .i64 t451, .slice Ao34 t452.length co34] 29 (0, 0)) (by (with_reducible repeat (first | refine blk_drewN ?_ _ | refine blk_drew ?_ | refine blk_alloc ?_ _)); exact BK455.out) hb)
      have n8_ := Aside0.mk (blk_below (g := gb464) (o := .cells #[.int .i64 t459, .slice Ao44 t460.length co44] 29 (0, 0)) (by (with_reducible repeat (first | refine blk_drewN ?_ _ | refine blk_drew ?_ | refine blk_alloc ?_ _)); exact BK464.out) hb)
      have n9_ := Aside0.mk (below_step (by repeat (first | (with_reducible first | exact HB.out | apply below_alloc | apply pw_below_drewN | apply below_drew1 | refine below_set ?_ GE436.out | refine below_set ?_ GE450.out | refine below_set ?_ GE455.out | refine below_set ?_ GE464.out) | exact HB.out)) hb)
      clear HO_9
      clear HO_451001
      clear HO_456001
      clear HO_465001
      clear HO469
      clear BK436
      clear BK450
      clear BK455
      clear BK464
      clear HB
      have HO_9 := n0_
      have HO_451001 := n1_
      have HO_456001 := n2_
      have HO_465001 := n3_
      have HO469 := n4_
      have BK436 := n5_
      have BK450 := n6_
      have BK455 := n7_
      have BK464 := n8_
      have HB := n9_
      clear n0_ n1_ n2_ n3_ n4_ n5_ n6_ n7_ n8_ n9_
      (try clear hb)
      (try clear hb2)
      (try clear hk)
      (try clear hi)
      refine hK.out _ _ ⟨(blk_cell BK455.out 0).trans rfl, (blk_cell BK455.out 1).trans rfl, (blk_cell BK436.out 0).trans rfl, (blk_cell BK436.out 1).trans rfl⟩ (fun hHeld => ?_)
      clear hK K
      refine norm_ (a' := ?_) ?_ ?_
      rotate_left
      ·show Act.put _ (some 55) _ = _
       simp only [Act.put, List.setIfInBounds_toArray, List.set_cons_zero, List.set_cons_succ, i64_w, i32_w]
       rfl
      refine pure_ (i := 4) (N := some 56) (v := ?_) (a' := ?_) #[true, true, true, true, true] rfl rfl (by kernel_rfl) (fun _ _ _ h => h) (Or.inl ⟨by rfl, ?_⟩) ?_ ?_
      rotate_left
      ·intro w'
       go_simp
       with_reducible rfl
      rotate_left
      ·simp only [Act.put, List.setIfInBounds_toArray, List.set_cons_zero, List.set_cons_succ, i64_w, i32_w]
       rfl
      refine done_ (by kernel_rfl) ?_
      go_upto_if 56 with (fail)
      have H := HU67.out
      clear HU67
      by_cases c72 : t470 = true
      ·subst c72
       have H1 : ((laws_toIntS.f kj44 l1).bind fun t471 => ((laws_eqIntS.f kj44 t456 t471).bind fun t474 => (if t474 = true then ((laws_markGraph.f kj44 t451 t452 1).bind fun bt475 => ((laws_markIntS.f kj44 t456 bt475.1).bind fun bt477 => (if bt477.1 < 0 then (laws_FnExactInducedGraph.j1 kj44 l1 t449 true a0_0 l0_1 t445 t446 t459 t460) else ((laws_eqGraph.f kj44 t459 t460 t445 t446).bind fun t479 => (if t479 = true then (laws_FnExactInducedGraph.j1 kj44 l1 t449 (t463 != t449) a0_0 l0_1 t445 t446 t459 t460) else (laws_FnExactInducedGraph.j1 kj44 l1 t449 true a0_0 l0_1 t445 t446 t459 t460)))))) else (some false)))) = some r := by rw [if_pos rfl] at H; exact H
       clear H
       have H := H1
       clear H1
       replace H := Option.bind_eq_some_iff.mp H
       obtain ⟨t471, A730, H⟩ := H
       replace H : ((laws_eqIntS.f kj44 t456 t471).bind fun t474 => (if t474 = true then ((laws_markGraph.f kj44 t451 t452 1).bind fun bt475 => ((laws_markIntS.f kj44 t456 bt475.1).bind fun bt477 => (if bt477.1 < 0 then (laws_FnExactInducedGraph.j1 kj44 l1 t449 true a0_0 l0_1 t445 t446 t459 t460) else ((laws_eqGraph.f kj44 t459 t460 t445 t446).bind fun t479 => (if t479 = true then (laws_FnExactInducedGraph.j1 kj44 l1 t449 (t463 != t449) a0_0 l0_1 t445 t446 t459 t460) else (laws_FnExactInducedGraph.j1 kj44 l1 t449 true a0_0 l0_1 t445 t446 t459 t460)))))) else (some false))) = some r := H
       have A73 := Aside0.mk A730
       clear A730
       replace H := Option.bind_eq_some_iff.mp H
       obtain ⟨t474, A740, H⟩ := H
       replace H : (if t474 = true then ((laws_markGraph.f kj44 t451 t452 1).bind fun bt475 => ((laws_markIntS.f kj44 t456 bt475.1).bind fun bt477 => (if bt477.1 < 0 then (laws_FnExactInducedGraph.j1 kj44 l1 t449 true a0_0 l0_1 t445 t446 t459 t460) else ((laws_eqGraph.f kj44 t459 t460 t445 t446).bind fun t479 => (if t479 = true then (laws_FnExactInducedGraph.j1 kj44 l1 t449 (t463 != t449) a0_0 l0_1 t445 t446 t459 t460) else (laws_FnExactInducedGraph.j1 kj44 l1 t449 true a0_0 l0_1 t445 t446 t459 t460)))))) else (some false)) = some r := H
       have A74 := Aside0.mk A740
       clear A740
       have HU75 := Aside0.mk H
       clear H
       go_upto_if 61 with (first | ((with_reducible refine gate_callee (f := 18) rfl ?_); refine goesL_ (some 59) rfl rfl Try.func18 (by kernel_rfl) rfl #[.slice A1 l1.length c1] rfl (by (try simp only [List.map_toArray, List.map_cons, List.map_nil]); first | done | rfl | (simp only [List.length_drop, List.length_take]; rfl)) ?_; (with_reducible refine (laws_toIntS.calls kj44 _ _ l1 t471 _ ?side1 ?side2 A73.out).mono ?_); (case side1 => repeat (first | exact (Kd.C_below HR1.out HB.out) | (with_reducible refine Kd.C_alloc ?_ _) | (with_reducible refine Kd.C_drewN ?_ _) | (with_reducible refine Kd.C_drew ?_))); (case side2 => exact HC1.out); rintro e w76 ⟨v472, rfl, ho0, hb⟩; refine ⟨_, rfl, ?_⟩; have n0_ := Aside0.mk (Kd.R_elder' (by (with_reducible repeat (first | apply Kd.R_alloc | apply Kd.R_drewN | apply Kd.R_drew)); exact HO_9.out) (Kd.R_base ho0) hb); have n1_ := Aside0.mk (Kd.R_below (by (with_reducible repeat (first | apply Kd.R_alloc | apply Kd.R_drewN | apply Kd.R_drew)); exact HO_451001.out) hb); have n2_ := Aside0.mk (Kd.R_below (by (with_reducible repeat (first | apply Kd.R_alloc | apply Kd.R_drewN | apply Kd.R_drew)); exact HO_456001.out) hb); have n3_ := Aside0.mk (Kd.R_below (by (with_reducible repeat (first | apply Kd.R_alloc | apply Kd.R_drewN | apply Kd.R_drew)); exact HO_465001.out) hb); have n4_ := Aside0.mk (Kd.R_below (by (with_reducible repeat (first | apply Kd.R_alloc | apply Kd.R_drewN | apply Kd.R_drew)); exact HO469.out) hb); have n5_ := Aside0.mk (Kd.R_lower (Kd.R_new' ho0 (Kd.R_lt (by (with_reducible repeat (first | apply Kd.R_alloc | apply Kd.R_drewN | apply Kd.R_drew)); exact HO_9.out))) (below_size (by repeat (first | (with_reducible first | exact HB.out | apply below_alloc | apply pw_below_drewN | apply below_drew1 | refine below_set ?_ GE436.out | refine below_set ?_ GE450.out | refine below_set ?_ GE455.out | refine below_set ?_ GE464.out) | exact HB.out)))); have n6_ := Aside0.mk (blk_below (g := gb436) (o := .cells #[.int .i64 a0_0, .slice A0_1 l0_1.length c0_1] 24 (0, 0)) (by (with_reducible repeat (first | refine blk_drewN ?_ _ | refine blk_drew ?_ | refine blk_alloc ?_ _)); exact BK436.out) hb); have n7_ := Aside0.mk (blk_below (g := gb450) (o := .cells #[.int .i64 t445, .slice Ao27 t446.length co27] 29 (0, 0)) (by (with_reducible repeat (first | refine blk_drewN ?_ _ | refine blk_drew ?_ | refine blk_alloc ?_ _)); exact BK450.out) hb); have n8_ := Aside0.mk (blk_below (g := gb455) (o := .cells #[.int .i64 t451, .slice Ao34 t452.length co34] 29 (0, 0)) (by (with_reducible repeat (first | refine blk_drewN ?_ _ | refine blk_drew ?_ | refine blk_alloc ?_ _)); exact BK455.out) hb); have n9_ := Aside0.mk (blk_below (g := gb464) (o := .cells #[.int .i64 t459, .slice Ao44 t460.length co44] 29 (0, 0)) (by (with_reducible repeat (first | refine blk_drewN ?_ _ | refine blk_drew ?_ | refine blk_alloc ?_ _)); exact BK464.out) hb); have n10_ := Aside0.mk (below_step (by repeat (first | (with_reducible first | exact HB.out | apply below_alloc | apply pw_below_drewN | apply below_drew1 | refine below_set ?_ GE436.out | refine below_set ?_ GE450.out | refine below_set ?_ GE455.out | refine below_set ?_ GE464.out) | exact HB.out)) hb); clear HO_9; clear HO_451001; clear HO_456001; clear HO_465001; clear HO469; clear BK436; clear BK450; clear BK455; clear BK464; clear HB; have HO_9 := n0_; have HO_451001 := n1_; have HO_456001 := n2_; have HO_465001 := n3_; have HO469 := n4_; have HO473 := n5_; have BK436 := n6_; have BK450 := n7_; have BK455 := n8_; have BK464 := n9_; have HB := n10_; clear n0_ n1_ n2_ n3_ n4_ n5_ n6_ n7_ n8_ n9_ n10_; (try clear hb); (try clear hb2); (try clear hk); (try clear hi); (try clear ho0); obtain ⟨Ao77, co77, eo77⟩ := Kd.R_slice HO473.out; subst eo77) | ((with_reducible refine gate_callee (f := 21) rfl ?_); refine goesL_ (some 60) rfl rfl Try.func21 (by kernel_rfl) rfl #[.slice Ao37 t456.length co37, .slice Ao77 t471.length co77] rfl (by (try simp only [List.map_toArray, List.map_cons, List.map_nil]); first | done | rfl | (simp only [List.length_drop, List.length_take]; rfl)) ?_; (with_reducible refine (laws_eqIntS.calls kj44 _ _ t456 _ _ t471 t474 _ ?side1 ?side2 ?side3 ?side4 A74.out).mono ?_); (case side1 => repeat (first | exact (Kd.R_reads' HO_9.out).2.2 | (with_reducible refine Kd.C_alloc ?_ _) | (with_reducible refine Kd.C_drewN ?_ _) | (with_reducible refine Kd.C_drew ?_))); (case side2 => exact (Kd.R_reads' HO_9.out).2.1); (case side3 => repeat (first | exact (Kd.R_reads' HO473.out).2.2 | (with_reducible refine Kd.C_alloc ?_ _) | (with_reducible refine Kd.C_drewN ?_ _) | (with_reducible refine Kd.C_drew ?_))); (case side4 => exact (Kd.R_reads' HO473.out).2.1); rintro e w' ⟨rfl, ⟨nd, rfl⟩⟩; refine ⟨_, rfl, ?_⟩))
       (try simp only [Act.put, List.setIfInBounds_toArray, List.set_cons_zero, List.set_cons_succ])
       have H := HU75.out
       clear HU75
       by_cases c78 : t474 = true
       ·subst c78
        have H1 : ((laws_markGraph.f kj44 t451 t452 1).bind fun bt475 => ((laws_markIntS.f kj44 t456 bt475.1).bind fun bt477 => (if bt477.1 < 0 then (laws_FnExactInducedGraph.j1 kj44 l1 t449 true a0_0 l0_1 t445 t446 t459 t460) else ((laws_eqGraph.f kj44 t459 t460 t445 t446).bind fun t479 => (if t479 = true then (laws_FnExactInducedGraph.j1 kj44 l1 t449 (t463 != t449) a0_0 l0_1 t445 t446 t459 t460) else (laws_FnExactInducedGraph.j1 kj44 l1 t449 true a0_0 l0_1 t445 t446 t459 t460)))))) = some r := by rw [if_pos rfl] at H; exact H
        clear H
        have H := H1
        clear H1
        replace H := Option.bind_eq_some_iff.mp H
        obtain ⟨⟨t475, t476⟩, A790, H⟩ := H
        replace H : ((laws_markIntS.f kj44 t456 t475).bind fun bt477 => (if bt477.1 < 0 then (laws_FnExactInducedGraph.j1 kj44 l1 t449 true a0_0 l0_1 t445 t446 t459 t460) else ((laws_eqGraph.f kj44 t459 t460 t445 t446).bind fun t479 => (if t479 = true then (laws_FnExactInducedGraph.j1 kj44 l1 t449 (t463 != t449) a0_0 l0_1 t445 t446 t459 t460) else (laws_FnExactInducedGraph.j1 kj44 l1 t449 true a0_0 l0_1 t445 t446 t459 t460))))) = some r := H
        have A79 := Aside0.mk A790
        clear A790
        replace H := Option.bind_eq_some_iff.mp H
        obtain ⟨⟨t477, t478⟩, A800, H⟩ := H
        replace H : (if t477 < 0 then (laws_FnExactInducedGraph.j1 kj44 l1 t449 true a0_0 l0_1 t445 t446 t459 t460) else ((laws_eqGraph.f kj44 t459 t460 t445 t446).bind fun t479 => (if t479 = true then (laws_FnExactInducedGraph.j1 kj44 l1 t449 (t463 != t449) a0_0 l0_1 t445 t446 t459 t460) else (laws_FnExactInducedGraph.j1 kj44 l1 t449 true a0_0 l0_1 t445 t446 t459 t460)))) = some r := H
        have A80 := Aside0.mk A800
        clear A800
        have HU81 := Aside0.mk H
        clear H
        have hnb82 := NB455_436.out
        have hnc82 := NB436_455.out
        have hnb83 := NB455_450.out
        have hnc83 := NB450_455.out
        have hnb84 := NB455_464.out
        have hnc84 := NB464_455.out
        have hcz85_0 : w76.cell? ⟨gb455, 0, none⟩ = some (.int .i64 t451) := (blk_cell BK455.out 0).trans rfl
        have hcz85_1 : w76.cell? ⟨gb455, 1, none⟩ = some (.slice Ao34 t452.length co34) := (blk_cell BK455.out 1).trans rfl
        have hfz85_0 := blk_frozen BK455.out 0
        have hfz85_1 := blk_frozen BK455.out 1
        go_upto_region 20 with (first | ((with_reducible refine gate_callee (f := 24) rfl ?_); refine goesL_ (some 64) rfl rfl Try.func24 (by kernel_rfl) rfl #[.agg #[.int .i64 t451, .slice Ao34 t452.length co34], .int .i64 1] rfl (by (try simp only [List.map_toArray, List.map_cons, List.map_nil]); first | done | rfl | (simp only [List.length_drop, List.length_take]; rfl)) ?_; (with_reducible refine (laws_markGraph.calls kj44 t451 (fun k_ => some k_ = (.slice Ao34 t452.length co34 : Value).ownBlock) (.slice Ao34 t452.length co34) t452 1 t475 t476 w _ ?side1 ?side2 A79.out).mono ?_); (case side1 => repeat (first | (with_reducible first | exact HB.out | apply below_alloc | apply pw_below_drewN | apply below_drew1 | refine below_set ?_ GE436.out | refine below_set ?_ GE450.out | refine below_set ?_ GE455.out | refine below_set ?_ GE464.out) | exact HB.out)); (case side2 => exact Kd.R_tight rfl HO_456001.out); rintro e w86 ⟨rfl, hy0, hb, hkp⟩; refine ⟨_, rfl, ?_⟩; have n0_ := Aside0.mk (Kd.R_mono (ok' := fun k_ => some k_ ≠ (.slice Ao77 t471.length co77 : Value).ownBlock) (Kd.R_keptB ((Kd.R_apart' HO_9.out (Kd.R_typed HO_456001.out) (by decide))) hkp (fun k_ hk_ hs_ => (hk_.2) hs_)) (fun k_ hk_ => hk_.1.1.2)); have n1_ := Aside0.mk (Kd.R_mono (ok' := fun k_ => some k_ ≠ (.slice Ao34 t452.length co34 : Value).ownBlock ∧ some k_ ≠ (.slice Ao44 t460.length co44 : Value).ownBlock ∧ some k_ ≠ (.slice Ao70 t467.length co70 : Value).ownBlock) (Kd.R_keptB (HO_451001.out) hkp (fun k_ hk_ hs_ => (hk_.1.1) hs_)) (fun k_ hk_ => ⟨hk_.1.1.1, hk_.1.1.2, hk_.1.2⟩)); have n2_ := Aside0.mk (Kd.R_reok rfl hy0 (fun k_ e_ => HO_456001.out.1 k_ e_)); have n3_ := Aside0.mk (Kd.R_mono (ok' := fun k_ => some k_ ≠ (.slice Ao27 t446.length co27 : Value).ownBlock ∧ some k_ ≠ (.slice Ao34 t452.length co34 : Value).ownBlock ∧ some k_ ≠ (.slice Ao70 t467.length co70 : Value).ownBlock) (Kd.R_keptB (HO_465001.out) hkp (fun k_ hk_ hs_ => (hk_.1.2) hs_)) (fun k_ hk_ => ⟨hk_.1.1.1, hk_.1.1.2, hk_.1.2⟩)); have n4_ := Aside0.mk (blk_kept (by first | exact BK436.out | ((with_reducible repeat (first | refine blk_drewN ?_ _ | refine blk_drew ?_ | refine blk_alloc ?_ _)); exact BK436.out)) hkp (fun hs_ => (fun e_ => (Kd.R_ne HO_456001.out BK436.out (by decide)) e_) hs_)); have n5_ := Aside0.mk (blk_kept (by first | exact BK450.out | ((with_reducible repeat (first | refine blk_drewN ?_ _ | refine blk_drew ?_ | refine blk_alloc ?_ _)); exact BK450.out)) hkp (fun hs_ => (fun e_ => (Kd.R_ne HO_456001.out BK450.out (by decide)) e_) hs_)); have n6_ := Aside0.mk (blk_kept (by first | exact BK455.out | ((with_reducible repeat (first | refine blk_drewN ?_ _ | refine blk_drew ?_ | refine blk_alloc ?_ _)); exact BK455.out)) hkp (fun hs_ => (fun e_ => (Kd.R_ne HO_456001.out BK455.out (by decide)) e_) hs_)); have n7_ := Aside0.mk (blk_kept (by first | exact BK464.out | ((with_reducible repeat (first | refine blk_drewN ?_ _ | refine blk_drew ?_ | refine blk_alloc ?_ _)); exact BK464.out)) hkp (fun hs_ => (fun e_ => (Kd.R_ne HO_456001.out BK464.out (by decide)) e_) hs_)); have n8_ := Aside0.mk (Kd.R_mono (ok' := fun k_ => some k_ ≠ (.slice Ao27 t446.length co27 : Value).ownBlock ∧ some k_ ≠ (.slice Ao34 t452.length co34 : Value).ownBlock ∧ some k_ ≠ (.slice Ao44 t460.length co44 : Value).ownBlock) (Kd.R_keptB (HO469.out) hkp (fun k_ hk_ hs_ => (hk_.1.2) hs_)) (fun k_ hk_ => ⟨hk_.1.1.1.2, hk_.1.1.2, hk_.1.2⟩)); have n9_ := Aside0.mk (Kd.R_mono (ok' := fun k_ => some k_ ≠ (.slice Ao37 t456.length co37 : Value).ownBlock) (Kd.R_keptB ((Kd.R_apart' HO473.out (Kd.R_typed HO_456001.out) (by decide))) hkp (fun k_ hk_ hs_ => (hk_.2) hs_)) (fun k_ hk_ => hk_.1.1.2)); have n10_ := Aside0.mk (hb); clear HO_9; clear HO_451001; clear HO_456001; clear HO_465001; clear BK436; clear BK450; clear BK455; clear BK464; clear HO469; clear HO473; clear HB; have HO_9 := n0_; have HO_451001 := n1_; have HO_456001 := n2_; have HO_465001 := n3_; have BK436 := n4_; have BK450 := n5_; have BK455 := n6_; have BK464 := n7_; have HO469 := n8_; have HO473 := n9_; have HB := n10_; clear n0_ n1_ n2_ n3_ n4_ n5_ n6_ n7_ n8_ n9_ n10_; (try clear hb); (try clear hkp); (try clear hy0)) | ((with_reducible refine gate_callee (f := 30) rfl ?_); refine goesL_ (some 67) rfl rfl Try.func30 (by kernel_rfl) rfl #[.slice Ao37 t456.length co37, .int .i64 t475] rfl (by (try simp only [List.map_toArray, List.map_cons, List.map_nil]); first | done | rfl | (simp only [List.length_drop, List.length_take]; rfl)) ?_; (with_reducible refine (laws_markIntS.calls kj44 (fun k_ => some k_ = (.slice Ao37 t456.length co37 : Value).ownBlock) (.slice Ao37 t456.length co37) t456 t475 t477 t478 w _ ?side1 ?side2 A80.out).mono ?_); (case side1 => repeat (first | (with_reducible first | exact HB.out | apply below_alloc | apply pw_below_drewN | apply below_drew1 | refine below_set ?_ GE436.out | refine below_set ?_ GE450.out | refine below_set ?_ GE455.out | refine below_set ?_ GE464.out) | exact HB.out)); (case side2 => exact Kd.R_tight rfl HO_9.out); rintro e w87 ⟨rfl, hy0, hb, hkp⟩; refine ⟨_, rfl, ?_⟩; have n0_ := Aside0.mk (Kd.R_reok rfl hy0 (fun k_ e_ => HO_9.out.1 k_ e_)); have n1_ := Aside0.mk (Kd.R_mono (ok' := fun k_ => some k_ ≠ (.slice Ao34 t452.length co34 : Value).ownBlock ∧ some k_ ≠ (.slice Ao44 t460.length co44 : Value).ownBlock ∧ some k_ ≠ (.slice Ao70 t467.length co70 : Value).ownBlock) (Kd.R_keptB ((Kd.R_apart' HO_451001.out (Kd.R_typed HO_9.out) (by decide))) hkp (fun k_ hk_ hs_ => (hk_.2) hs_)) (fun k_ hk_ => ⟨hk_.1.1.1, hk_.1.1.2.1, hk_.1.1.2.2⟩)); have n2_ := Aside0.mk (Kd.R_mono (ok' := fun k_ => some k_ ≠ (.slice Ao27 t446.length co27 : Value).ownBlock ∧ some k_ ≠ (.slice Ao44 t460.length co44 : Value).ownBlock ∧ some k_ ≠ (.slice Ao70 t467.length co70 : Value).ownBlock) (Kd.R_keptB ((Kd.R_apart' HO_456001.out (Kd.R_typed HO_9.out) (by decide))) hkp (fun k_ hk_ hs_ => (hk_.2) hs_)) (fun k_ hk_ => ⟨hk_.1.1.1.1, hk_.1.1.1.2, hk_.1.1.2⟩)); have n3_ := Aside0.mk (Kd.R_mono (ok' := fun k_ => some k_ ≠ (.slice Ao27 t446.length co27 : Value).ownBlock ∧ some k_ ≠ (.slice Ao34 t452.length co34 : Value).ownBlock ∧ some k_ ≠ (.slice Ao70 t467.length co70 : Value).ownBlock) (Kd.R_keptB ((Kd.R_apart' HO_465001.out (Kd.R_typed HO_9.out) (by decide))) hkp (fun k_ hk_ hs_ => (hk_.2) hs_)) (fun k_ hk_ => ⟨hk_.1.1.1, hk_.1.1.2.1, hk_.1.1.2.2⟩)); have n4_ := Aside0.mk (blk_kept (by first | exact BK436.out | ((with_reducible repeat (first | refine blk_drewN ?_ _ | refine blk_drew ?_ | refine blk_alloc ?_ _)); exact BK436.out)) hkp (fun hs_ => (fun e_ => (Kd.R_ne HO_9.out BK436.out (by decide)) e_) hs_)); have n5_ := Aside0.mk (blk_kept (by first | exact BK450.out | ((with_reducible repeat (first | refine blk_drewN ?_ _ | refine blk_drew ?_ | refine blk_alloc ?_ _)); exact BK450.out)) hkp (fun hs_ => (fun e_ => (Kd.R_ne HO_9.out BK450.out (by decide)) e_) hs_)); have n6_ := Aside0.mk (blk_kept (by first | exact BK455.out | ((with_reducible repeat (first | refine blk_drewN ?_ _ | refine blk_drew ?_ | refine blk_alloc ?_ _)); exact BK455.out)) hkp (fun hs_ => (fun e_ => (Kd.R_ne HO_9.out BK455.out (by decide)) e_) hs_)); have n7_ := Aside0.mk (blk_kept (by first | exact BK464.out | ((with_reducible repeat (first | refine blk_drewN ?_ _ | refine blk_drew ?_ | refine blk_alloc ?_ _)); exact BK464.out)) hkp (fun hs_ => (fun e_ => (Kd.R_ne HO_9.out BK464.out (by decide)) e_) hs_)); have n8_ := Aside0.mk (Kd.R_mono (ok' := fun k_ => some k_ ≠ (.slice Ao27 t446.length co27 : Value).ownBlock ∧ some k_ ≠ (.slice Ao34 t452.length co34 : Value).ownBlock ∧ some k_ ≠ (.slice Ao44 t460.length co44 : Value).ownBlock) (Kd.R_keptB ((Kd.R_apart' HO469.out (Kd.R_typed HO_9.out) (by decide))) hkp (fun k_ hk_ hs_ => (hk_.2) hs_)) (fun k_ hk_ => ⟨hk_.1.1.1, hk_.1.1.2.1, hk_.1.1.2.2⟩)); have n9_ := Aside0.mk (Kd.R_mono (ok' := fun k_ => some k_ ≠ (.slice Ao37 t456.length co37 : Value).ownBlock) (Kd.R_keptB (HO473.out) hkp (fun k_ hk_ hs_ => (hk_) hs_)) (fun k_ hk_ => hk_.1)); have n10_ := Aside0.mk (hb); clear HO_9; clear HO_451001; clear HO_456001; clear HO_465001; clear BK436; clear BK450; clear BK455; clear BK464; clear HO469; clear HO473; clear HB; have HO_9 := n0_; have HO_451001 := n1_; have HO_456001 := n2_; have HO_465001 := n3_; have BK436 := n4_; have BK450 := n5_; have BK455 := n6_; have BK464 := n7_; have HO469 := n8_; have HO473 := n9_; have HB := n10_; clear n0_ n1_ n2_ n3_ n4_ n5_ n6_ n7_ n8_ n9_ n10_; (try clear hb); (try clear hkp); (try clear hy0)))
        (try simp only [Act.put, List.setIfInBounds_toArray, List.set_cons_zero, List.set_cons_succ])
        have H := HU81.out
        clear HU81
        have HC88 := Aside0.mk H
        clear H
        go_upto_region 20 with (fail)
        go_cut [80] (fun v80 wc => ∃ (kq : Nat) (x80_87 : Bool), v80 = .bool x80_87 ∧ Aside0 (laws_FnExactInducedGraph.j1 kq l1 t449 x80_87 a0_0 l0_1 t445 t446 t459 t460 = some r) ∧ Aside0 (kq ≤ kj44) ∧ Aside0 (Kd.R k65 65 wc w.heap.size (fun k_ => some k_ ≠ ((.slice Ao34 t452.length co34) : Value).ownBlock ∧ some k_ ≠ ((.slice Ao44 t460.length co44) : Value).ownBlock) (.slice Ao27 t446.length co27) t446) ∧ Aside0 (Kd.R k65 65 wc w.heap.size (fun k_ => some k_ ≠ ((.slice Ao27 t446.length co27) : Value).ownBlock ∧ some k_ ≠ ((.slice Ao44 t460.length co44) : Value).ownBlock) (.slice Ao34 t452.length co34) t476) ∧ Aside0 (Kd.R k65 65 wc w.heap.size (fun k_ => some k_ ≠ ((.slice Ao27 t446.length co27) : Value).ownBlock ∧ some k_ ≠ ((.slice Ao34 t452.length co34) : Value).ownBlock) (.slice Ao44 t460.length co44) t460) ∧ Aside0 (wc.heap[gb436]? = some (.cells #[.int .i64 a0_0, (.slice A0_1 l0_1.length c0_1)] 24 (0, 0))) ∧ Aside0 (wc.heap[gb450]? = some (.cells #[.int .i64 t445, (.slice Ao27 t446.length co27)] 29 (0, 0))) ∧ Aside0 (wc.heap[gb455]? = some (.cells #[.int .i64 t451, (.slice Ao34 t452.length co34)] 29 (0, 0))) ∧ Aside0 (wc.heap[gb464]? = some (.cells #[.int .i64 t459, (.slice Ao44 t460.length co44)] 29 (0, 0))) ∧ Aside0 (Below w.heap.size w wc))
        case first =>
         have H := HC88.out
         clear HC88
         by_cases c89 : t477 < 0
         ·rw [if_pos c89] at H
          have c89b0 : decide (t477 < 0) = true := decide_eq_true c89
          clear c89
          (first | rw [c89b0] | (simp only [i64_w, i32_w]; rw [c89b0]) | skip)
          have H' := Aside0.mk H
          clear H
          go_wp2
          go_meet
          case rel => exact ⟨_, (true), (by first | rfl | (simp; done) | (simp [*]; done)), H', ⟨by have := HJ44.out; first | omega | exact Nat.le_refl _⟩, ⟨by (with_reducible repeat (first | apply Kd.R_alloc | apply Kd.R_drewN | apply Kd.R_drew)); exact Kd.R_mono HO_451001.out (fun _ hk => ⟨hk.1, hk.2.1⟩)⟩, ⟨by (with_reducible repeat (first | apply Kd.R_alloc | apply Kd.R_drewN | apply Kd.R_drew)); exact Kd.R_mono HO_456001.out (fun _ hk => ⟨hk.1, hk.2.1⟩)⟩, ⟨by (with_reducible repeat (first | apply Kd.R_alloc | apply Kd.R_drewN | apply Kd.R_drew)); exact Kd.R_mono HO_465001.out (fun _ hk => ⟨hk.1, hk.2.1⟩)⟩, ⟨by (with_reducible repeat (first | refine blk_drewN ?_ _ | refine blk_drew ?_ | refine blk_alloc ?_ _)); exact BK436.out⟩, ⟨by (with_reducible repeat (first | refine blk_drewN ?_ _ | refine blk_drew ?_ | refine blk_alloc ?_ _)); exact BK450.out⟩, ⟨by (with_reducible repeat (first | refine blk_drewN ?_ _ | refine blk_drew ?_ | refine blk_alloc ?_ _)); exact BK455.out⟩, ⟨by (with_reducible repeat (first | refine blk_drewN ?_ _ | refine blk_drew ?_ | refine blk_alloc ?_ _)); exact BK464.out⟩, ⟨by repeat (first | (with_reducible first | exact HB.out | apply below_alloc | apply pw_below_drewN | apply below_drew1 | refine below_set ?_ GE436.out | refine below_set ?_ GE450.out | refine below_set ?_ GE455.out | refine below_set ?_ GE464.out) | exact HB.out)⟩⟩
         ·rw [if_neg c89] at H
          have c89b0 : decide (t477 < 0) = false := decide_eq_false c89
          clear c89
          (first | rw [c89b0] | (simp only [i64_w, i32_w]; rw [c89b0]) | skip)
          replace H := Option.bind_eq_some_iff.mp H
          obtain ⟨t479, A900, H⟩ := H
          replace H : (if t479 = true then (laws_FnExactInducedGraph.j1 kj44 l1 t449 (t463 != t449) a0_0 l0_1 t445 t446 t459 t460) else (laws_FnExactInducedGraph.j1 kj44 l1 t449 true a0_0 l0_1 t445 t446 t459 t460)) = some r := H
          have A90 := Aside0.mk A900
          clear A900
          by_cases c91 : t479 = true
          ·subst c91
           have H1 : (laws_FnExactInducedGraph.j1 kj44 l1 t449 (t463 != t449) a0_0 l0_1 t445 t446 t459 t460) = some r := by rw [if_pos rfl] at H; exact H
           clear H
           have H := H1
           clear H1
           have H' := Aside0.mk H
           clear H
           have hnb92 := NB464_436.out
           have hnc92 := NB436_464.out
           have hnb93 := NB464_450.out
           have hnc93 := NB450_464.out
           have hnb94 := NB464_455.out
           have hnc94 := NB455_464.out
           have hcz95_0 : w87.cell? ⟨gb464, 0, none⟩ = some (.int .i64 t459) := (blk_cell BK464.out 0).trans rfl
           have hcz95_1 : w87.cell? ⟨gb464, 1, none⟩ = some (.slice Ao44 t460.length co44) := (blk_cell BK464.out 1).trans rfl
           have hfz95_0 := blk_frozen BK464.out 0
           have hfz95_1 := blk_frozen BK464.out 1
           have hnb96 := NB450_436.out
           have hnc96 := NB436_450.out
           have hnb97 := NB450_455.out
           have hnc97 := NB455_450.out
           have hcz98_0 : w87.cell? ⟨gb450, 0, none⟩ = some (.int .i64 t445) := (blk_cell BK450.out 0).trans rfl
           have hcz98_1 : w87.cell? ⟨gb450, 1, none⟩ = some (.slice Ao27 t446.length co27) := (blk_cell BK450.out 1).trans rfl
           have hfz98_0 := blk_frozen BK450.out 0
           have hfz98_1 := blk_frozen BK450.out 1
           go_wp2_with (first | (go_at_call 20; (with_reducible refine (laws_eqGraph.calls kj44 t459 _ _ t460 t445 _ _ t446 true _ ?side1 ?side2 ?side3 ?side4 A90.out).mono ?_); (case side1 => repeat (first | exact (Kd.R_reads' HO_465001.out).2.2 | (with_reducible refine Kd.C_alloc ?_ _) | (with_reducible refine Kd.C_drewN ?_ _) | (with_reducible refine Kd.C_drew ?_))); (case side2 => exact (Kd.R_reads' HO_465001.out).2.1); (case side3 => repeat (first | exact (Kd.R_reads' HO_451001.out).2.2 | (with_reducible refine Kd.C_alloc ?_ _) | (with_reducible refine Kd.C_drewN ?_ _) | (with_reducible refine Kd.C_drew ?_))); (case side4 => exact (Kd.R_reads' HO_451001.out).2.1); rintro e w99 ⟨rfl, hb⟩; have n0_ := Aside0.mk (Kd.R_below (by (with_reducible repeat (first | apply Kd.R_alloc | apply Kd.R_drewN | apply Kd.R_drew)); exact HO_9.out) hb); have n1_ := Aside0.mk (Kd.R_below (by (with_reducible repeat (first | apply Kd.R_alloc | apply Kd.R_drewN | apply Kd.R_drew)); exact HO_451001.out) hb); have n2_ := Aside0.mk (Kd.R_below (by (with_reducible repeat (first | apply Kd.R_alloc | apply Kd.R_drewN | apply Kd.R_drew)); exact HO_456001.out) hb); have n3_ := Aside0.mk (Kd.R_below (by (with_reducible repeat (first | apply Kd.R_alloc | apply Kd.R_drewN | apply Kd.R_drew)); exact HO_465001.out) hb); have n4_ := Aside0.mk (Kd.R_below (by (with_reducible repeat (first | apply Kd.R_alloc | apply Kd.R_drewN | apply Kd.R_drew)); exact HO469.out) hb); have n5_ := Aside0.mk (Kd.R_below (by (with_reducible repeat (first | apply Kd.R_alloc | apply Kd.R_drewN | apply Kd.R_drew)); exact HO473.out) hb); have n6_ := Aside0.mk (blk_below (g := gb436) (o := .cells #[.int .i64 a0_0, .slice A0_1 l0_1.length c0_1] 24 (0, 0)) (by (with_reducible repeat (first | refine blk_drewN ?_ _ | refine blk_drew ?_ | refine blk_alloc ?_ _)); exact BK436.out) hb); have n7_ := Aside0.mk (blk_below (g := gb450) (o := .cells #[.int .i64 t445, .slice Ao27 t446.length co27] 29 (0, 0)) (by (with_reducible repeat (first | refine blk_drewN ?_ _ | refine blk_drew ?_ | refine blk_alloc ?_ _)); exact BK450.out) hb); have n8_ := Aside0.mk (blk_below (g := gb455) (o := .cells #[.int .i64 t451, .slice Ao34 t452.length co34] 29 (0, 0)) (by (with_reducible repeat (first | refine blk_drewN ?_ _ | refine blk_drew ?_ | refine blk_alloc ?_ _)); exact BK455.out) hb); have n9_ := Aside0.mk (blk_below (g := gb464) (o := .cells #[.int .i64 t459, .slice Ao44 t460.length co44] 29 (0, 0)) (by (with_reducible repeat (first | refine blk_drewN ?_ _ | refine blk_drew ?_ | refine blk_alloc ?_ _)); exact BK464.out) hb); have n10_ := Aside0.mk (below_step (by repeat (first | (with_reducible first | exact HB.out | apply below_alloc | apply pw_below_drewN | apply below_drew1 | refine below_set ?_ GE436.out | refine below_set ?_ GE450.out | refine below_set ?_ GE455.out | refine below_set ?_ GE464.out) | exact HB.out)) hb); clear HO_9; clear HO_451001; clear HO_456001; clear HO_465001; clear HO469; clear HO473; clear BK436; clear BK450; clear BK455; clear BK464; clear HB; have HO_9 := n0_; have HO_451001 := n1_; have HO_456001 := n2_; have HO_465001 := n3_; have HO469 := n4_; have HO473 := n5_; have BK436 := n6_; have BK450 := n7_; have BK455 := n8_; have BK464 := n9_; have HB := n10_; clear n0_ n1_ n2_ n3_ n4_ n5_ n6_ n7_ n8_ n9_ n10_; (try clear hb); (try clear hb2); (try clear hk); (try clear hi)))
           go_meet
           case rel => exact ⟨_, ((t463 != t449)), (by first | rfl | (simp; done) | (simp [*]; done)), H', ⟨by have := HJ44.out; first | omega | exact Nat.le_refl _⟩, ⟨by (with_reducible repeat (first | apply Kd.R_alloc | apply Kd.R_drewN | apply Kd.R_drew)); exact Kd.R_mono HO_451001.out (fun _ hk => ⟨hk.1, hk.2.1⟩)⟩, ⟨by (with_reducible repeat (first | apply Kd.R_alloc | apply Kd.R_drewN | apply Kd.R_drew)); exact Kd.R_mono HO_456001.out (fun _ hk => ⟨hk.1, hk.2.1⟩)⟩, ⟨by (with_reducible repeat (first | apply Kd.R_alloc | apply Kd.R_drewN | apply Kd.R_drew)); exact Kd.R_mono HO_465001.out (fun _ hk => ⟨hk.1, hk.2.1⟩)⟩, ⟨by (with_reducible repeat (first | refine blk_drewN ?_ _ | refine blk_drew ?_ | refine blk_alloc ?_ _)); exact BK436.out⟩, ⟨by (with_reducible repeat (first | refine blk_drewN ?_ _ | refine blk_drew ?_ | refine blk_alloc ?_ _)); exact BK450.out⟩, ⟨by (with_reducible repeat (first | refine blk_drewN ?_ _ | refine blk_drew ?_ | refine blk_alloc ?_ _)); exact BK455.out⟩, ⟨by (with_reducible repeat (first | refine blk_drewN ?_ _ | refine blk_drew ?_ | refine blk_alloc ?_ _)); exact BK464.out⟩, ⟨by repeat (first | (with_reducible first | exact HB.out | apply below_alloc | apply pw_below_drewN | apply below_drew1 | refine below_set ?_ GE436.out | refine below_set ?_ GE450.out | refine below_set ?_ GE455.out | refine below_set ?_ GE464.out) | exact HB.out)⟩⟩
          ·replace c91 := Bool.eq_false_iff.mpr c91
           subst c91
           have H1 : (laws_FnExactInducedGraph.j1 kj44 l1 t449 true a0_0 l0_1 t445 t446 t459 t460) = some r := by rw [if_neg (show ¬ (false = true) by decide)] at H; exact H
           clear H
           have H := H1
           clear H1
           have H' := Aside0.mk H
           clear H
           have hnb100 := NB464_436.out
           have hnc100 := NB436_464.out
           have hnb101 := NB464_450.out
           have hnc101 := NB450_464.out
           have hnb102 := NB464_455.out
           have hnc102 := NB455_464.out
           have hcz103_0 : w87.cell? ⟨gb464, 0, none⟩ = some (.int .i64 t459) := (blk_cell BK464.out 0).trans rfl
           have hcz103_1 : w87.cell? ⟨gb464, 1, none⟩ = some (.slice Ao44 t460.length co44) := (blk_cell BK464.out 1).trans rfl
           have hfz103_0 := blk_frozen BK464.out 0
           have hfz103_1 := blk_frozen BK464.out 1
           have hnb104 := NB450_436.out
           have hnc104 := NB436_450.out
           have hnb105 := NB450_455.out
           have hnc105 := NB455_450.out
           have hcz106_0 : w87.cell? ⟨gb450, 0, none⟩ = some (.int .i64 t445) := (blk_cell BK450.out 0).trans rfl
           have hcz106_1 : w87.cell? ⟨gb450, 1, none⟩ = some (.slice Ao27 t446.length co27) := (blk_cell BK450.out 1).trans rfl
           have hfz106_0 := blk_frozen BK450.out 0
           have hfz106_1 := blk_frozen BK450.out 1
           go_wp2_with (first | (go_at_call 20; (with_reducible refine (laws_eqGraph.calls kj44 t459 _ _ t460 t445 _ _ t446 false _ ?side1 ?side2 ?side3 ?side4 A90.out).mono ?_); (case side1 => repeat (first | exact (Kd.R_reads' HO_465001.out).2.2 | (with_reducible refine Kd.C_alloc ?_ _) | (with_reducible refine Kd.C_drewN ?_ _) | (with_reducible refine Kd.C_drew ?_))); (case side2 => exact (Kd.R_reads' HO_465001.out).2.1); (case side3 => repeat (first | exact (Kd.R_reads' HO_451001.out).2.2 | (with_reducible refine Kd.C_alloc ?_ _) | (with_reducible refine Kd.C_drewN ?_ _) | (with_reducible refine Kd.C_drew ?_))); (case side4 => exact (Kd.R_reads' HO_451001.out).2.1); rintro e w107 ⟨rfl, hb⟩; have n0_ := Aside0.mk (Kd.R_below (by (with_reducible repeat (first | apply Kd.R_alloc | apply Kd.R_drewN | apply Kd.R_drew)); exact HO_9.out) hb); have n1_ := Aside0.mk (Kd.R_below (by (with_reducible repeat (first | apply Kd.R_alloc | apply Kd.R_drewN | apply Kd.R_drew)); exact HO_451001.out) hb); have n2_ := Aside0.mk (Kd.R_below (by (with_reducible repeat (first | apply Kd.R_alloc | apply Kd.R_drewN | apply Kd.R_drew)); exact HO_456001.out) hb); have n3_ := Aside0.mk (Kd.R_below (by (with_reducible repeat (first | apply Kd.R_alloc | apply Kd.R_drewN | apply Kd.R_drew)); exact HO_465001.out) hb); have n4_ := Aside0.mk (Kd.R_below (by (with_reducible repeat (first | apply Kd.R_alloc | apply Kd.R_drewN | apply Kd.R_drew)); exact HO469.out) hb); have n5_ := Aside0.mk (Kd.R_below (by (with_reducible repeat (first | apply Kd.R_alloc | apply Kd.R_drewN | apply Kd.R_drew)); exact HO473.out) hb); have n6_ := Aside0.mk (blk_below (g := gb436) (o := .cells #[.int .i64 a0_0, .slice A0_1 l0_1.length c0_1] 24 (0, 0)) (by (with_reducible repeat (first | refine blk_drewN ?_ _ | refine blk_drew ?_ | refine blk_alloc ?_ _)); exact BK436.out) hb); have n7_ := Aside0.mk (blk_below (g := gb450) (o := .cells #[.int .i64 t445, .slice Ao27 t446.length co27] 29 (0, 0)) (by (with_reducible repeat (first | refine blk_drewN ?_ _ | refine blk_drew ?_ | refine blk_alloc ?_ _)); exact BK450.out) hb); have n8_ := Aside0.mk (blk_below (g := gb455) (o := .cells #[.int .i64 t451, .slice Ao34 t452.length co34] 29 (0, 0)) (by (with_reducible repeat (first | refine blk_drewN ?_ _ | refine blk_drew ?_ | refine blk_alloc ?_ _)); exact BK455.out) hb); have n9_ := Aside0.mk (blk_below (g := gb464) (o := .cells #[.int .i64 t459, .slice Ao44 t460.length co44] 29 (0, 0)) (by (with_reducible repeat (first | refine blk_drewN ?_ _ | refine blk_drew ?_ | refine blk_alloc ?_ _)); exact BK464.out) hb); have n10_ := Aside0.mk (below_step (by repeat (first | (with_reducible first | exact HB.out | apply below_alloc | apply pw_below_drewN | apply below_drew1 | refine below_set ?_ GE436.out | refine below_set ?_ GE450.out | refine below_set ?_ GE455.out | refine below_set ?_ GE464.out) | exact HB.out)) hb); clear HO_9; clear HO_451001; clear HO_456001; clear HO_465001; clear HO469; clear HO473; clear BK436; clear BK450; clear BK455; clear BK464; clear HB; have HO_9 := n0_; have HO_451001 := n1_; have HO_456001 := n2_; have HO_465001 := n3_; have HO469 := n4_; have HO473 := n5_; have BK436 := n6_; have BK450 := n7_; have BK455 := n8_; have BK464 := n9_; have HB := n10_; clear n0_ n1_ n2_ n3_ n4_ n5_ n6_ n7_ n8_ n9_ n10_; (try clear hb); (try clear hb2); (try clear hk); (try clear hi)))
           go_meet
           case rel => exact ⟨_, (true), (by first | rfl | (simp; done) | (simp [*]; done)), H', ⟨by have := HJ44.out; first | omega | exact Nat.le_refl _⟩, ⟨by (with_reducible repeat (first | apply Kd.R_alloc | apply Kd.R_drewN | apply Kd.R_drew)); exact Kd.R_mono HO_451001.out (fun _ hk => ⟨hk.1, hk.2.1⟩)⟩, ⟨by (with_reducible repeat (first | apply Kd.R_alloc | apply Kd.R_drewN | apply Kd.R_drew)); exact Kd.R_mono HO_456001.out (fun _ hk => ⟨hk.1, hk.2.1⟩)⟩, ⟨by (with_reducible repeat (first | apply Kd.R_alloc | apply Kd.R_drewN | apply Kd.R_drew)); exact Kd.R_mono HO_465001.out (fun _ hk => ⟨hk.1, hk.2.1⟩)⟩, ⟨by (with_reducible repeat (first | refine blk_drewN ?_ _ | refine blk_drew ?_ | refine blk_alloc ?_ _)); exact BK436.out⟩, ⟨by (with_reducible repeat (first | refine blk_drewN ?_ _ | refine blk_drew ?_ | refine blk_alloc ?_ _)); exact BK450.out⟩, ⟨by (with_reducible repeat (first | refine blk_drewN ?_ _ | refine blk_drew ?_ | refine blk_alloc ?_ _)); exact BK455.out⟩, ⟨by (with_reducible repeat (first | refine blk_drewN ?_ _ | refine blk_drew ?_ | refine blk_alloc ?_ _)); exact BK464.out⟩, ⟨by repeat (first | (with_reducible first | exact HB.out | apply below_alloc | apply pw_below_drewN | apply below_drew1 | refine below_set ?_ GE436.out | refine below_set ?_ GE450.out | refine below_set ?_ GE455.out | refine below_set ?_ GE464.out) | exact HB.out)⟩⟩
        case rest =>
         clear HC88
         try clear c1
         try clear c2
         try clear p2
         try clear c3
         try clear c4
         try clear c5
         try clear c5b0
         try clear c5b1
         try clear c6
         try clear c7
         try clear c8
         try clear c9
         try clear c10
         try clear c10b0
         try clear c11
         try clear c15
         try clear c17
         try clear c18
         try clear c20
         try clear c21
         try clear c24
         try clear c25
         try clear c30
         try clear c31
         try clear c32
         try clear c40
         try clear c41
         try clear c42
         try clear c43
         try clear c44
         try clear c47
         try clear c48
         try clear c49
         try clear c50
         try clear c52
         try clear c53
         try clear c56
         try clear c57
         try clear c58
         try clear c60
         try clear c61
         try clear c64
         try clear c72
         try clear c78
         try clear c82
         try clear c83
         try clear c84
         try clear c89
         try clear c89b0
         try clear c91
         try clear c92
         try clear c93
         try clear c94
         try clear c96
         try clear c97
         try clear c100
         try clear c101
         try clear c102
         try clear c104
         try clear c105
         try clear hcz103_0
         try clear hcz103_1
         try clear hcz106_0
         try clear hcz106_1
         try clear hcz18_0
         try clear hcz18_1
         try clear hcz26_0
         try clear hcz26_1
         try clear hcz28_0
         try clear hcz28_1
         try clear hcz33_0
         try clear hcz33_1
         try clear hcz36_0
         try clear hcz36_1
         try clear hcz43_0
         try clear hcz43_1
         try clear hcz51_0
         try clear hcz51_1
         try clear hcz54_0
         try clear hcz54_1
         try clear hcz59_0
         try clear hcz59_1
         try clear hcz62_0
         try clear hcz62_1
         try clear hcz85_0
         try clear hcz85_1
         try clear hcz8_0
         try clear hcz8_1
         try clear hcz95_0
         try clear hcz95_1
         try clear hcz98_0
         try clear hcz98_1
         try clear hfz103_0
         try clear hfz103_1
         try clear hfz106_0
         try clear hfz106_1
         try clear hfz18_0
         try clear hfz18_1
         try clear hfz26_0
         try clear hfz26_1
         try clear hfz28_0
         try clear hfz28_1
         try clear hfz33_0
         try clear hfz33_1
         try clear hfz36_0
         try clear hfz36_1
         try clear hfz43_0
         try clear hfz43_1
         try clear hfz51_0
         try clear hfz51_1
         try clear hfz54_0
         try clear hfz54_1
         try clear hfz59_0
         try clear hfz59_1
         try clear hfz62_0
         try clear hfz62_1
         try clear hfz85_0
         try clear hfz85_1
         try clear hfz8_0
         try clear hfz8_1
         try clear hfz95_0
         try clear hfz95_1
         try clear hfz98_0
         try clear hfz98_1
         try clear p2
         obtain ⟨kq, x80_87, rfl, HA, HJ87, HO_451001, HO_456001, HO_465001, BK436, BK450, BK455, BK464, HB⟩ := hcut
         have hl456001_87 := (Kd.R_reads' HO_456001.out).1
         rw [hl456001_87] at HO_456001
         (try simp only [hl456001_87])
         (try simp only [hl456001_87] at BK436)
         (try simp only [hl456001_87] at BK450)
         (try simp only [hl456001_87] at BK455)
         (try simp only [hl456001_87] at BK464)
         (try simp only [hl456001_87] at HO_451001)
         (try simp only [hl456001_87] at HO_465001)
         cases kq with
         | zero => exact absurd HA.out (by simp [laws_FnExactInducedGraph.j1])
         | succ kj87 =>
          have H := HA.out
          clear HA
          simp only [laws_FnExactInducedGraph.j1] at H
          by_cases c108 : x80_87 = true
          ·subst c108
           have H1 : (some false) = some r := by rw [if_pos rfl] at H; exact H
           clear H
           have H := H1
           clear H1
           obtain rfl := Option.some.inj H
           go_wp2
           go_ret
           exact ⟨by first | rfl | (simp [errW_none, errW_some] <;> rfl) | (simp [*, errW_none, errW_some] <;> rfl), by repeat (first | (with_reducible first | exact HB.out | apply below_alloc | apply pw_below_drewN | apply below_drew1 | refine below_set ?_ GE436.out | refine below_set ?_ GE450.out | refine below_set ?_ GE455.out | refine below_set ?_ GE464.out) | exact HB.out)⟩
          ·replace c108 := Bool.eq_false_iff.mpr c108
           subst c108
           have H1 : ((laws_markGraph.f kj87 t459 t460 1).bind fun bt480 => ((laws_heldGraph.f kj87 t459 bt480.2 1).bind fun t482 => (if t482 < 0 then (some false) else (if t482 = bt480.1 then ((laws_toGraph.f kj87 a0_0 l0_1).bind fun bt483 => ((laws_toIntS.f kj87 l1).bind fun t487 => ((impl_InducedGraph.f kj87 bt483.1 bt483.2 t487).bind fun bt490 => ((laws_eqGraph.f kj87 bt490.1 bt490.2.1 t445 t446).bind fun t496 => (if t496 = true then (laws_FnExactInducedGraph.j2 kj87 bt480.1 (bt490.2.2 != t449) t459 bt480.2) else (laws_FnExactInducedGraph.j2 kj87 bt480.1 true t459 bt480.2)))))) else (some false))))) = some r := by rw [if_neg (show ¬ (false = true) by decide)] at H; exact H
           clear H
           have H := H1
           clear H1
           replace H := Option.bind_eq_some_iff.mp H
           obtain ⟨⟨t480, t481⟩, A1090, H⟩ := H
           replace H : ((laws_heldGraph.f kj87 t459 t481 1).bind fun t482 => (if t482 < 0 then (some false) else (if t482 = t480 then ((laws_toGraph.f kj87 a0_0 l0_1).bind fun bt483 => ((laws_toIntS.f kj87 l1).bind fun t487 => ((impl_InducedGraph.f kj87 bt483.1 bt483.2 t487).bind fun bt490 => ((laws_eqGraph.f kj87 bt490.1 bt490.2.1 t445 t446).bind fun t496 => (if t496 = true then (laws_FnExactInducedGraph.j2 kj87 t480 (bt490.2.2 != t449) t459 t481) else (laws_FnExactInducedGraph.j2 kj87 t480 true t459 t481)))))) else (some false)))) = some r := H
           have A109 := Aside0.mk A1090
           clear A1090
           replace H := Option.bind_eq_some_iff.mp H
           obtain ⟨t482, A1100, H⟩ := H
           replace H : (if t482 < 0 then (some false) else (if t482 = t480 then ((laws_toGraph.f kj87 a0_0 l0_1).bind fun bt483 => ((laws_toIntS.f kj87 l1).bind fun t487 => ((impl_InducedGraph.f kj87 bt483.1 bt483.2 t487).bind fun bt490 => ((laws_eqGraph.f kj87 bt490.1 bt490.2.1 t445 t446).bind fun t496 => (if t496 = true then (laws_FnExactInducedGraph.j2 kj87 t480 (bt490.2.2 != t449) t459 t481) else (laws_FnExactInducedGraph.j2 kj87 t480 true t459 t481)))))) else (some false))) = some r := H
           have A110 := Aside0.mk A1100
           clear A1100
           have HU111 := Aside0.mk H
           clear H
           have hnb112 := NB464_436.out
           have hnc112 := NB436_464.out
           have hnb113 := NB464_450.out
           have hnc113 := NB450_464.out
           have hnb114 := NB464_455.out
           have hnc114 := NB455_464.out
           have hcz115_0 : wc.cell? ⟨gb464, 0, none⟩ = some (.int .i64 t459) := (blk_cell BK464.out 0).trans rfl
           have hcz115_1 : wc.cell? ⟨gb464, 1, none⟩ = some (.slice Ao44 t460.length co44) := (blk_cell BK464.out 1).trans rfl
           have hfz115_0 := blk_frozen BK464.out 0
           have hfz115_1 := blk_frozen BK464.out 1
           go_upto_if 88 with (first | ((with_reducible refine gate_callee (f := 24) rfl ?_); refine goesL_ (some 83) rfl rfl Try.func24 (by kernel_rfl) rfl #[.agg #[.int .i64 t459, .slice Ao44 t460.length co44], .int .i64 1] rfl (by (try simp only [List.map_toArray, List.map_cons, List.map_nil]); first | done | rfl | (simp only [List.length_drop, List.length_take]; rfl)) ?_; (with_reducible refine (laws_markGraph.calls kj87 t459 (fun k_ => some k_ = (.slice Ao44 t460.length co44 : Value).ownBlock) (.slice Ao44 t460.length co44) t460 1 t480 t481 w _ ?side1 ?side2 A109.out).mono ?_); (case side1 => repeat (first | (with_reducible first | exact HB.out | apply below_alloc | apply pw_below_drewN | apply below_drew1 | refine below_set ?_ GE436.out | refine below_set ?_ GE450.out | refine below_set ?_ GE455.out | refine below_set ?_ GE464.out) | exact HB.out)); (case side2 => exact Kd.R_tight rfl HO_465001.out); rintro e w116 ⟨rfl, hy0, hb, hkp⟩; refine ⟨_, rfl, ?_⟩; have n0_ := Aside0.mk (Kd.R_mono (ok' := fun k_ => some k_ ≠ (.slice Ao34 t476.length co34 : Value).ownBlock ∧ some k_ ≠ (.slice Ao44 t460.length co44 : Value).ownBlock) (Kd.R_keptB (HO_451001.out) hkp (fun k_ hk_ hs_ => (hk_.2) hs_)) (fun k_ hk_ => ⟨hk_.1.1, hk_.1.2⟩)); have n1_ := Aside0.mk (Kd.R_mono (ok' := fun k_ => some k_ ≠ (.slice Ao27 t446.length co27 : Value).ownBlock ∧ some k_ ≠ (.slice Ao44 t460.length co44 : Value).ownBlock) (Kd.R_keptB (HO_456001.out) hkp (fun k_ hk_ hs_ => (hk_.2) hs_)) (fun k_ hk_ => ⟨hk_.1.1, hk_.1.2⟩)); have n2_ := Aside0.mk (Kd.R_reok rfl hy0 (fun k_ e_ => HO_465001.out.1 k_ e_)); have n3_ := Aside0.mk (blk_kept (by first | exact BK436.out | ((with_reducible repeat (first | refine blk_drewN ?_ _ | refine blk_drew ?_ | refine blk_alloc ?_ _)); exact BK436.out)) hkp (fun hs_ => (fun e_ => (Kd.R_ne HO_465001.out BK436.out (by decide)) e_) hs_)); have n4_ := Aside0.mk (blk_kept (by first | exact BK450.out | ((with_reducible repeat (first | refine blk_drewN ?_ _ | refine blk_drew ?_ | refine blk_alloc ?_ _)); exact BK450.out)) hkp (fun hs_ => (fun e_ => (Kd.R_ne HO_465001.out BK450.out (by decide)) e_) hs_)); have n5_ := Aside0.mk (blk_kept (by first | exact BK455.out | ((with_reducible repeat (first | refine blk_drewN ?_ _ | refine blk_drew ?_ | refine blk_alloc ?_ _)); exact BK455.out)) hkp (fun hs_ => (fun e_ => (Kd.R_ne HO_465001.out BK455.out (by decide)) e_) hs_)); have n6_ := Aside0.mk (blk_kept (by first | exact BK464.out | ((with_reducible repeat (first | refine blk_drewN ?_ _ | refine blk_drew ?_ | refine blk_alloc ?_ _)); exact BK464.out)) hkp (fun hs_ => (fun e_ => (Kd.R_ne HO_465001.out BK464.out (by decide)) e_) hs_)); have n7_ := Aside0.mk (hb); clear HO_451001; clear HO_456001; clear HO_465001; clear BK436; clear BK450; clear BK455; clear BK464; clear HB; have HO_451001 := n0_; have HO_456001 := n1_; have HO_465001 := n2_; have BK436 := n3_; have BK450 := n4_; have BK455 := n5_; have BK464 := n6_; have HB := n7_; clear n0_ n1_ n2_ n3_ n4_ n5_ n6_ n7_; (try clear hb); (try clear hkp); (try clear hy0); have hcz117_0 : w116.cell? ⟨gb464, 0, none⟩ = some (.int .i64 t459) := (blk_cell BK464.out 0).trans rfl; have hcz117_1 : w116.cell? ⟨gb464, 1, none⟩ = some (.slice Ao44 t460.length co44) := (blk_cell BK464.out 1).trans rfl; have hfz117_0 := blk_frozen BK464.out 0; have hfz117_1 := blk_frozen BK464.out 1) | ((with_reducible refine gate_callee (f := 25) rfl ?_); refine goesL_ (some 86) rfl rfl Try.func25 (by kernel_rfl) rfl #[.agg #[.int .i64 t459, .slice Ao44 t481.length co44], .int .i64 1] rfl (by (try simp only [List.map_toArray, List.map_cons, List.map_nil]); first | done | (rw [show t481.length = t460.length from (Kd.R_reads' HO_465001.out).1.symm] <;> rfl) | rfl | (simp only [List.length_drop, List.length_take]; rfl)) ?_; (with_reducible refine (laws_heldGraph.calls kj87 t459 _ _ t481 1 t482 _ ?side1 ?side2 A110.out).mono ?_); (case side1 => repeat (first | exact (Kd.R_reads' HO_465001.out).2.2 | (with_reducible refine Kd.C_alloc ?_ _) | (with_reducible refine Kd.C_drewN ?_ _) | (with_reducible refine Kd.C_drew ?_))); (case side2 => rw [show t481.length = t460.length from (Kd.R_reads' HO_465001.out).1.symm]; exact (Kd.R_reads' HO_465001.out).2.1); rintro e w118 ⟨rfl, hb⟩; refine ⟨_, rfl, ?_⟩; have n0_ := Aside0.mk (Kd.R_below (by (with_reducible repeat (first | apply Kd.R_alloc | apply Kd.R_drewN | apply Kd.R_drew)); exact HO_451001.out) hb); have n1_ := Aside0.mk (Kd.R_below (by (with_reducible repeat (first | apply Kd.R_alloc | apply Kd.R_drewN | apply Kd.R_drew)); exact HO_456001.out) hb); have n2_ := Aside0.mk (Kd.R_below (by (with_reducible repeat (first | apply Kd.R_alloc | apply Kd.R_drewN | apply Kd.R_drew)); exact HO_465001.out) hb); have n3_ := Aside0.mk (blk_below (g := gb436) (o := .cells #[.int .i64 a0_0, .slice A0_1 l0_1.length c0_1] 24 (0, 0)) (by (with_reducible repeat (first | refine blk_drewN ?_ _ | refine blk_drew ?_ | refine blk_alloc ?_ _)); exact BK436.out) hb); have n4_ := Aside0.mk (blk_below (g := gb450) (o := .cells #[.int .i64 t445, .slice Ao27 t446.length co27] 29 (0, 0)) (by (with_reducible repeat (first | refine blk_drewN ?_ _ | refine blk_drew ?_ | refine blk_alloc ?_ _)); exact BK450.out) hb); have n5_ := Aside0.mk (blk_below (g := gb455) (o := .cells #[.int .i64 t451, .slice Ao34 t476.length co34] 29 (0, 0)) (by (with_reducible repeat (first | refine blk_drewN ?_ _ | refine blk_drew ?_ | refine blk_alloc ?_ _)); exact BK455.out) hb); have n6_ := Aside0.mk (blk_below (g := gb464) (o := .cells #[.int .i64 t459, .slice Ao44 t460.length co44] 29 (0, 0)) (by (with_reducible repeat (first | refine blk_drewN ?_ _ | refine blk_drew ?_ | refine blk_alloc ?_ _)); exact BK464.out) hb); have n7_ := Aside0.mk (below_step (by repeat (first | (with_reducible first | exact HB.out | apply below_alloc | apply pw_below_drewN | apply below_drew1 | refine below_set ?_ GE436.out | refine below_set ?_ GE450.out | refine below_set ?_ GE455.out | refine below_set ?_ GE464.out) | exact HB.out)) hb); clear HO_451001; clear HO_456001; clear HO_465001; clear BK436; clear BK450; clear BK455; clear BK464; clear HB; have HO_451001 := n0_; have HO_456001 := n1_; have HO_465001 := n2_; have BK436 := n3_; have BK450 := n4_; have BK455 := n5_; have BK464 := n6_; have HB := n7_; clear n0_ n1_ n2_ n3_ n4_ n5_ n6_ n7_; (try clear hb); (try clear hb2); (try clear hk); (try clear hi)))
           (try simp only [Act.put, List.setIfInBounds_toArray, List.set_cons_zero, List.set_cons_succ])
           have H := HU111.out
           clear HU111
           by_cases c119 : t482 < 0
           ·rw [if_pos c119] at H
            have c119b0 : decide (t482 < 0) = true := decide_eq_true c119
            clear c119
            (first | rw [c119b0] | (simp only [i64_w, i32_w]; rw [c119b0]) | skip)
            obtain rfl := Option.some.inj H
            go_wp2
            go_ret
            exact ⟨by first | rfl | (simp [errW_none, errW_some] <;> rfl) | (simp [*, errW_none, errW_some] <;> rfl), by repeat (first | (with_reducible first | exact HB.out | apply below_alloc | apply pw_below_drewN | apply below_drew1 | refine below_set ?_ GE436.out | refine below_set ?_ GE450.out | refine below_set ?_ GE455.out | refine below_set ?_ GE464.out) | exact HB.out)⟩
           ·rw [if_neg c119] at H
            have c119b0 : decide (t482 < 0) = false := decide_eq_false c119
            clear c119
            (first | rw [c119b0] | (simp only [i64_w, i32_w]; rw [c119b0]) | skip)
            by_cases c120 : t482 = t480
            ·rw [if_pos c120] at H
             have c120b0 : (t482 == t480) = true := beq_iff_eq.mpr c120
             have c120b1 : (t482 != t480) = false := bne_eq_false_iff_eq.mpr c120
             clear c120
             replace H := Option.bind_eq_some_iff.mp H
             obtain ⟨⟨t483, t484⟩, A1210, H⟩ := H
             replace H : ((laws_toIntS.f kj87 l1).bind fun t487 => ((impl_InducedGraph.f kj87 t483 t484 t487).bind fun bt490 => ((laws_eqGraph.f kj87 bt490.1 bt490.2.1 t445 t446).bind fun t496 => (if t496 = true then (laws_FnExactInducedGraph.j2 kj87 t480 (bt490.2.2 != t449) t459 t481) else (laws_FnExactInducedGraph.j2 kj87 t480 true t459 t481))))) = some r := H
             have A121 := Aside0.mk A1210
             clear A1210
             replace H := Option.bind_eq_some_iff.mp H
             obtain ⟨t487, A1220, H⟩ := H
             replace H : ((impl_InducedGraph.f kj87 t483 t484 t487).bind fun bt490 => ((laws_eqGraph.f kj87 bt490.1 bt490.2.1 t445 t446).bind fun t496 => (if t496 = true then (laws_FnExactInducedGraph.j2 kj87 t480 (bt490.2.2 != t449) t459 t481) else (laws_FnExactInducedGraph.j2 kj87 t480 true t459 t481)))) = some r := H
             have A122 := Aside0.mk A1220
             clear A1220
             replace H := Option.bind_eq_some_iff.mp H
             obtain ⟨⟨t490, t491, t494⟩, A1230, H⟩ := H
             replace H : ((laws_eqGraph.f kj87 t490 t491 t445 t446).bind fun t496 => (if t496 = true then (laws_FnExactInducedGraph.j2 kj87 t480 (t494 != t449) t459 t481) else (laws_FnExactInducedGraph.j2 kj87 t480 true t459 t481))) = some r := H
             have A123 := Aside0.mk A1230
             clear A1230
             have HU124 := Aside0.mk H
             clear H
             have hnb125 := NB436_450.out
             have hnc125 := NB450_436.out
             have hnb126 := NB436_455.out
             have hnc126 := NB455_436.out
             have hnb127 := NB436_464.out
             have hnc127 := NB464_436.out
             have hcz128_0 : w118.cell? ⟨gb436, 0, none⟩ = some (.int .i64 a0_0) := (blk_cell BK436.out 0).trans rfl
             have hcz128_1 : w118.cell? ⟨gb436, 1, none⟩ = some (.slice A0_1 l0_1.length c0_1) := (blk_cell BK436.out 1).trans rfl
             have hfz128_0 := blk_frozen BK436.out 0
             have hfz128_1 := blk_frozen BK436.out 1
             go_upto_region 31 with (first | ((with_reducible refine gate_callee (f := 17) rfl ?_); refine goesL_ (some 94) rfl rfl Try.func17 (by kernel_rfl) rfl #[.agg #[.int .i64 a0_0, .slice A0_1 l0_1.length c0_1]] rfl (by (try simp only [List.map_toArray, List.map_cons, List.map_nil]); first | done | rfl | (simp only [List.length_drop, List.length_take]; rfl)) ?_; (with_reducible refine (laws_toGraph.calls kj87 a0_0 _ _ l0_1 t483 t484 _ ?side1 ?side2 A121.out).mono ?_); (case side1 => repeat (first | exact (Kd.C_below HR0_1.out HB.out) | (with_reducible refine Kd.C_alloc ?_ _) | (with_reducible refine Kd.C_drewN ?_ _) | (with_reducible refine Kd.C_drew ?_))); (case side2 => exact HC0_1.out); rintro e w129 ⟨v485, rfl, ho0, hb⟩; refine ⟨_, rfl, ?_⟩; have n0_ := Aside0.mk (Kd.R_elder' (by (with_reducible repeat (first | apply Kd.R_alloc | apply Kd.R_drewN | apply Kd.R_drew)); exact HO_451001.out) (Kd.R_base ho0) hb); have n1_ := Aside0.mk (Kd.R_elder' (by (with_reducible repeat (first | apply Kd.R_alloc | apply Kd.R_drewN | apply Kd.R_drew)); exact HO_456001.out) (Kd.R_base ho0) hb); have n2_ := Aside0.mk (Kd.R_elder' (by (with_reducible repeat (first | apply Kd.R_alloc | apply Kd.R_drewN | apply Kd.R_drew)); exact HO_465001.out) (Kd.R_base ho0) hb); have n3_ := Aside0.mk (Kd.R_lower (Kd.R_new' (Kd.R_new' (Kd.R_new' ho0 (Kd.R_lt (by (with_reducible repeat (first | apply Kd.R_alloc | apply Kd.R_drewN | apply Kd.R_drew)); exact HO_451001.out))) (Kd.R_lt (by (with_reducible repeat (first | apply Kd.R_alloc | apply Kd.R_drewN | apply Kd.R_drew)); exact HO_456001.out))) (Kd.R_lt (by (with_reducible repeat (first | apply Kd.R_alloc | apply Kd.R_drewN | apply Kd.R_drew)); exact HO_465001.out))) (below_size (by repeat (first | (with_reducible first | exact HB.out | apply below_alloc | apply pw_below_drewN | apply below_drew1 | refine below_set ?_ GE436.out | refine below_set ?_ GE450.out | refine below_set ?_ GE455.out | refine below_set ?_ GE464.out) | exact HB.out)))); have n4_ := Aside0.mk (blk_below (g := gb436) (o := .cells #[.int .i64 a0_0, .slice A0_1 l0_1.length c0_1] 24 (0, 0)) (by (with_reducible repeat (first | refine blk_drewN ?_ _ | refine blk_drew ?_ | refine blk_alloc ?_ _)); exact BK436.out) hb); have n5_ := Aside0.mk (blk_below (g := gb450) (o := .cells #[.int .i64 t445, .slice Ao27 t446.length co27] 29 (0, 0)) (by (with_reducible repeat (first | refine blk_drewN ?_ _ | refine blk_drew ?_ | refine blk_alloc ?_ _)); exact BK450.out) hb); have n6_ := Aside0.mk (blk_below (g := gb455) (o := .cells #[.int .i64 t451, .slice Ao34 t476.length co34] 29 (0, 0)) (by (with_reducible repeat (first | refine blk_drewN ?_ _ | refine blk_drew ?_ | refine blk_alloc ?_ _)); exact BK455.out) hb); have n7_ := Aside0.mk (blk_below (g := gb464) (o := .cells #[.int .i64 t459, .slice Ao44 t460.length co44] 29 (0, 0)) (by (with_reducible repeat (first | refine blk_drewN ?_ _ | refine blk_drew ?_ | refine blk_alloc ?_ _)); exact BK464.out) hb); have n8_ := Aside0.mk (below_step (by repeat (first | (with_reducible first | exact HB.out | apply below_alloc | apply pw_below_drewN | apply below_drew1 | refine below_set ?_ GE436.out | refine below_set ?_ GE450.out | refine below_set ?_ GE455.out | refine below_set ?_ GE464.out) | exact HB.out)) hb); clear HO_451001; clear HO_456001; clear HO_465001; clear BK436; clear BK450; clear BK455; clear BK464; clear HB; have HO_451001 := n0_; have HO_456001 := n1_; have HO_465001 := n2_; have HO486 := n3_; have BK436 := n4_; have BK450 := n5_; have BK455 := n6_; have BK464 := n7_; have HB := n8_; clear n0_ n1_ n2_ n3_ n4_ n5_ n6_ n7_ n8_; (try clear hb); (try clear hb2); (try clear hk); (try clear hi); (try clear ho0)) | ((with_reducible refine gate_callee (f := 18) rfl ?_); refine goesL_ (some 96) rfl rfl Try.func18 (by kernel_rfl) rfl #[.slice A1 l1.length c1] rfl (by (try simp only [List.map_toArray, List.map_cons, List.map_nil]); first | done | rfl | (simp only [List.length_drop, List.length_take]; rfl)) ?_; (with_reducible refine (laws_toIntS.calls kj87 _ _ l1 t487 _ ?side1 ?side2 A122.out).mono ?_); (case side1 => repeat (first | exact (Kd.C_below HR1.out HB.out) | (with_reducible refine Kd.C_alloc ?_ _) | (with_reducible refine Kd.C_drewN ?_ _) | (with_reducible refine Kd.C_drew ?_))); (case side2 => exact HC1.out); rintro e w130 ⟨v488, rfl, ho0, hb⟩; refine ⟨_, rfl, ?_⟩; have n0_ := Aside0.mk (Kd.R_below (by (with_reducible repeat (first | apply Kd.R_alloc | apply Kd.R_drewN | apply Kd.R_drew)); exact HO_451001.out) hb); have n1_ := Aside0.mk (Kd.R_below (by (with_reducible repeat (first | apply Kd.R_alloc | apply Kd.R_drewN | apply Kd.R_drew)); exact HO_456001.out) hb); have n2_ := Aside0.mk (Kd.R_below (by (with_reducible repeat (first | apply Kd.R_alloc | apply Kd.R_drewN | apply Kd.R_drew)); exact HO_465001.out) hb); have n3_ := Aside0.mk (Kd.R_below (by (with_reducible repeat (first | apply Kd.R_alloc | apply Kd.R_drewN | apply Kd.R_drew)); exact HO486.out) hb); have n4_ := Aside0.mk (Kd.R_lower ho0 (below_size (by repeat (first | (with_reducible first | exact HB.out | apply below_alloc | apply pw_below_drewN | apply below_drew1 | refine below_set ?_ GE436.out | refine below_set ?_ GE450.out | refine below_set ?_ GE455.out | refine below_set ?_ GE464.out) | exact HB.out)))); have n5_ := Aside0.mk (blk_below (g := gb436) (o := .cells #[.int .i64 a0_0, .slice A0_1 l0_1.length c0_1] 24 (0, 0)) (by (with_reducible repeat (first | refine blk_drewN ?_ _ | refine blk_drew ?_ | refine blk_alloc ?_ _)); exact BK436.out) hb); have n6_ := Aside0.mk (blk_below (g := gb450) (o := .cells #[.int .i64 t445, .slice Ao27 t446.length co27] 29 (0, 0)) (by (with_reducible repeat (first | refine blk_drewN ?_ _ | refine blk_drew ?_ | refine blk_alloc ?_ _)); exact BK450.out) hb); have n7_ := Aside0.mk (blk_below (g := gb455) (o := .cells #[.int .i64 t451, .slice Ao34 t476.length co34] 29 (0, 0)) (by (with_reducible repeat (first | refine blk_drewN ?_ _ | refine blk_drew ?_ | refine blk_alloc ?_ _)); exact BK455.out) hb); have n8_ := Aside0.mk (blk_below (g := gb464) (o := .cells #[.int .i64 t459, .slice Ao44 t460.length co44] 29 (0, 0)) (by (with_reducible repeat (first | refine blk_drewN ?_ _ | refine blk_drew ?_ | refine blk_alloc ?_ _)); exact BK464.out) hb); have n9_ := Aside0.mk (below_step (by repeat (first | (with_reducible first | exact HB.out | apply below_alloc | apply pw_below_drewN | apply below_drew1 | refine below_set ?_ GE436.out | refine below_set ?_ GE450.out | refine below_set ?_ GE455.out | refine below_set ?_ GE464.out) | exact HB.out)) hb); clear HO_451001; clear HO_456001; clear HO_465001; clear HO486; clear BK436; clear BK450; clear BK455; clear BK464; clear HB; have HO_451001 := n0_; have HO_456001 := n1_; have HO_465001 := n2_; have HO486 := n3_; have HO489 := n4_; have BK436 := n5_; have BK450 := n6_; have BK455 := n7_; have BK464 := n8_; have HB := n9_; clear n0_ n1_ n2_ n3_ n4_ n5_ n6_ n7_ n8_ n9_; (try clear hb); (try clear hb2); (try clear hk); (try clear hi); (try clear ho0); obtain ⟨Ao131, co131, eo131⟩ := Kd.R_slice HO486.out; subst eo131; obtain ⟨Ao132, co132, eo132⟩ := Kd.R_slice HO489.out; subst eo132) | ((with_reducible refine gate_callee (f := 44) rfl ?_); refine goesL_ (some 97) rfl rfl Try.func44 (by kernel_rfl) rfl #[.agg #[.int .i64 t483, .slice Ao131 t484.length co131], .slice Ao132 t487.length co132] rfl (by (try simp only [List.map_toArray, List.map_cons, List.map_nil]); first | done | rfl | (simp only [List.length_drop, List.length_take]; rfl)) ?_; (with_reducible refine (impl_InducedGraph.calls kj87 t483 _ _ t484 _ _ t487 t490 t491 t494 _ ?side1 ?side2 ?side3 ?side4 A123.out).mono ?_); (case side1 => repeat (first | exact (Kd.R_reads' HO486.out).2.2 | (with_reducible refine Kd.C_alloc ?_ _) | (with_reducible refine Kd.C_drewN ?_ _) | (with_reducible refine Kd.C_drew ?_))); (case side2 => exact (Kd.R_reads' HO486.out).2.1); (case side3 => repeat (first | exact (Kd.R_reads' HO489.out).2.2 | (with_reducible refine Kd.C_alloc ?_ _) | (with_reducible refine Kd.C_drewN ?_ _) | (with_reducible refine Kd.C_drew ?_))); (case side4 => exact (Kd.R_reads' HO489.out).2.1); rintro e w133 ⟨v492, rfl, ho0, hb⟩; refine ⟨_, rfl, ?_⟩; have n0_ := Aside0.mk (Kd.R_elder' (by (with_reducible repeat (first | apply Kd.R_alloc | apply Kd.R_drewN | apply Kd.R_drew)); exact HO_451001.out) (Kd.R_base ho0) hb); have n1_ := Aside0.mk (Kd.R_elder' (by (with_reducible repeat (first | apply Kd.R_alloc | apply Kd.R_drewN | apply Kd.R_drew)); exact HO_456001.out) (Kd.R_base ho0) hb); have n2_ := Aside0.mk (Kd.R_elder' (by (with_reducible repeat (first | apply Kd.R_alloc | apply Kd.R_drewN | apply Kd.R_drew)); exact HO_465001.out) (Kd.R_base ho0) hb); have n3_ := Aside0.mk (Kd.R_elder' (by (with_reducible repeat (first | apply Kd.R_alloc | apply Kd.R_drewN | apply Kd.R_drew)); exact HO486.out) (Kd.R_base ho0) hb); have n4_ := Aside0.mk (Kd.R_below (by (with_reducible repeat (first | apply Kd.R_alloc | apply Kd.R_drewN | apply Kd.R_drew)); exact HO489.out) hb); have n5_ := Aside0.mk (Kd.R_lower (Kd.R_new' (Kd.R_new' (Kd.R_new' (Kd.R_new' ho0 (Kd.R_lt (by (with_reducible repeat (first | apply Kd.R_alloc | apply Kd.R_drewN | apply Kd.R_drew)); exact HO_451001.out))) (Kd.R_lt (by (with_reducible repeat (first | apply Kd.R_alloc | apply Kd.R_drewN | apply Kd.R_drew)); exact HO_456001.out))) (Kd.R_lt (by (with_reducible repeat (first | apply Kd.R_alloc | apply Kd.R_drewN | apply Kd.R_drew)); exact HO_465001.out))) (Kd.R_lt (by (with_reducible repeat (first | apply Kd.R_alloc | apply Kd.R_drewN | apply Kd.R_drew)); exact HO486.out))) (below_size (by repeat (first | (with_reducible first | exact HB.out | apply below_alloc | apply pw_below_drewN | apply below_drew1 | refine below_set ?_ GE436.out | refine below_set ?_ GE450.out | refine below_set ?_ GE455.out | refine below_set ?_ GE464.out) | exact HB.out)))); have n6_ := Aside0.mk (blk_below (g := gb436) (o := .cells #[.int .i64 a0_0, .slice A0_1 l0_1.length c0_1] 24 (0, 0)) (by (with_reducible repeat (first | refine blk_drewN ?_ _ | refine blk_drew ?_ | refine blk_alloc ?_ _)); exact BK436.out) hb); have n7_ := Aside0.mk (blk_below (g := gb450) (o := .cells #[.int .i64 t445, .slice Ao27 t446.length co27] 29 (0, 0)) (by (with_reducible repeat (first | refine blk_drewN ?_ _ | refine blk_drew ?_ | refine blk_alloc ?_ _)); exact BK450.out) hb); have n8_ := Aside0.mk (blk_below (g := gb455) (o := .cells #[.int .i64 t451, .slice Ao34 t476.length co34] 29 (0, 0)) (by (with_reducible repeat (first | refine blk_drewN ?_ _ | refine blk_drew ?_ | refine blk_alloc ?_ _)); exact BK455.out) hb); have n9_ := Aside0.mk (blk_below (g := gb464) (o := .cells #[.int .i64 t459, .slice Ao44 t460.length co44] 29 (0, 0)) (by (with_reducible repeat (first | refine blk_drewN ?_ _ | refine blk_drew ?_ | refine blk_alloc ?_ _)); exact BK464.out) hb); have n10_ := Aside0.mk (below_step (by repeat (first | (with_reducible first | exact HB.out | apply below_alloc | apply pw_below_drewN | apply below_drew1 | refine below_set ?_ GE436.out | refine below_set ?_ GE450.out | refine below_set ?_ GE455.out | refine below_set ?_ GE464.out) | exact HB.out)) hb); clear HO_451001; clear HO_456001; clear HO_465001; clear HO486; clear HO489; clear BK436; clear BK450; clear BK455; clear BK464; clear HB; have HO_451001 := n0_; have HO_456001 := n1_; have HO_465001 := n2_; have HO486 := n3_; have HO489 := n4_; have HO493 := n5_; have BK436 := n6_; have BK450 := n7_; have BK455 := n8_; have BK464 := n9_; have HB := n10_; clear n0_ n1_ n2_ n3_ n4_ n5_ n6_ n7_ n8_ n9_ n10_; (try clear hb); (try clear hb2); (try clear hk); (try clear hi); (try clear ho0)) | ((with_reducible refine gate_dst (N := 15) rfl ?_); refine box_event ?hg (N := 15) ?hd (cs := #[.int .i64 0, .slice none 0 0]) (t := 29) ?hr ?_; (case hd => rfl); (case hg => rfl); (case hr => first | (go_simp; done) | (go_simp; rfl)); intro gb495 hg w134 hbox hb; have n0_ := Aside0.mk (Kd.R_below (by (with_reducible repeat (first | apply Kd.R_alloc | apply Kd.R_drewN | apply Kd.R_drew)); exact HO_451001.out) hb); have n1_ := Aside0.mk (Kd.R_below (by (with_reducible repeat (first | apply Kd.R_alloc | apply Kd.R_drewN | apply Kd.R_drew)); exact HO_456001.out) hb); have n2_ := Aside0.mk (Kd.R_below (by (with_reducible repeat (first | apply Kd.R_alloc | apply Kd.R_drewN | apply Kd.R_drew)); exact HO_465001.out) hb); have n3_ := Aside0.mk (Kd.R_below (by (with_reducible repeat (first | apply Kd.R_alloc | apply Kd.R_drewN | apply Kd.R_drew)); exact HO486.out) hb); have n4_ := Aside0.mk (Kd.R_below (by (with_reducible repeat (first | apply Kd.R_alloc | apply Kd.R_drewN | apply Kd.R_drew)); exact HO489.out) hb); have n5_ := Aside0.mk (Kd.R_below (by (with_reducible repeat (first | apply Kd.R_alloc | apply Kd.R_drewN | apply Kd.R_drew)); exact HO493.out) hb); have n6_ := Aside0.mk (blk_below (g := gb436) (o := .cells #[.int .i64 a0_0, .slice A0_1 l0_1.length c0_1] 24 (0, 0)) (by (with_reducible repeat (first | refine blk_drewN ?_ _ | refine blk_drew ?_ | refine blk_alloc ?_ _)); exact BK436.out) hb); have n7_ := Aside0.mk (blk_below (g := gb450) (o := .cells #[.int .i64 t445, .slice Ao27 t446.length co27] 29 (0, 0)) (by (with_reducible repeat (first | refine blk_drewN ?_ _ | refine blk_drew ?_ | refine blk_alloc ?_ _)); exact BK450.out) hb); have n8_ := Aside0.mk (blk_below (g := gb455) (o := .cells #[.int .i64 t451, .slice Ao34 t476.length co34] 29 (0, 0)) (by (with_reducible repeat (first | refine blk_drewN ?_ _ | refine blk_drew ?_ | refine blk_alloc ?_ _)); exact BK455.out) hb); have n9_ := Aside0.mk (blk_below (g := gb464) (o := .cells #[.int .i64 t459, .slice Ao44 t460.length co44] 29 (0, 0)) (by (with_reducible repeat (first | refine blk_drewN ?_ _ | refine blk_drew ?_ | refine blk_alloc ?_ _)); exact BK464.out) hb); have n10_ := Aside0.mk (below_step (by repeat (first | (with_reducible first | exact HB.out | apply below_alloc | apply pw_below_drewN | apply below_drew1 | refine below_set ?_ GE436.out | refine below_set ?_ GE450.out | refine below_set ?_ GE455.out | refine below_set ?_ GE464.out) | exact HB.out)) hb); have n11_ := Aside0.mk (hbox); have n12_ := Aside0.mk ((by rw [hg]; exact (below_size (by repeat (first | (with_reducible first | exact HB.out | apply below_alloc | apply pw_below_drewN | apply below_drew1 | refine below_set ?_ GE436.out | refine below_set ?_ GE450.out | refine below_set ?_ GE455.out | refine below_set ?_ GE464.out) | exact HB.out))) : w.heap.size ≤ gb495)); have n13_ := Aside0.mk ((by rw [hg]; exact (below_size (by repeat (first | (with_reducible first | exact HB.out | apply below_alloc | apply pw_below_drewN | apply below_drew1 | refine below_set ?_ GE436.out | refine below_set ?_ GE450.out | refine below_set ?_ GE455.out | refine below_set ?_ GE464.out) | exact HB.out))) : w.heap.size ≤ gb495)); have n14_ := Aside0.mk ((by rw [hg]; exact Nat.ne_of_lt (blk_lt (g := gb436) (o := .cells #[.int .i64 a0_0, .slice A0_1 l0_1.length c0_1] 24 (0, 0)) (by (with_reducible repeat (first | refine blk_drewN ?_ _ | refine blk_drew ?_ | refine blk_alloc ?_ _)); exact BK436.out)) : gb436 ≠ gb495)); have n15_ := Aside0.mk ((by rw [hg]; exact Nat.ne_of_gt (blk_lt (g := gb436) (o := .cells #[.int .i64 a0_0, .slice A0_1 l0_1.length c0_1] 24 (0, 0)) (by (with_reducible repeat (first | refine blk_drewN ?_ _ | refine blk_drew ?_ | refine blk_alloc ?_ _)); exact BK436.out)) : gb495 ≠ gb436)); have n16_ := Aside0.mk ((by rw [hg]; exact Nat.ne_of_lt (blk_lt (g := gb450) (o := .cells #[.int .i64 t445, .slice Ao27 t446.length co27] 29 (0, 0)) (by (with_reducible repeat (first | refine blk_drewN ?_ _ | refine blk_drew ?_ | refine blk_alloc ?_ _)); exact BK450.out)) : gb450 ≠ gb495)); have n17_ := Aside0.mk ((by rw [hg]; exact Nat.ne_of_gt (blk_lt (g := gb450) (o := .cells #[.int .i64 t445, .slice Ao27 t446.length co27] 29 (0, 0)) (by (with_reducible repeat (first | refine blk_drewN ?_ _ | refine blk_drew ?_ | refine blk_alloc ?_ _)); exact BK450.out)) : gb495 ≠ gb450)); have n18_ := Aside0.mk ((by rw [hg]; exact Nat.ne_of_lt (blk_lt (g := gb455) (o := .cells #[.int .i64 t451, .slice Ao34 t476.length co34] 29 (0, 0)) (by (with_reducible repeat (first | refine blk_drewN ?_ _ | refine blk_drew ?_ | refine blk_alloc ?_ _)); exact BK455.out)) : gb455 ≠ gb495)); have n19_ := Aside0.mk ((by rw [hg]; exact Nat.ne_of_gt (blk_lt (g := gb455) (o := .cells #[.int .i64 t451, .slice Ao34 t476.length co34] 29 (0, 0)) (by (with_reducible repeat (first | refine blk_drewN ?_ _ | refine blk_drew ?_ | refine blk_alloc ?_ _)); exact BK455.out)) : gb495 ≠ gb455)); have n20_ := Aside0.mk ((by rw [hg]; exact Nat.ne_of_lt (blk_lt (g := gb464) (o := .cells #[.int .i64 t459, .slice Ao44 t460.length co44] 29 (0, 0)) (by (with_reducible repeat (first | refine blk_drewN ?_ _ | refine blk_drew ?_ | refine blk_alloc ?_ _)); exact BK464.out)) : gb464 ≠ gb495)); have n21_ := Aside0.mk ((by rw [hg]; exact Nat.ne_of_gt (blk_lt (g := gb464) (o := .cells #[.int .i64 t459, .slice Ao44 t460.length co44] 29 (0, 0)) (by (with_reducible repeat (first | refine blk_drewN ?_ _ | refine blk_drew ?_ | refine blk_alloc ?_ _)); exact BK464.out)) : gb495 ≠ gb464)); clear HO_451001; clear HO_456001; clear HO_465001; clear HO486; clear HO489; clear HO493; clear BK436; clear BK450; clear BK455; clear BK464; clear HB; have HO_451001 := n0_; have HO_456001 := n1_; have HO_465001 := n2_; have HO486 := n3_; have HO489 := n4_; have HO493 := n5_; have BK436 := n6_; have BK450 := n7_; have BK455 := n8_; have BK464 := n9_; have HB := n10_; have BK495 := n11_; have GW495 := n12_; have GE495 := n13_; have NB436_495 := n14_; have NB495_436 := n15_; have NB450_495 := n16_; have NB495_450 := n17_; have NB455_495 := n18_; have NB495_455 := n19_; have NB464_495 := n20_; have NB495_464 := n21_; clear n0_ n1_ n2_ n3_ n4_ n5_ n6_ n7_ n8_ n9_ n10_ n11_ n12_ n13_ n14_ n15_ n16_ n17_ n18_ n19_ n20_ n21_; clear hb hbox hg; have hnb135 := NB495_436.out; have hnc135 := NB436_495.out; have hnb136 := NB495_450.out; have hnc136 := NB450_495.out; have hnb137 := NB495_455.out; have hnc137 := NB455_495.out; have hnb138 := NB495_464.out; have hnc138 := NB464_495.out; have hcz139_0 : w134.cell? ⟨gb495, 0, none⟩ = some (.int .i64 0) := (blk_cell BK495.out 0).trans rfl; have hcz139_1 : w134.cell? ⟨gb495, 1, none⟩ = some (.slice none 0 0) := (blk_cell BK495.out 1).trans rfl; have hfz139_0 := blk_frozen BK495.out 0; have hfz139_1 := blk_frozen BK495.out 1; obtain ⟨Ao140, co140, eo140⟩ := Kd.R_slice HO493.out; subst eo140))
             (try simp only [Act.put, List.setIfInBounds_toArray, List.set_cons_zero, List.set_cons_succ])
             have H := HU124.out
             clear HU124
             have HC141 := Aside0.mk H
             clear H
             go_upto_region 31 with (fail)
             go_cut [108] (fun v108 wc => ∃ (kq : Nat) (x108_140 : Bool), v108 = .bool x108_140 ∧ Aside0 (laws_FnExactInducedGraph.j2 kq t480 x108_140 t459 t481 = some r) ∧ Aside0 (kq ≤ kj87) ∧ Aside0 (Kd.R k65 65 wc w.heap.size (fun k_ => some k_ ≠ ((.slice Ao34 t476.length co34) : Value).ownBlock ∧ some k_ ≠ ((.slice Ao44 t460.length co44) : Value).ownBlock ∧ some k_ ≠ ((.slice Ao140 t491.length co140) : Value).ownBlock) (.slice Ao27 t446.length co27) t446) ∧ Aside0 (Kd.R k65 65 wc w.heap.size (fun k_ => some k_ ≠ ((.slice Ao27 t446.length co27) : Value).ownBlock ∧ some k_ ≠ ((.slice Ao44 t460.length co44) : Value).ownBlock ∧ some k_ ≠ ((.slice Ao140 t491.length co140) : Value).ownBlock) (.slice Ao34 t476.length co34) t476) ∧ Aside0 (Kd.R k65 65 wc w.heap.size (fun k_ => some k_ ≠ ((.slice Ao27 t446.length co27) : Value).ownBlock ∧ some k_ ≠ ((.slice Ao34 t476.length co34) : Value).ownBlock ∧ some k_ ≠ ((.slice Ao140 t491.length co140) : Value).ownBlock) (.slice Ao44 t460.length co44) t481) ∧ Aside0 (Kd.R k65 65 wc w.heap.size (fun k_ => some k_ ≠ ((.slice Ao27 t446.length co27) : Value).ownBlock ∧ some k_ ≠ ((.slice Ao34 t476.length co34) : Value).ownBlock ∧ some k_ ≠ ((.slice Ao44 t460.length co44) : Value).ownBlock) (.slice Ao140 t491.length co140) t491) ∧ Aside0 (wc.heap[gb436]? = some (.cells #[.int .i64 a0_0, (.slice A0_1 l0_1.length c0_1)] 24 (0, 0))) ∧ Aside0 (wc.heap[gb450]? = some (.cells #[.int .i64 t445, (.slice Ao27 t446.length co27)] 29 (0, 0))) ∧ Aside0 (wc.heap[gb455]? = some (.cells #[.int .i64 t451, (.slice Ao34 t476.length co34)] 29 (0, 0))) ∧ Aside0 (wc.heap[gb464]? = some (.cells #[.int .i64 t459, (.slice Ao44 t460.length co44)] 29 (0, 0))) ∧ Aside0 (wc.heap[gb495]? = some (.cells #[.int .i64 t490, (.slice Ao140 t491.length co140)] 29 (0, 0))) ∧ Aside0 (Below w.heap.size w wc))
             case first =>
              have H := HC141.out
              clear HC141
              replace H := Option.bind_eq_some_iff.mp H
              obtain ⟨t496, A1420, H⟩ := H
              replace H : (if t496 = true then (laws_FnExactInducedGraph.j2 kj87 t480 (t494 != t449) t459 t481) else (laws_FnExactInducedGraph.j2 kj87 t480 true t459 t481)) = some r := H
              have A142 := Aside0.mk A1420
              clear A1420
              by_cases c143 : t496 = true
              ·subst c143
               have H1 : (laws_FnExactInducedGraph.j2 kj87 t480 (t494 != t449) t459 t481) = some r := by rw [if_pos rfl] at H; exact H
               clear H
               have H := H1
               clear H1
               have H' := Aside0.mk H
               clear H
               have hnb144 := NB495_436.out
               have hnc144 := NB436_495.out
               have hnb145 := NB495_450.out
               have hnc145 := NB450_495.out
               have hnb146 := NB495_455.out
               have hnc146 := NB455_495.out
               have hnb147 := NB495_464.out
               have hnc147 := NB464_495.out
               have hcz148_0 : w134.cell? ⟨gb495, 0, none⟩ = some (.int .i64 0) := (blk_cell BK495.out 0).trans rfl
               have hcz148_1 : w134.cell? ⟨gb495, 1, none⟩ = some (.slice none 0 0) := (blk_cell BK495.out 1).trans rfl
               have hfz148_0 := blk_frozen BK495.out 0
               have hfz148_1 := blk_frozen BK495.out 1
               have hnb149 := NB450_436.out
               have hnc149 := NB436_450.out
               have hnb150 := NB450_455.out
               have hnc150 := NB455_450.out
               have hnb151 := NB450_464.out
               have hnc151 := NB464_450.out
               have hcz152_0 : w134.cell? ⟨gb450, 0, none⟩ = some (.int .i64 t445) := (blk_cell BK450.out 0).trans rfl
               have hcz152_1 : w134.cell? ⟨gb450, 1, none⟩ = some (.slice Ao27 t446.length co27) := (blk_cell BK450.out 1).trans rfl
               have hfz152_0 := blk_frozen BK450.out 0
               have hfz152_1 := blk_frozen BK450.out 1
               go_wp2_with (first | ((with_reducible refine gate_callee (f := 20) rfl ?_); refine goesL_ (some 102) rfl rfl Try.func20 (by kernel_rfl) rfl #[.agg #[.int .i64 t490, .slice Ao140 t491.length co140], .agg #[.int .i64 t445, .slice Ao27 t446.length co27]] rfl (by (try simp only [List.map_toArray, List.map_cons, List.map_nil]); first | done | rfl | (simp only [List.length_drop, List.length_take]; rfl)) ?_; (with_reducible refine (laws_eqGraph.calls kj87 t490 _ _ t491 t445 _ _ t446 true _ ?side1 ?side2 ?side3 ?side4 A142.out).mono ?_); (case side1 => refine (Kd.R_reads' (e := 65) (base := w.heap.size) (ok := fun k_ => ((((True ∧ some k_ ≠ (.slice Ao27 t446.length co27 : Value).ownBlock) ∧ some k_ ≠ (.slice Ao34 t476.length co34 : Value).ownBlock) ∧ some k_ ≠ (.slice Ao44 t460.length co44 : Value).ownBlock) ∧ some k_ ≠ (.slice Ao131 t484.length co131 : Value).ownBlock)) (n := t491.length) (c := co140) ?_).2.2; exact (by (with_reducible repeat (first | apply Kd.R_alloc | apply Kd.R_drewN | apply Kd.R_drew)); exact (Kd.R_mono (Kd.R_far (p := ⟨gb495, 1, none⟩) (Kd.R_far (p := ⟨gb495, 0, none⟩) (Kd.R_types HO493.out BK495.out (by decide)) (fun _ hk => hk.2) (.int .i64 t490)) (fun _ hk => hk.2) (.slice Ao140 t491.length co140)) (fun _ h_ => h_.1)))); (case side2 => exact (Kd.R_reads' HO493.out).2.1); (case side3 => refine (Kd.R_reads' (e := 65) (base := w.heap.size) (ok := fun k_ => (((some k_ ≠ (.slice Ao34 t476.length co34 : Value).ownBlock ∧ some k_ ≠ (.slice Ao44 t460.length co44 : Value).ownBlock) ∧ some k_ ≠ (.slice Ao131 t484.length co131 : Value).ownBlock) ∧ some k_ ≠ (.slice Ao140 t491.length co140 : Value).ownBlock)) (n := t446.length) (c := co27) ?_).2.2; exact (by (with_reducible repeat (first | apply Kd.R_alloc | apply Kd.R_drewN | apply Kd.R_drew)); exact (Kd.R_mono (Kd.R_far (p := ⟨gb495, 1, none⟩) (Kd.R_far (p := ⟨gb495, 0, none⟩) (Kd.R_types HO_451001.out BK495.out (by decide)) (fun _ hk => hk.2) (.int .i64 t490)) (fun _ hk => hk.2) (.slice Ao140 t491.length co140)) (fun _ h_ => h_.1)))); (case side4 => exact (Kd.R_reads' HO_451001.out).2.1); rintro e w153 ⟨rfl, hb⟩; refine ⟨_, rfl, ?_⟩; have n0_ := Aside0.mk (Kd.R_below (by (with_reducible repeat (first | apply Kd.R_alloc | apply Kd.R_drewN | apply Kd.R_drew)); exact (Kd.R_mono (Kd.R_far (p := ⟨gb495, 1, none⟩) (Kd.R_far (p := ⟨gb495, 0, none⟩) (Kd.R_types HO_451001.out BK495.out (by decide)) (fun _ hk => hk.2) (.int .i64 t490)) (fun _ hk => hk.2) (.slice Ao140 t491.length co140)) (fun _ h_ => h_.1))) hb); have n1_ := Aside0.mk (Kd.R_below (by (with_reducible repeat (first | apply Kd.R_alloc | apply Kd.R_drewN | apply Kd.R_drew)); exact (Kd.R_mono (Kd.R_far (p := ⟨gb495, 1, none⟩) (Kd.R_far (p := ⟨gb495, 0, none⟩) (Kd.R_types HO_456001.out BK495.out (by decide)) (fun _ hk => hk.2) (.int .i64 t490)) (fun _ hk => hk.2) (.slice Ao140 t491.length co140)) (fun _ h_ => h_.1))) hb); have n2_ := Aside0.mk (Kd.R_below (by (with_reducible repeat (first | apply Kd.R_alloc | apply Kd.R_drewN | apply Kd.R_drew)); exact (Kd.R_mono (Kd.R_far (p := ⟨gb495, 1, none⟩) (Kd.R_far (p := ⟨gb495, 0, none⟩) (Kd.R_types HO_465001.out BK495.out (by decide)) (fun _ hk => hk.2) (.int .i64 t490)) (fun _ hk => hk.2) (.slice Ao140 t491.length co140)) (fun _ h_ => h_.1))) hb); have n3_ := Aside0.mk (Kd.R_below (by (with_reducible repeat (first | apply Kd.R_alloc | apply Kd.R_drewN | apply Kd.R_drew)); exact (Kd.R_mono (Kd.R_far (p := ⟨gb495, 1, none⟩) (Kd.R_far (p := ⟨gb495, 0, none⟩) (Kd.R_types HO486.out BK495.out (by decide)) (fun _ hk => hk.2) (.int .i64 t490)) (fun _ hk => hk.2) (.slice Ao140 t491.length co140)) (fun _ h_ => h_.1))) hb); have n4_ := Aside0.mk (Kd.R_below (by (with_reducible repeat (first | apply Kd.R_alloc | apply Kd.R_drewN | apply Kd.R_drew)); exact (Kd.R_mono (Kd.R_far (p := ⟨gb495, 1, none⟩) (Kd.R_far (p := ⟨gb495, 0, none⟩) (Kd.R_types HO489.out BK495.out (by decide)) (fun _ hk => hk.2) (.int .i64 t490)) (fun _ hk => hk.2) (.slice Ao140 t491.length co140)) (fun _ h_ => h_.1))) hb); have n5_ := Aside0.mk (Kd.R_below (by (with_reducible repeat (first | apply Kd.R_alloc | apply Kd.R_drewN | apply Kd.R_drew)); exact (Kd.R_mono (Kd.R_far (p := ⟨gb495, 1, none⟩) (Kd.R_far (p := ⟨gb495, 0, none⟩) (Kd.R_types HO493.out BK495.out (by decide)) (fun _ hk => hk.2) (.int .i64 t490)) (fun _ hk => hk.2) (.slice Ao140 t491.length co140)) (fun _ h_ => h_.1))) hb); have n6_ := Aside0.mk (blk_below (g := gb436) (o := .cells #[.int .i64 a0_0, .slice A0_1 l0_1.length c0_1] 24 (0, 0)) (by (with_reducible repeat (first | refine blk_drewN ?_ _ | refine blk_drew ?_ | refine blk_alloc ?_ _)); refine blk_far ?_ NB436_495.out _; (with_reducible repeat (first | refine blk_drewN ?_ _ | refine blk_drew ?_ | refine blk_alloc ?_ _)); refine blk_far ?_ NB436_495.out _; (with_reducible repeat (first | refine blk_drewN ?_ _ | refine blk_drew ?_ | refine blk_alloc ?_ _)); exact BK436.out) hb); have n7_ := Aside0.mk (blk_below (g := gb450) (o := .cells #[.int .i64 t445, .slice Ao27 t446.length co27] 29 (0, 0)) (by (with_reducible repeat (first | refine blk_drewN ?_ _ | refine blk_drew ?_ | refine blk_alloc ?_ _)); refine blk_far ?_ NB450_495.out _; (with_reducible repeat (first | refine blk_drewN ?_ _ | refine blk_drew ?_ | refine blk_alloc ?_ _)); refine blk_far ?_ NB450_495.out _; (with_reducible repeat (first | refine blk_drewN ?_ _ | refine blk_drew ?_ | refine blk_alloc ?_ _)); exact BK450.out) hb); have n8_ := Aside0.mk (blk_below (g := gb455) (o := .cells #[.int .i64 t451, .slice Ao34 t476.length co34] 29 (0, 0)) (by (with_reducible repeat (first | refine blk_drewN ?_ _ | refine blk_drew ?_ | refine blk_alloc ?_ _)); refine blk_far ?_ NB455_495.out _; (with_reducible repeat (first | refine blk_drewN ?_ _ | refine blk_drew ?_ | refine blk_alloc ?_ _)); refine blk_far ?_ NB455_495.out _; (with_reducible repeat (first | refine blk_drewN ?_ _ | refine blk_drew ?_ | refine blk_alloc ?_ _)); exact BK455.out) hb); have n9_ := Aside0.mk (blk_below (g := gb464) (o := .cells #[.int .i64 t459, .slice Ao44 t460.length co44] 29 (0, 0)) (by (with_reducible repeat (first | refine blk_drewN ?_ _ | refine blk_drew ?_ | refine blk_alloc ?_ _)); refine blk_far ?_ NB464_495.out _; (with_reducible repeat (first | refine blk_drewN ?_ _ | refine blk_drew ?_ | refine blk_alloc ?_ _)); refine blk_far ?_ NB464_495.out _; (with_reducible repeat (first | refine blk_drewN ?_ _ | refine blk_drew ?_ | refine blk_alloc ?_ _)); exact BK464.out) hb); have n10_ := Aside0.mk (blk_below (g := gb495) (o := .cells #[.int .i64 t490, .slice Ao140 t491.length co140] 29 (0, 0)) (by (with_reducible repeat (first | refine blk_drewN ?_ _ | refine blk_drew ?_ | refine blk_alloc ?_ _)); refine blk_put (cs := #[.int .i64 t490, .slice none 0 0]) ?_ 1 _ rfl; (with_reducible repeat (first | refine blk_drewN ?_ _ | refine blk_drew ?_ | refine blk_alloc ?_ _)); refine blk_put (cs := #[.int .i64 0, .slice none 0 0]) ?_ 0 _ rfl; (with_reducible repeat (first | refine blk_drewN ?_ _ | refine blk_drew ?_ | refine blk_alloc ?_ _)); exact BK495.out) hb); have n11_ := Aside0.mk (below_step (by repeat (first | (with_reducible first | exact HB.out | apply below_alloc | apply pw_below_drewN | apply below_drew1 | refine below_set ?_ GE436.out | refine below_set ?_ GE450.out | refine below_set ?_ GE455.out | refine below_set ?_ GE464.out | refine below_set ?_ GE495.out) | exact HB.out)) hb); clear HO_451001; clear HO_456001; clear HO_465001; clear HO486; clear HO489; clear HO493; clear BK436; clear BK450; clear BK455; clear BK464; clear BK495; clear HB; have HO_451001 := n0_; have HO_456001 := n1_; have HO_465001 := n2_; have HO486 := n3_; have HO489 := n4_; have HO493 := n5_; have BK436 := n6_; have BK450 := n7_; have BK455 := n8_; have BK464 := n9_; have BK495 := n10_; have HB := n11_; clear n0_ n1_ n2_ n3_ n4_ n5_ n6_ n7_ n8_ n9_ n10_ n11_; (try clear hb); (try clear hb2); (try clear hk); (try clear hi)))
               go_meet
               case rel => exact ⟨_, ((t494 != t449)), (by first | rfl | (simp; done) | (simp [*]; done)), H', ⟨by have := HJ44.out; have := HJ87.out; first | omega | exact Nat.le_refl _⟩, ⟨by (try simp only [hl456001_87]); (with_reducible repeat (first | apply Kd.R_alloc | apply Kd.R_drewN | apply Kd.R_drew)); exact Kd.R_mono HO_451001.out (fun _ hk => ⟨hk.1.1.1, ⟨hk.1.1.2, hk.2⟩⟩)⟩, ⟨by (try simp only [hl456001_87]); (with_reducible repeat (first | apply Kd.R_alloc | apply Kd.R_drewN | apply Kd.R_drew)); exact Kd.R_mono HO_456001.out (fun _ hk => ⟨hk.1.1.1, ⟨hk.1.1.2, hk.2⟩⟩)⟩, ⟨by (try simp only [hl456001_87]); (with_reducible repeat (first | apply Kd.R_alloc | apply Kd.R_drewN | apply Kd.R_drew)); exact Kd.R_mono HO_465001.out (fun _ hk => ⟨hk.1.1.1, ⟨hk.1.1.2, hk.2⟩⟩)⟩, ⟨by (try simp only [hl456001_87]); (with_reducible repeat (first | apply Kd.R_alloc | apply Kd.R_drewN | apply Kd.R_drew)); exact Kd.R_mono HO493.out (fun _ hk => ⟨hk.1.1.1.2, ⟨hk.1.1.2, hk.1.2⟩⟩)⟩, ⟨by (try simp only [hl456001_87]); (with_reducible repeat (first | refine blk_drewN ?_ _ | refine blk_drew ?_ | refine blk_alloc ?_ _)); exact BK436.out⟩, ⟨by (try simp only [hl456001_87]); (with_reducible repeat (first | refine blk_drewN ?_ _ | refine blk_drew ?_ | refine blk_alloc ?_ _)); exact BK450.out⟩, ⟨by (try simp only [hl456001_87]); (with_reducible repeat (first | refine blk_drewN ?_ _ | refine blk_drew ?_ | refine blk_alloc ?_ _)); exact BK455.out⟩, ⟨by (try simp only [hl456001_87]); (with_reducible repeat (first | refine blk_drewN ?_ _ | refine blk_drew ?_ | refine blk_alloc ?_ _)); exact BK464.out⟩, ⟨by (try simp only [hl456001_87]); (with_reducible repeat (first | refine blk_drewN ?_ _ | refine blk_drew ?_ | refine blk_alloc ?_ _)); exact BK495.out⟩, ⟨by repeat (first | (with_reducible first | exact HB.out | apply below_alloc | apply pw_below_drewN | apply below_drew1 | refine below_set ?_ GE436.out | refine below_set ?_ GE450.out | refine below_set ?_ GE455.out | refine below_set ?_ GE464.out | refine below_set ?_ GE495.out) | exact HB.out)⟩⟩
              ·replace c143 := Bool.eq_false_iff.mpr c143
               subst c143
               have H1 : (laws_FnExactInducedGraph.j2 kj87 t480 true t459 t481) = some r := by rw [if_neg (show ¬ (false = true) by decide)] at H; exact H
               clear H
               have H := H1
               clear H1
               have H' := Aside0.mk H
               clear H
               have hnb154 := NB495_436.out
               have hnc154 := NB436_495.out
               have hnb155 := NB495_450.out
               have hnc155 := NB450_495.out
               have hnb156 := NB495_455.out
               have hnc156 := NB455_495.out
               have hnb157 := NB495_464.out
               have hnc157 := NB464_495.out
               have hcz158_0 : w134.cell? ⟨gb495, 0, none⟩ = some (.int .i64 0) := (blk_cell BK495.out 0).trans rfl
               have hcz158_1 : w134.cell? ⟨gb495, 1, none⟩ = some (.slice none 0 0) := (blk_cell BK495.out 1).trans rfl
               have hfz158_0 := blk_frozen BK495.out 0
               have hfz158_1 := blk_frozen BK495.out 1
               have hnb159 := NB450_436.out
               have hnc159 := NB436_450.out
               have hnb160 := NB450_455.out
               have hnc160 := NB455_450.out
               have hnb161 := NB450_464.out
               have hnc161 := NB464_450.out
               have hcz162_0 : w134.cell? ⟨gb450, 0, none⟩ = some (.int .i64 t445) := (blk_cell BK450.out 0).trans rfl
               have hcz162_1 : w134.cell? ⟨gb450, 1, none⟩ = some (.slice Ao27 t446.length co27) := (blk_cell BK450.out 1).trans rfl
               have hfz162_0 := blk_frozen BK450.out 0
               have hfz162_1 := blk_frozen BK450.out 1
               go_wp2_with (first | ((with_reducible refine gate_callee (f := 20) rfl ?_); refine goesL_ (some 102) rfl rfl Try.func20 (by kernel_rfl) rfl #[.agg #[.int .i64 t490, .slice Ao140 t491.length co140], .agg #[.int .i64 t445, .slice Ao27 t446.length co27]] rfl (by (try simp only [List.map_toArray, List.map_cons, List.map_nil]); first | done | rfl | (simp only [List.length_drop, List.length_take]; rfl)) ?_; (with_reducible refine (laws_eqGraph.calls kj87 t490 _ _ t491 t445 _ _ t446 false _ ?side1 ?side2 ?side3 ?side4 A142.out).mono ?_); (case side1 => refine (Kd.R_reads' (e := 65) (base := w.heap.size) (ok := fun k_ => ((((True ∧ some k_ ≠ (.slice Ao27 t446.length co27 : Value).ownBlock) ∧ some k_ ≠ (.slice Ao34 t476.length co34 : Value).ownBlock) ∧ some k_ ≠ (.slice Ao44 t460.length co44 : Value).ownBlock) ∧ some k_ ≠ (.slice Ao131 t484.length co131 : Value).ownBlock)) (n := t491.length) (c := co140) ?_).2.2; exact (by (with_reducible repeat (first | apply Kd.R_alloc | apply Kd.R_drewN | apply Kd.R_drew)); exact (Kd.R_mono (Kd.R_far (p := ⟨gb495, 1, none⟩) (Kd.R_far (p := ⟨gb495, 0, none⟩) (Kd.R_types HO493.out BK495.out (by decide)) (fun _ hk => hk.2) (.int .i64 t490)) (fun _ hk => hk.2) (.slice Ao140 t491.length co140)) (fun _ h_ => h_.1)))); (case side2 => exact (Kd.R_reads' HO493.out).2.1); (case side3 => refine (Kd.R_reads' (e := 65) (base := w.heap.size) (ok := fun k_ => (((some k_ ≠ (.slice Ao34 t476.length co34 : Value).ownBlock ∧ some k_ ≠ (.slice Ao44 t460.length co44 : Value).ownBlock) ∧ some k_ ≠ (.slice Ao131 t484.length co131 : Value).ownBlock) ∧ some k_ ≠ (.slice Ao140 t491.length co140 : Value).ownBlock)) (n := t446.length) (c := co27) ?_).2.2; exact (by (with_reducible repeat (first | apply Kd.R_alloc | apply Kd.R_drewN | apply Kd.R_drew)); exact (Kd.R_mono (Kd.R_far (p := ⟨gb495, 1, none⟩) (Kd.R_far (p := ⟨gb495, 0, none⟩) (Kd.R_types HO_451001.out BK495.out (by decide)) (fun _ hk => hk.2) (.int .i64 t490)) (fun _ hk => hk.2) (.slice Ao140 t491.length co140)) (fun _ h_ => h_.1)))); (case side4 => exact (Kd.R_reads' HO_451001.out).2.1); rintro e w163 ⟨rfl, hb⟩; refine ⟨_, rfl, ?_⟩; have n0_ := Aside0.mk (Kd.R_below (by (with_reducible repeat (first | apply Kd.R_alloc | apply Kd.R_drewN | apply Kd.R_drew)); exact (Kd.R_mono (Kd.R_far (p := ⟨gb495, 1, none⟩) (Kd.R_far (p := ⟨gb495, 0, none⟩) (Kd.R_types HO_451001.out BK495.out (by decide)) (fun _ hk => hk.2) (.int .i64 t490)) (fun _ hk => hk.2) (.slice Ao140 t491.length co140)) (fun _ h_ => h_.1))) hb); have n1_ := Aside0.mk (Kd.R_below (by (with_reducible repeat (first | apply Kd.R_alloc | apply Kd.R_drewN | apply Kd.R_drew)); exact (Kd.R_mono (Kd.R_far (p := ⟨gb495, 1, none⟩) (Kd.R_far (p := ⟨gb495, 0, none⟩) (Kd.R_types HO_456001.out BK495.out (by decide)) (fun _ hk => hk.2) (.int .i64 t490)) (fun _ hk => hk.2) (.slice Ao140 t491.length co140)) (fun _ h_ => h_.1))) hb); have n2_ := Aside0.mk (Kd.R_below (by (with_reducible repeat (first | apply Kd.R_alloc | apply Kd.R_drewN | apply Kd.R_drew)); exact (Kd.R_mono (Kd.R_far (p := ⟨gb495, 1, none⟩) (Kd.R_far (p := ⟨gb495, 0, none⟩) (Kd.R_types HO_465001.out BK495.out (by decide)) (fun _ hk => hk.2) (.int .i64 t490)) (fun _ hk => hk.2) (.slice Ao140 t491.length co140)) (fun _ h_ => h_.1))) hb); have n3_ := Aside0.mk (Kd.R_below (by (with_reducible repeat (first | apply Kd.R_alloc | apply Kd.R_drewN | apply Kd.R_drew)); exact (Kd.R_mono (Kd.R_far (p := ⟨gb495, 1, none⟩) (Kd.R_far (p := ⟨gb495, 0, none⟩) (Kd.R_types HO486.out BK495.out (by decide)) (fun _ hk => hk.2) (.int .i64 t490)) (fun _ hk => hk.2) (.slice Ao140 t491.length co140)) (fun _ h_ => h_.1))) hb); have n4_ := Aside0.mk (Kd.R_below (by (with_reducible repeat (first | apply Kd.R_alloc | apply Kd.R_drewN | apply Kd.R_drew)); exact (Kd.R_mono (Kd.R_far (p := ⟨gb495, 1, none⟩) (Kd.R_far (p := ⟨gb495, 0, none⟩) (Kd.R_types HO489.out BK495.out (by decide)) (fun _ hk => hk.2) (.int .i64 t490)) (fun _ hk => hk.2) (.slice Ao140 t491.length co140)) (fun _ h_ => h_.1))) hb); have n5_ := Aside0.mk (Kd.R_below (by (with_reducible repeat (first | apply Kd.R_alloc | apply Kd.R_drewN | apply Kd.R_drew)); exact (Kd.R_mono (Kd.R_far (p := ⟨gb495, 1, none⟩) (Kd.R_far (p := ⟨gb495, 0, none⟩) (Kd.R_types HO493.out BK495.out (by decide)) (fun _ hk => hk.2) (.int .i64 t490)) (fun _ hk => hk.2) (.slice Ao140 t491.length co140)) (fun _ h_ => h_.1))) hb); have n6_ := Aside0.mk (blk_below (g := gb436) (o := .cells #[.int .i64 a0_0, .slice A0_1 l0_1.length c0_1] 24 (0, 0)) (by (with_reducible repeat (first | refine blk_drewN ?_ _ | refine blk_drew ?_ | refine blk_alloc ?_ _)); refine blk_far ?_ NB436_495.out _; (with_reducible repeat (first | refine blk_drewN ?_ _ | refine blk_drew ?_ | refine blk_alloc ?_ _)); refine blk_far ?_ NB436_495.out _; (with_reducible repeat (first | refine blk_drewN ?_ _ | refine blk_drew ?_ | refine blk_alloc ?_ _)); exact BK436.out) hb); have n7_ := Aside0.mk (blk_below (g := gb450) (o := .cells #[.int .i64 t445, .slice Ao27 t446.length co27] 29 (0, 0)) (by (with_reducible repeat (first | refine blk_drewN ?_ _ | refine blk_drew ?_ | refine blk_alloc ?_ _)); refine blk_far ?_ NB450_495.out _; (with_reducible repeat (first | refine blk_drewN ?_ _ | refine blk_drew ?_ | refine blk_alloc ?_ _)); refine blk_far ?_ NB450_495.out _; (with_reducible repeat (first | refine blk_drewN ?_ _ | refine blk_drew ?_ | refine blk_alloc ?_ _)); exact BK450.out) hb); have n8_ := Aside0.mk (blk_below (g := gb455) (o := .cells #[.int .i64 t451, .slice Ao34 t476.length co34] 29 (0, 0)) (by (with_reducible repeat (first | refine blk_drewN ?_ _ | refine blk_drew ?_ | refine blk_alloc ?_ _)); refine blk_far ?_ NB455_495.out _; (with_reducible repeat (first | refine blk_drewN ?_ _ | refine blk_drew ?_ | refine blk_alloc ?_ _)); refine blk_far ?_ NB455_495.out _; (with_reducible repeat (first | refine blk_drewN ?_ _ | refine blk_drew ?_ | refine blk_alloc ?_ _)); exact BK455.out) hb); have n9_ := Aside0.mk (blk_below (g := gb464) (o := .cells #[.int .i64 t459, .slice Ao44 t460.length co44] 29 (0, 0)) (by (with_reducible repeat (first | refine blk_drewN ?_ _ | refine blk_drew ?_ | refine blk_alloc ?_ _)); refine blk_far ?_ NB464_495.out _; (with_reducible repeat (first | refine blk_drewN ?_ _ | refine blk_drew ?_ | refine blk_alloc ?_ _)); refine blk_far ?_ NB464_495.out _; (with_reducible repeat (first | refine blk_drewN ?_ _ | refine blk_drew ?_ | refine blk_alloc ?_ _)); exact BK464.out) hb); have n10_ := Aside0.mk (blk_below (g := gb495) (o := .cells #[.int .i64 t490, .slice Ao140 t491.length co140] 29 (0, 0)) (by (with_reducible repeat (first | refine blk_drewN ?_ _ | refine blk_drew ?_ | refine blk_alloc ?_ _)); refine blk_put (cs := #[.int .i64 t490, .slice none 0 0]) ?_ 1 _ rfl; (with_reducible repeat (first | refine blk_drewN ?_ _ | refine blk_drew ?_ | refine blk_alloc ?_ _)); refine blk_put (cs := #[.int .i64 0, .slice none 0 0]) ?_ 0 _ rfl; (with_reducible repeat (first | refine blk_drewN ?_ _ | refine blk_drew ?_ | refine blk_alloc ?_ _)); exact BK495.out) hb); have n11_ := Aside0.mk (below_step (by repeat (first | (with_reducible first | exact HB.out | apply below_alloc | apply pw_below_drewN | apply below_drew1 | refine below_set ?_ GE436.out | refine below_set ?_ GE450.out | refine below_set ?_ GE455.out | refine below_set ?_ GE464.out | refine below_set ?_ GE495.out) | exact HB.out)) hb); clear HO_451001; clear HO_456001; clear HO_465001; clear HO486; clear HO489; clear HO493; clear BK436; clear BK450; clear BK455; clear BK464; clear BK495; clear HB; have HO_451001 := n0_; have HO_456001 := n1_; have HO_465001 := n2_; have HO486 := n3_; have HO489 := n4_; have HO493 := n5_; have BK436 := n6_; have BK450 := n7_; have BK455 := n8_; have BK464 := n9_; have BK495 := n10_; have HB := n11_; clear n0_ n1_ n2_ n3_ n4_ n5_ n6_ n7_ n8_ n9_ n10_ n11_; (try clear hb); (try clear hb2); (try clear hk); (try clear hi)))
               go_meet
               case rel => exact ⟨_, (true), (by first | rfl | (simp; done) | (simp [*]; done)), H', ⟨by have := HJ44.out; have := HJ87.out; first | omega | exact Nat.le_refl _⟩, ⟨by (try simp only [hl456001_87]); (with_reducible repeat (first | apply Kd.R_alloc | apply Kd.R_drewN | apply Kd.R_drew)); exact Kd.R_mono HO_451001.out (fun _ hk => ⟨hk.1.1.1, ⟨hk.1.1.2, hk.2⟩⟩)⟩, ⟨by (try simp only [hl456001_87]); (with_reducible repeat (first | apply Kd.R_alloc | apply Kd.R_drewN | apply Kd.R_drew)); exact Kd.R_mono HO_456001.out (fun _ hk => ⟨hk.1.1.1, ⟨hk.1.1.2, hk.2⟩⟩)⟩, ⟨by (try simp only [hl456001_87]); (with_reducible repeat (first | apply Kd.R_alloc | apply Kd.R_drewN | apply Kd.R_drew)); exact Kd.R_mono HO_465001.out (fun _ hk => ⟨hk.1.1.1, ⟨hk.1.1.2, hk.2⟩⟩)⟩, ⟨by (try simp only [hl456001_87]); (with_reducible repeat (first | apply Kd.R_alloc | apply Kd.R_drewN | apply Kd.R_drew)); exact Kd.R_mono HO493.out (fun _ hk => ⟨hk.1.1.1.2, ⟨hk.1.1.2, hk.1.2⟩⟩)⟩, ⟨by (try simp only [hl456001_87]); (with_reducible repeat (first | refine blk_drewN ?_ _ | refine blk_drew ?_ | refine blk_alloc ?_ _)); exact BK436.out⟩, ⟨by (try simp only [hl456001_87]); (with_reducible repeat (first | refine blk_drewN ?_ _ | refine blk_drew ?_ | refine blk_alloc ?_ _)); exact BK450.out⟩, ⟨by (try simp only [hl456001_87]); (with_reducible repeat (first | refine blk_drewN ?_ _ | refine blk_drew ?_ | refine blk_alloc ?_ _)); exact BK455.out⟩, ⟨by (try simp only [hl456001_87]); (with_reducible repeat (first | refine blk_drewN ?_ _ | refine blk_drew ?_ | refine blk_alloc ?_ _)); exact BK464.out⟩, ⟨by (try simp only [hl456001_87]); (with_reducible repeat (first | refine blk_drewN ?_ _ | refine blk_drew ?_ | refine blk_alloc ?_ _)); exact BK495.out⟩, ⟨by repeat (first | (with_reducible first | exact HB.out | apply below_alloc | apply pw_below_drewN | apply below_drew1 | refine below_set ?_ GE436.out | refine below_set ?_ GE450.out | refine below_set ?_ GE455.out | refine below_set ?_ GE464.out | refine below_set ?_ GE495.out) | exact HB.out)⟩⟩
             case rest =>
              clear HC141
              try clear c1
              try clear c2
              try clear p2
              try clear c3
              try clear c4
              try clear c5
              try clear c5b0
              try clear c5b1
              try clear c6
              try clear c7
              try clear c8
              try clear c9
              try clear c10
              try clear c10b0
              try clear c11
              try clear c12
              try clear c13
              try clear c14
              try clear c15
              try clear c16
              try clear c17
              try clear c18
              try clear c20
              try clear c21
              try clear c24
              try clear c25
              try clear c30
              try clear c31
              try clear c32
              try clear c40
              try clear c41
              try clear c42
              try clear c43
              try clear c44
              try clear c47
              try clear c48
              try clear c49
              try clear c50
              try clear c52
              try clear c53
              try clear c56
              try clear c57
              try clear c58
              try clear c60
              try clear c61
              try clear c64
              try clear c72
              try clear c78
              try clear c82
              try clear c83
              try clear c84
              try clear c89
              try clear c89b0
              try clear c91
              try clear c92
              try clear c93
              try clear c94
              try clear c96
              try clear c97
              try clear c100
              try clear c101
              try clear c102
              try clear c104
              try clear c105
              try clear c108
              try clear c112
              try clear c113
              try clear c114
              try clear c119
              try clear c119b0
              try clear c120
              try clear c120b0
              try clear c120b1
              try clear c125
              try clear c126
              try clear c127
              try clear c135
              try clear c136
              try clear c137
              try clear c138
              try clear c143
              try clear c144
              try clear c145
              try clear c146
              try clear c147
              try clear c149
              try clear c150
              try clear c151
              try clear c154
              try clear c155
              try clear c156
              try clear c157
              try clear c159
              try clear c160
              try clear c161
              try clear hcz103_0
              try clear hcz103_1
              try clear hcz106_0
              try clear hcz106_1
              try clear hcz115_0
              try clear hcz115_1
              try clear hcz117_0
              try clear hcz117_1
              try clear hcz128_0
              try clear hcz128_1
              try clear hcz139_0
              try clear hcz139_1
              try clear hcz148_0
              try clear hcz148_1
              try clear hcz152_0
              try clear hcz152_1
              try clear hcz158_0
              try clear hcz158_1
              try clear hcz162_0
              try clear hcz162_1
              try clear hcz18_0
              try clear hcz18_1
              try clear hcz26_0
              try clear hcz26_1
              try clear hcz28_0
              try clear hcz28_1
              try clear hcz33_0
              try clear hcz33_1
              try clear hcz36_0
              try clear hcz36_1
              try clear hcz43_0
              try clear hcz43_1
              try clear hcz51_0
              try clear hcz51_1
              try clear hcz54_0
              try clear hcz54_1
              try clear hcz59_0
              try clear hcz59_1
              try clear hcz62_0
              try clear hcz62_1
              try clear hcz85_0
              try clear hcz85_1
              try clear hcz8_0
              try clear hcz8_1
              try clear hcz95_0
              try clear hcz95_1
              try clear hcz98_0
              try clear hcz98_1
              try clear hfz103_0
              try clear hfz103_1
              try clear hfz106_0
              try clear hfz106_1
              try clear hfz115_0
              try clear hfz115_1
              try clear hfz117_0
              try clear hfz117_1
              try clear hfz128_0
              try clear hfz128_1
              try clear hfz139_0
              try clear hfz139_1
              try clear hfz148_0
              try clear hfz148_1
              try clear hfz152_0
              try clear hfz152_1
              try clear hfz158_0
              try clear hfz158_1
              try clear hfz162_0
              try clear hfz162_1
              try clear hfz18_0
              try clear hfz18_1
              try clear hfz26_0
              try clear hfz26_1
              try clear hfz28_0
              try clear hfz28_1
              try clear hfz33_0
              try clear hfz33_1
              try clear hfz36_0
              try clear hfz36_1
              try clear hfz43_0
              try clear hfz43_1
              try clear hfz51_0
              try clear hfz51_1
              try clear hfz54_0
              try clear hfz54_1
              try clear hfz59_0
              try clear hfz59_1
              try clear hfz62_0
              try clear hfz62_1
              try clear hfz85_0
              try clear hfz85_1
              try clear hfz8_0
              try clear hfz8_1
              try clear hfz95_0
              try clear hfz95_1
              try clear hfz98_0
              try clear hfz98_1
              try clear p2
              obtain ⟨kq, x108_140, rfl, HA, HJ140, HO_451001, HO_456001, HO_465001, HO_496001, BK436, BK450, BK455, BK464, BK495, HB⟩ := hcut
              have hl465001_140 := (Kd.R_reads' HO_465001.out).1
              rw [hl465001_140] at HO_465001
              (try simp only [hl465001_140])
              (try simp only [hl465001_140] at BK436)
              (try simp only [hl465001_140] at BK450)
              (try simp only [hl465001_140] at BK455)
              (try simp only [hl465001_140] at BK464)
              (try simp only [hl465001_140] at BK495)
              (try simp only [hl465001_140] at HO_451001)
              (try simp only [hl465001_140] at HO_456001)
              (try simp only [hl465001_140] at HO_496001)
              cases kq with
              | zero => exact absurd HA.out (by simp [laws_FnExactInducedGraph.j2])
              | succ kj140 =>
               have H := HA.out
               clear HA
               simp only [laws_FnExactInducedGraph.j2] at H
               by_cases c164 : x108_140 = true
               ·subst c164
                have H1 : (some false) = some r := by rw [if_pos rfl] at H; exact H
                clear H
                have H := H1
                clear H1
                obtain rfl := Option.some.inj H
                go_wp2
                go_ret
                exact ⟨by first | rfl | (simp [errW_none, errW_some] <;> rfl) | (simp [*, errW_none, errW_some] <;> rfl), by repeat (first | (with_reducible first | exact HB.out | apply below_alloc | apply pw_below_drewN | apply below_drew1 | refine below_set ?_ GE436.out | refine below_set ?_ GE450.out | refine below_set ?_ GE455.out | refine below_set ?_ GE464.out | refine below_set ?_ GE495.out) | exact HB.out)⟩
               ·replace c164 := Bool.eq_false_iff.mpr c164
                subst c164
                have H1 : ((laws_heldGraph.f kj140 t459 t481 1).bind fun t497 => (if t497 < 0 then (some false) else (if t497 = t480 then (some true) else (some false)))) = some r := by rw [if_neg (show ¬ (false = true) by decide)] at H; exact H
                clear H
                have H := H1
                clear H1
                replace H := Option.bind_eq_some_iff.mp H
                obtain ⟨t497, A1650, H⟩ := H
                replace H : (if t497 < 0 then (some false) else (if t497 = t480 then (some true) else (some false))) = some r := H
                have A165 := Aside0.mk A1650
                clear A1650
                have HU166 := Aside0.mk H
                clear H
                have hnb167 := NB464_436.out
                have hnc167 := NB436_464.out
                have hnb168 := NB464_450.out
                have hnc168 := NB450_464.out
                have hnb169 := NB464_455.out
                have hnc169 := NB455_464.out
                have hnb170 := NB464_495.out
                have hnc170 := NB495_464.out
                have hcz171_0 : wc.cell? ⟨gb464, 0, none⟩ = some (.int .i64 t459) := (blk_cell BK464.out 0).trans rfl
                have hcz171_1 : wc.cell? ⟨gb464, 1, none⟩ = some (.slice Ao44 t481.length co44) := (blk_cell BK464.out 1).trans rfl
                have hfz171_0 := blk_frozen BK464.out 0
                have hfz171_1 := blk_frozen BK464.out 1
                go_upto_if 113 with (first | ((with_reducible refine gate_callee (f := 25) rfl ?_); refine goesL_ (some 111) rfl rfl Try.func25 (by kernel_rfl) rfl #[.agg #[.int .i64 t459, .slice Ao44 t481.length co44], .int .i64 1] rfl (by (try simp only [List.map_toArray, List.map_cons, List.map_nil]); first | done | rfl | (simp only [List.length_drop, List.length_take]; rfl)) ?_; (with_reducible refine (laws_heldGraph.calls kj140 t459 _ _ t481 1 t497 _ ?side1 ?side2 A165.out).mono ?_); (case side1 => repeat (first | exact (Kd.R_reads' HO_465001.out).2.2 | (with_reducible refine Kd.C_alloc ?_ _) | (with_reducible refine Kd.C_drewN ?_ _) | (with_reducible refine Kd.C_drew ?_))); (case side2 => exact (Kd.R_reads' HO_465001.out).2.1); rintro e w172 ⟨rfl, hb⟩; refine ⟨_, rfl, ?_⟩; have n0_ := Aside0.mk (Kd.R_below (by (with_reducible repeat (first | apply Kd.R_alloc | apply Kd.R_drewN | apply Kd.R_drew)); exact HO_451001.out) hb); have n1_ := Aside0.mk (Kd.R_below (by (with_reducible repeat (first | apply Kd.R_alloc | apply Kd.R_drewN | apply Kd.R_drew)); exact HO_456001.out) hb); have n2_ := Aside0.mk (Kd.R_below (by (with_reducible repeat (first | apply Kd.R_alloc | apply Kd.R_drewN | apply Kd.R_drew)); exact HO_465001.out) hb); have n3_ := Aside0.mk (Kd.R_below (by (with_reducible repeat (first | apply Kd.R_alloc | apply Kd.R_drewN | apply Kd.R_drew)); exact HO_496001.out) hb); have n4_ := Aside0.mk (blk_below (g := gb436) (o := .cells #[.int .i64 a0_0, .slice A0_1 l0_1.length c0_1] 24 (0, 0)) (by (with_reducible repeat (first | refine blk_drewN ?_ _ | refine blk_drew ?_ | refine blk_alloc ?_ _)); exact BK436.out) hb); have n5_ := Aside0.mk (blk_below (g := gb450) (o := .cells #[.int .i64 t445, .slice Ao27 t446.length co27] 29 (0, 0)) (by (with_reducible repeat (first | refine blk_drewN ?_ _ | refine blk_drew ?_ | refine blk_alloc ?_ _)); exact BK450.out) hb); have n6_ := Aside0.mk (blk_below (g := gb455) (o := .cells #[.int .i64 t451, .slice Ao34 t476.length co34] 29 (0, 0)) (by (with_reducible repeat (first | refine blk_drewN ?_ _ | refine blk_drew ?_ | refine blk_alloc ?_ _)); exact BK455.out) hb); have n7_ := Aside0.mk (blk_below (g := gb464) (o := .cells #[.int .i64 t459, .slice Ao44 t481.length co44] 29 (0, 0)) (by (with_reducible repeat (first | refine blk_drewN ?_ _ | refine blk_drew ?_ | refine blk_alloc ?_ _)); exact BK464.out) hb); have n8_ := Aside0.mk (blk_below (g := gb495) (o := .cells #[.int .i64 t490, .slice Ao140 t491.length co140] 29 (0, 0)) (by (with_reducible repeat (first | refine blk_drewN ?_ _ | refine blk_drew ?_ | refine blk_alloc ?_ _)); exact BK495.out) hb); have n9_ := Aside0.mk (below_step (by repeat (first | (with_reducible first | exact HB.out | apply below_alloc | apply pw_below_drewN | apply below_drew1 | refine below_set ?_ GE436.out | refine below_set ?_ GE450.out | refine below_set ?_ GE455.out | refine below_set ?_ GE464.out | refine below_set ?_ GE495.out) | exact HB.out)) hb); clear HO_451001; clear HO_456001; clear HO_465001; clear HO_496001; clear BK436; clear BK450; clear BK455; clear BK464; clear BK495; clear HB; have HO_451001 := n0_; have HO_456001 := n1_; have HO_465001 := n2_; have HO_496001 := n3_; have BK436 := n4_; have BK450 := n5_; have BK455 := n6_; have BK464 := n7_; have BK495 := n8_; have HB := n9_; clear n0_ n1_ n2_ n3_ n4_ n5_ n6_ n7_ n8_ n9_; (try clear hb); (try clear hb2); (try clear hk); (try clear hi)))
                (try simp only [Act.put, List.setIfInBounds_toArray, List.set_cons_zero, List.set_cons_succ])
                have H := HU166.out
                clear HU166
                by_cases c173 : t497 < 0
                ·rw [if_pos c173] at H
                 have c173b0 : decide (t497 < 0) = true := decide_eq_true c173
                 clear c173
                 (first | rw [c173b0] | (simp only [i64_w, i32_w]; rw [c173b0]) | skip)
                 obtain rfl := Option.some.inj H
                 go_wp2
                 go_ret
                 exact ⟨by first | rfl | (simp [errW_none, errW_some] <;> rfl) | (simp [*, errW_none, errW_some] <;> rfl), by repeat (first | (with_reducible first | exact HB.out | apply below_alloc | apply pw_below_drewN | apply below_drew1 | refine below_set ?_ GE436.out | refine below_set ?_ GE450.out | refine below_set ?_ GE455.out | refine below_set ?_ GE464.out | refine below_set ?_ GE495.out) | exact HB.out)⟩
                ·rw [if_neg c173] at H
                 have c173b0 : decide (t497 < 0) = false := decide_eq_false c173
                 clear c173
                 (first | rw [c173b0] | (simp only [i64_w, i32_w]; rw [c173b0]) | skip)
                 by_cases c174 : t497 = t480
                 ·rw [if_pos c174] at H
                  have c174b0 : (t497 == t480) = true := beq_iff_eq.mpr c174
                  have c174b1 : (t497 != t480) = false := bne_eq_false_iff_eq.mpr c174
                  clear c174
                  obtain rfl := Option.some.inj H
                  go_wp2
                  go_ret
                  exact ⟨by first | rfl | (simp [errW_none, errW_some] <;> rfl) | (simp [*, errW_none, errW_some] <;> rfl), by repeat (first | (with_reducible first | exact HB.out | apply below_alloc | apply pw_below_drewN | apply below_drew1 | refine below_set ?_ GE436.out | refine below_set ?_ GE450.out | refine below_set ?_ GE455.out | refine below_set ?_ GE464.out | refine below_set ?_ GE495.out) | exact HB.out)⟩
                 ·rw [if_neg c174] at H
                  have c174b0 : (t497 == t480) = false := beq_eq_false_iff_ne.mpr c174
                  have c174b1 : (t497 != t480) = true := bne_iff_ne.mpr c174
                  obtain rfl := Option.some.inj H
                  go_wp2
                  go_ret
                  exact ⟨by first | rfl | (simp [errW_none, errW_some] <;> rfl) | (simp [*, errW_none, errW_some] <;> rfl), by repeat (first | (with_reducible first | exact HB.out | apply below_alloc | apply pw_below_drewN | apply below_drew1 | refine below_set ?_ GE436.out | refine below_set ?_ GE450.out | refine below_set ?_ GE455.out | refine below_set ?_ GE464.out | refine below_set ?_ GE495.out) | exact HB.out)⟩
            ·rw [if_neg c120] at H
             have c120b0 : (t482 == t480) = false := beq_eq_false_iff_ne.mpr c120
             have c120b1 : (t482 != t480) = true := bne_iff_ne.mpr c120
             obtain rfl := Option.some.inj H
             go_wp2
             go_ret
             exact ⟨by first | rfl | (simp [errW_none, errW_some] <;> rfl) | (simp [*, errW_none, errW_some] <;> rfl), by repeat (first | (with_reducible first | exact HB.out | apply below_alloc | apply pw_below_drewN | apply below_drew1 | refine below_set ?_ GE436.out | refine below_set ?_ GE450.out | refine below_set ?_ GE455.out | refine below_set ?_ GE464.out) | exact HB.out)⟩
       ·replace c78 := Bool.eq_false_iff.mpr c78
        subst c78
        have H1 : (some false) = some r := by rw [if_neg (show ¬ (false = true) by decide)] at H; exact H
        clear H
        have H := H1
        clear H1
        obtain rfl := Option.some.inj H
        go_wp2
        go_ret
        exact ⟨by first | rfl | (simp [errW_none, errW_some] <;> rfl) | (simp [*, errW_none, errW_some] <;> rfl), by repeat (first | (with_reducible first | exact HB.out | apply below_alloc | apply pw_below_drewN | apply below_drew1 | refine below_set ?_ GE436.out | refine below_set ?_ GE450.out | refine below_set ?_ GE455.out | refine below_set ?_ GE464.out) | exact HB.out)⟩
      ·replace c72 := Bool.eq_false_iff.mpr c72
       subst c72
       have H1 : (some false) = some r := by rw [if_neg (show ¬ (false = true) by decide)] at H; exact H
       clear H
       have H := H1
       clear H1
       obtain rfl := Option.some.inj H
       go_wp2
       go_ret
       exact ⟨by first | rfl | (simp [errW_none, errW_some] <;> rfl) | (simp [*, errW_none, errW_some] <;> rfl), by repeat (first | (with_reducible first | exact HB.out | apply below_alloc | apply pw_below_drewN | apply below_drew1 | refine below_set ?_ GE436.out | refine below_set ?_ GE450.out | refine below_set ?_ GE455.out | refine below_set ?_ GE464.out) | exact HB.out)⟩
def laws_FnExactInducedGraph.Pure : Prop := ∀ (a0_0 : Int) (l0_1 : List (S65)) (l1 : List Int), (Lit.int .i64 a0_0).wf = true → l0_1.length ≤ maxLen → (∀ x ∈ l0_1, (Lit.int .i64 x.f0).wf = true ∧ (Lit.int .i64 x.f1).wf = true) → l1.length ≤ maxLen → (∀ x ∈ l1, (Lit.int .i64 x).wf = true) → ∃ k, laws_FnExactInducedGraph.f k a0_0 l0_1 l1 = some true

end Go.Proofs.Yteepmbpmhaaonaa.P
-- squeezed
