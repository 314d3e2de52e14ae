/- Functions of the program as Lean functions, that each call comes to what they say, and what holds of them; part 12 of 14; no conditions beyond those that each theorem names. -/
import Derived.Test.YtcjddikalgnhpaaK1
import Derived.Test.YtcjddikalgnhpaaK2
import Derived.Test.YtcjddikalgnhpaaK3
import Derived.Test.YtcjddikalgnhpaaK4
import Derived.Test.YtcjddikalgnhpaaK5
import Derived.Test.YtcjddikalgnhpaaK6
import Derived.Test.YtcjddikalgnhpaaK7
import Derived.Test.YtcjddikalgnhpaaK9
import Derived.Test.YtcjddikalgnhpaaK10
import Derived.Test.YtcjddikalgnhpaaK11
namespace Go.Proofs.Ytcjddikalgnhpaa.P
open Go.RowKit Go.Proofs.YtcjddikalgnhpaaW.PrintWords Go.Proofs.YtcjddikalgnhpaaW.PrintLast Go.Proofs.YtcjddikalgnhpaaW.PrintMore
attribute [local go_sem] max2_int min2_int max_two min_two max_three min_three max_four min_four   -- for this text's walks alone
set_option linter.unusedVariables false
set_option linter.unusedSimpArgs false
/-! ### laws_FnFamilies: function 4 -/
mutual
def laws_FnFamilies.j0 : Nat → List Int → Int → Bool → Bool → Int → List (S71) → Option (Bool)
 | 0, _, _, _, _, _, _ => none
 | k + 1, x0, x3, x5, x61, x109000, x109001 => if x61 = true then (none) else ((impl_CycleGraph.f k x3).bind fun bt116 => ((spec_CycleGraph.f k x3).bind fun bt122 => (if (bt116.2.2 != bt122.2.2) = true then (laws_FnFamilies.j1 k x0 x3 x5 bt116.2.2 true x109000 x109001 bt116.1 bt116.2.1) else ((laws_rGraph.f k bt116.1 bt116.2.1 bt122.1 bt122.2.1).bind fun t128 => (laws_FnFamilies.j1 k x0 x3 x5 bt116.2.2 (!t128) x109000 x109001 bt116.1 bt116.2.1)))))
def laws_FnFamilies.j1 : Nat → List Int → Int → Bool → Bool → Bool → Int → List (S71) → Int → List (S71) → Option (Bool)
 | 0, _, _, _, _, _, _, _, _, _ => none
 | k + 1, x0, x3, x5, x9, x80, x109000, x109001, x122000, x122001 => if x80 = true then (none) else ((impl_CompleteGraph.f k x3).bind fun bt129 => ((spec_CompleteGraph.f k x3).bind fun bt135 => (if (bt129.2.2 != bt135.2.2) = true then (laws_FnFamilies.j2 k x0 x3 x5 x9 true x109000 x109001 x122000 x122001 bt129.1 bt129.2.1) else (if (bt129.2.2 != x5) = true then (laws_FnFamilies.j2 k x0 x3 x5 x9 true x109000 x109001 x122000 x122001 bt129.1 bt129.2.1) else ((laws_rGraph.f k bt129.1 bt129.2.1 bt135.1 bt135.2.1).bind fun t141 => (laws_FnFamilies.j2 k x0 x3 x5 x9 (!t141) x109000 x109001 x122000 x122001 bt129.1 bt129.2.1))))))
def laws_FnFamilies.j2 : Nat → List Int → Int → Bool → Bool → Bool → Int → List (S71) → Int → List (S71) → Int → List (S71) → Option (Bool)
 | 0, _, _, _, _, _, _, _, _, _, _, _ => none
 | k + 1, x0, x3, x5, x9, x104, x109000, x109001, x122000, x122001, x135000, x135001 => if x104 = true then (none) else (if x5 = true then (laws_FnFamilies.j3 k x0 x3 x9 (decide (x3 > 0)) x109000 x109001 x122000 x122001 x135000 x135001) else (laws_FnFamilies.j3 k x0 x3 x9 false x109000 x109001 x122000 x122001 x135000 x135001))
def laws_FnFamilies.j3 : Nat → List Int → Int → Bool → Bool → Int → List (S71) → Int → List (S71) → Int → List (S71) → Option (Bool)
 | 0, _, _, _, _, _, _, _, _, _, _ => none
 | k + 1, x0, x3, x9, x109, x109000, x109001, x122000, x122001, x135000, x135001 => if x109 = true then ((impl_RadiusOf.f k x109000 x109001).bind fun bt142 => ((impl_RadiusOf.f k x135000 x135001).bind fun bt144 => (if x3 > 1 then (if bt142.2 = true then (if bt144.2 = true then (if bt142.1 = (wrap64 (Int.tdiv x3 2)) then (if bt144.1 = 1 then (laws_FnFamilies.j4 k x0 x3 x9 x122000 x122001) else (none)) else (none)) else (none)) else (none)) else (if bt142.2 = true then (if bt144.2 = true then (if bt142.1 = (wrap64 (Int.tdiv x3 2)) then (if bt144.1 = 0 then (laws_FnFamilies.j4 k x0 x3 x9 x122000 x122001) else (none)) else (none)) else (none)) else (none))))) else (laws_FnFamilies.j4 k x0 x3 x9 x122000 x122001)
def laws_FnFamilies.j4 : Nat → List Int → Int → Bool → Int → List (S71) → Option (Bool)
 | 0, _, _, _, _, _ => none
 | k + 1, x0, x3, x9, x122000, x122001 => if x9 = true then ((impl_RadiusOf.f k x122000 x122001).bind fun bt146 => (if bt146.2 = true then (if bt146.1 = (wrap64 (Int.tdiv x3 2)) then (laws_FnFamilies.j5 k x0) else (none)) else (none))) else (laws_FnFamilies.j5 k x0)
def laws_FnFamilies.j5 : Nat → List Int → Option (Bool)
 | 0, _ => none
 | k + 1, x0 => (spec_DrawPutBeside.f k x0).bind fun bt148 => ((impl_PutBeside.f k bt148.1 bt148.2.1 bt148.2.2.1 bt148.2.2.2).bind fun bt158 => ((spec_PutBeside.f k bt148.1 bt148.2.1 bt148.2.2.1 bt148.2.2.2).bind fun bt164 => (if (bt158.2.2 != bt164.2.2) = true then (laws_FnFamilies.j6 k bt158.2.2 true bt148.1 bt148.2.1 bt148.2.2.1 bt148.2.2.2 bt158.1 bt158.2.1) else ((laws_rGraph.f k bt158.1 bt158.2.1 bt164.1 bt164.2.1).bind fun t170 => (laws_FnFamilies.j6 k bt158.2.2 (!t170) bt148.1 bt148.2.1 bt148.2.2.1 bt148.2.2.2 bt158.1 bt158.2.1)))))
def laws_FnFamilies.j6 : Nat → Bool → Bool → Int → List (S71) → Int → List (S71) → Int → List (S71) → Option (Bool)
 | 0, _, _, _, _, _, _, _, _ => none
 | k + 1, x26, x178, x157000, x157001, x158000, x158001, x164000, x164001 => if x178 = true then (none) else (if x26 = true then ((impl_PartsOf.f k x157000 x157001).bind fun bt171 => ((impl_PartsOf.f k x158000 x158001).bind fun bt175 => ((impl_PartsOf.f k x164000 x164001).bind fun bt179 => ((impl_RemoveNode.f k x164000 x164001 0).bind fun bt183 => ((spec_RemoveNode.f k x164000 x164001 0).bind fun bt189 => (if (bt183.2.2 != bt189.2.2) = true then (none) else ((laws_rGraph.f k bt183.1 bt183.2.1 bt189.1 bt189.2.1).bind fun t195 => (if t195 = true then (if (bt183.2.2 != (decide (x164000 > 0))) = true then (none) else (if bt171.2 = true then (if bt175.2 = true then (if bt179.2 = true then (some ((bt179.1.length : Int) == (wrap64 ((bt171.1.length : Int) + (bt175.1.length : Int))))) else (none)) else (none)) else (none))) else (none))))))))) else (some true))
end
def laws_FnFamilies.f (k : Nat) (l0 : List Int) : Option (Bool) := (laws_rBig.f l0).bind fun t101 => (if t101 = true then (some true) else ((spec_DrawPathGraph.f l0).bind fun t102 => ((impl_PathGraph.f k t102).bind fun bt103 => ((spec_PathGraph.f k t102).bind fun bt109 => (if (bt103.2.2 != bt109.2.2) = true then (laws_FnFamilies.j0 k l0 t102 bt103.2.2 true bt103.1 bt103.2.1) else ((laws_rGraph.f k bt103.1 bt103.2.1 bt109.1 bt109.2.1).bind fun t115 => (laws_FnFamilies.j0 k l0 t102 bt103.2.2 (!t115) bt103.1 bt103.2.1)))))))
theorem laws_FnFamilies.mono_l : ∀ k, (∀ y0 y1 y2 y3 y4 y5, LeO (laws_FnFamilies.j0 k y0 y1 y2 y3 y4 y5) (laws_FnFamilies.j0 (k + 1) y0 y1 y2 y3 y4 y5)) ∧ (∀ y0 y1 y2 y3 y4 y5 y6 y7 y8, LeO (laws_FnFamilies.j1 k y0 y1 y2 y3 y4 y5 y6 y7 y8) (laws_FnFamilies.j1 (k + 1) y0 y1 y2 y3 y4 y5 y6 y7 y8)) ∧ (∀ y0 y1 y2 y3 y4 y5 y6 y7 y8 y9 y10, LeO (laws_FnFamilies.j2 k y0 y1 y2 y3 y4 y5 y6 y7 y8 y9 y10) (laws_FnFamilies.j2 (k + 1) y0 y1 y2 y3 y4 y5 y6 y7 y8 y9 y10)) ∧ (∀ y0 y1 y2 y3 y4 y5 y6 y7 y8 y9, LeO (laws_FnFamilies.j3 k y0 y1 y2 y3 y4 y5 y6 y7 y8 y9) (laws_FnFamilies.j3 (k + 1) y0 y1 y2 y3 y4 y5 y6 y7 y8 y9)) ∧ (∀ y0 y1 y2 y3 y4, LeO (laws_FnFamilies.j4 k y0 y1 y2 y3 y4) (laws_FnFamilies.j4 (k + 1) y0 y1 y2 y3 y4)) ∧ (∀ y0, LeO (laws_FnFamilies.j5 k y0) (laws_FnFamilies.j5 (k + 1) y0)) ∧ (∀ y0 y1 y2 y3 y4 y5 y6 y7, LeO (laws_FnFamilies.j6 k y0 y1 y2 y3 y4 y5 y6 y7) (laws_FnFamilies.j6 (k + 1) y0 y1 y2 y3 y4 y5 y6 y7))
 | 0 => ⟨fun _ _ _ _ _ _ r h => by simp [laws_FnFamilies.j0] at h, fun _ _ _ _ _ _ _ _ _ r h => by simp [laws_FnFamilies.j1] at h, fun _ _ _ _ _ _ _ _ _ _ _ r h => by simp [laws_FnFamilies.j2] at h, fun _ _ _ _ _ _ _ _ _ _ r h => by simp [laws_FnFamilies.j3] at h, fun _ _ _ _ _ r h => by simp [laws_FnFamilies.j4] at h, fun _ r h => by simp [laws_FnFamilies.j5] at h, fun _ _ _ _ _ _ _ _ r h => by simp [laws_FnFamilies.j6] at h⟩
 | k + 1 => by
  obtain ⟨ih0, ih1, ih2, ih3, ih4, ih5, ih6⟩ := laws_FnFamilies.mono_l k; refine ⟨?_, ?_, ?_, ?_, ?_, ?_, ?_⟩
  all_goals
   intros
   first | unfold laws_FnFamilies.j0 | unfold laws_FnFamilies.j1 | unfold laws_FnFamilies.j2 | unfold laws_FnFamilies.j3 | unfold laws_FnFamilies.j4 | unfold laws_FnFamilies.j5 | unfold laws_FnFamilies.j6
   repeat' first | (with_reducible first | exact ih0 _ _ _ _ _ _ | exact ih1 _ _ _ _ _ _ _ _ _ | exact ih2 _ _ _ _ _ _ _ _ _ _ _ | exact ih3 _ _ _ _ _ _ _ _ _ _ | exact ih4 _ _ _ _ _ | exact ih5 _ | exact ih6 _ _ _ _ _ _ _ _ | exact impl_CompleteGraph.mono _ _ | exact impl_CycleGraph.mono _ _ | exact impl_PartsOf.mono _ _ _ | exact impl_PathGraph.mono _ _ | exact impl_PutBeside.mono _ _ _ _ _ | exact impl_RadiusOf.mono _ _ _ | exact impl_RemoveNode.mono _ _ _ _ | exact laws_rGraph.mono _ _ _ _ _ | exact spec_CompleteGraph.mono _ _ | exact spec_CycleGraph.mono _ _ | exact spec_DrawPutBeside.mono _ _ | exact spec_PathGraph.mono _ _ | exact spec_PutBeside.mono _ _ _ _ _ | exact spec_RemoveNode.mono _ _ _ _ | exact LeO.refl _ | exact LeO.none _ | refine LeO.ite ?_ ?_ | refine LeO.bind ?_ (fun _ => ?_))
theorem laws_FnFamilies.mono : ∀ a0 k, LeO (laws_FnFamilies.f k a0) (laws_FnFamilies.f (k + 1) a0) := by
 intro a0 k
 obtain ⟨ih0, ih1, ih2, ih3, ih4, ih5, ih6⟩ := laws_FnFamilies.mono_l k
 unfold laws_FnFamilies.f
 repeat' first | (with_reducible first | exact ih0 _ _ _ _ _ _ | exact ih1 _ _ _ _ _ _ _ _ _ | exact ih2 _ _ _ _ _ _ _ _ _ _ _ | exact ih3 _ _ _ _ _ _ _ _ _ _ | exact ih4 _ _ _ _ _ | exact ih5 _ | exact ih6 _ _ _ _ _ _ _ _ | exact impl_CompleteGraph.mono _ _ | exact impl_CycleGraph.mono _ _ | exact impl_PartsOf.mono _ _ _ | exact impl_PathGraph.mono _ _ | exact impl_PutBeside.mono _ _ _ _ _ | exact impl_RadiusOf.mono _ _ _ | exact impl_RemoveNode.mono _ _ _ _ | exact laws_rGraph.mono _ _ _ _ _ | exact spec_CompleteGraph.mono _ _ | exact spec_CycleGraph.mono _ _ | exact spec_DrawPutBeside.mono _ _ | exact spec_PathGraph.mono _ _ | exact spec_PutBeside.mono _ _ _ _ _ | exact spec_RemoveNode.mono _ _ _ _ | exact LeO.refl _ | exact LeO.none _ | refine LeO.ite ?_ ?_ | refine LeO.bind ?_ (fun _ => ?_))
theorem laws_FnFamilies.j0_true {k : Nat} {x0 x3 x5 x109000 x109001} {r : Bool} (h : laws_FnFamilies.j0 k x0 x3 x5 true x109000 x109001 = some r) : False := by cases k <;> simp [laws_FnFamilies.j0] at h
theorem laws_FnFamilies.j1_true {k : Nat} {x0 x3 x5 x9 x109000 x109001 x122000 x122001} {r : Bool} (h : laws_FnFamilies.j1 k x0 x3 x5 x9 true x109000 x109001 x122000 x122001 = some r) : False := by cases k <;> simp [laws_FnFamilies.j1] at h
theorem laws_FnFamilies.j2_true {k : Nat} {x0 x3 x5 x9 x109000 x109001 x122000 x122001 x135000 x135001} {r : Bool} (h : laws_FnFamilies.j2 k x0 x3 x5 x9 true x109000 x109001 x122000 x122001 x135000 x135001 = some r) : False := by cases k <;> simp [laws_FnFamilies.j2] at h
theorem laws_FnFamilies.j6_true {k : Nat} {x26 x157000 x157001 x158000 x158001 x164000 x164001} {r : Bool} (h : laws_FnFamilies.j6 k x26 true x157000 x157001 x158000 x158001 x164000 x164001 = some r) : False := by cases k <;> simp [laws_FnFamilies.j6] at h
set_option maxHeartbeats 8000000 in
set_option maxRecDepth 100000 in
theorem laws_FnFamilies.calls (k : Nat) (A0 : Option Addr) (c0 : Nat) (l0 : List Int) (r : Bool) (w : World) (hr0 : Kd.C (Kd.int .u8) w A0 l0.length l0) (hc0 : l0.length ≤ c0) (h : laws_FnFamilies.f k l0 = some r) :
  Calls Try.prog 4 #[.slice A0 l0.length c0] w fun e w' => e = .returned (.bool r) ∧ Below w.heap.size w w' := by
 have hu30 := Try.underlying30
 have HR0 := Aside0.mk hr0
 have HC0 := Aside0.mk hc0
 clear hr0 hc0
 have HB := am (Below.refl w.heap.size w)
 have H : ((laws_rBig.f l0).bind fun t101 => (if t101 = true then (some true) else ((spec_DrawPathGraph.f l0).bind fun t102 => ((impl_PathGraph.f k t102).bind fun bt103 => ((spec_PathGraph.f k t102).bind fun bt109 => (if (bt103.2.2 != bt109.2.2) = true then (laws_FnFamilies.j0 k l0 t102 bt103.2.2 true bt103.1 bt103.2.1) else ((laws_rGraph.f k bt103.1 bt103.2.1 bt109.1 bt109.2.1).bind fun t115 => (laws_FnFamilies.j0 k l0 t102 bt103.2.2 (!t115) bt103.1 bt103.2.1)))))))) = some r := h
 clear h
 replace H := (ob H)
 obtain ⟨t101, A20, H⟩ := H
 (try dsimp only at H)
 have A2 := Aside0.mk A20
 clear A20
 have HU3 := Aside0.mk H
 clear H
 go_enter Try.func4, Try.ntmps4
 go_upto_if 40 with (first | ((with_reducible refine gate_callee (f := 21) rfl ?_); refine goesL_ (some 40) rfl rfl Try.func21 (by kernel_rfl) rfl #[.slice A0 l0.length c0] rfl Q3 ?_; (with_reducible refine (laws_rBig.calls _ _ l0 t101 _ ?side1 ?side2 A2.out).mono ?_); (case side1 => exact (by repeat (first | exact HR0.out | (with_reducible refine Kd.C_alloc ?_ _) | (with_reducible refine Kd.C_drewN ?_ _) | (with_reducible refine Kd.C_drew ?_)))); (case side2 => exact HC0.out); rintro e w' ⟨rfl, ⟨nd, rfl⟩⟩; refine ⟨_, rfl, ?_⟩))
 (try simp only [Act.put, List.setIfInBounds_toArray, List.set_cons_zero, List.set_cons_succ])
 have H := HU3.out
 clear HU3
 by_cases c4 : t101 = true
 ·subst c4
  have H1 : (some true) = some r := by rw [if_pos rfl] at H; exact H
  clear H; have H := H1; clear H1; obtain rfl := Option.some.inj H
  go_wp2
  go_ret
  exact ⟨Q10, Q1 HB⟩
 ·replace c4 := Bool.eq_false_iff.mpr c4
  subst c4; have H1 : ((spec_DrawPathGraph.f l0).bind fun t102 => ((impl_PathGraph.f k t102).bind fun bt103 => ((spec_PathGraph.f k t102).bind fun bt109 => (if (bt103.2.2 != bt109.2.2) = true then (laws_FnFamilies.j0 k l0 t102 bt103.2.2 true bt103.1 bt103.2.1) else ((laws_rGraph.f k bt103.1 bt103.2.1 bt109.1 bt109.2.1).bind fun t115 => (laws_FnFamilies.j0 k l0 t102 bt103.2.2 (!t115) bt103.1 bt103.2.1)))))) = some r := by rw [if_neg (show ¬ (false = true) by decide)] at H; exact H
  clear H; have H := H1; clear H1; replace H := (ob H); obtain ⟨t102, A50, H⟩ := H; (try dsimp only at H); have A5 := Aside0.mk A50; clear A50; replace H := (ob H); obtain ⟨⟨t103, t104, t107⟩, A60, H⟩ := H; (try dsimp only at H); have A6 := Aside0.mk A60; clear A60; replace H := (ob H); obtain ⟨⟨t109, t110, t113⟩, A70, H⟩ := H; (try dsimp only at H); have A7 := Aside0.mk A70; clear A70; have HU8 := Aside0.mk H; clear H
  go_upto_region 6 with (first | ((with_reducible refine gate_callee (f := 22) rfl ?_); refine goesL_ (some 42) rfl rfl Try.func22 (by kernel_rfl) rfl #[.slice A0 l0.length c0] rfl Q3 ?_; (with_reducible refine (spec_DrawPathGraph.calls _ _ l0 t102 _ ?side1 ?side2 A5.out).mono ?_); (case side1 => exact (by repeat (first | exact (Kd.C_below HR0.out (Q1 HB)) | (with_reducible refine Kd.C_alloc ?_ _) | (with_reducible refine Kd.C_drewN ?_ _) | (with_reducible refine Kd.C_drew ?_)))); (case side2 => exact HC0.out); rintro e w9 ⟨rfl, hb⟩; refine ⟨_, rfl, ?_⟩; replace HB := am (below_step (Q1 HB) hb); (try clear hb); (try clear hb2); (try clear hk); (try clear hi)) | ((with_reducible refine gate_callee (f := 23) rfl ?_); refine goesL_ (some 45) rfl rfl Try.func23 (by kernel_rfl) rfl #[.int .i64 t102] rfl Q3 ?_; (with_reducible refine (impl_PathGraph.calls k t102 t103 t104 t107 _ A6.out).mono ?_); rintro e w10 ⟨v105, rfl, ho0, hb⟩; refine ⟨_, rfl, ?_⟩; have HO106 := am (Kd.R_lower ho0 (below_size (Q1 HB))); replace HB := am (below_step (Q1 HB) hb); (try clear hb); (try clear hb2); (try clear hk); (try clear hi); (try clear ho0)) | ((with_reducible refine gate_dst (N := 4) rfl ?_); (try (refine gate_guard (by rfl) ?_; dsimp only)); refine box_event ?hg (N := 4) ?hd (cs := #[.int .i64 0, .slice none 0 0]) (t := 30) ?hr ?_; (case hd => rfl); (case hg => rfl); (case hr => first | (go_simp; done) | (go_simp; rfl)); intro gb108 hg w11 hbox hb; replace HO106 := am (Kd.R_below (Q6 HO106) hb); have BK108 := am (hbox); have GW108 := am ((Q25 : w.heap.size ≤ gb108)); have GE108 := am ((Q25 : w.heap.size ≤ gb108)); replace HB := am (below_step (Q1 HB) hb); clear hb hbox hg; have hcz12_0 : w11.cell? ⟨gb108, 0, none⟩ = some (.int .i64 0) := (blk_cell BK108.out 0).trans rfl; have hcz12_1 : w11.cell? ⟨gb108, 1, none⟩ = some (.slice none 0 0) := (blk_cell BK108.out 1).trans rfl; have hfz12_0 := blk_frozen BK108.out 0; have hfz12_1 := blk_frozen BK108.out 1; obtain ⟨Ao13, co13, eo13⟩ := Kd.R_slice HO106.out; subst eo13) | ((with_reducible refine gate_callee (f := 24) rfl ?_); refine goesL_ (some 50) rfl rfl Try.func24 (by kernel_rfl) rfl #[.int .i64 t102] rfl Q3 ?_; (with_reducible refine (spec_PathGraph.calls k t102 t109 t110 t113 _ A7.out).mono ?_); rintro e w14 ⟨v111, rfl, ho0, hb⟩; refine ⟨_, rfl, ?_⟩; have HO112 := am (Kd.R_lower (Kd.R_new' ho0 (Kd.R_lt (Q149 HO106 BK108))) (below_size (Q5 HB GE108))); replace HO106 := am (Kd.R_elder' (Q149 HO106 BK108) (Kd.R_base ho0) hb); replace BK108 := am (blk_below (g := gb108) (o := .cells #[.int .i64 t103, .slice Ao13 t104.length co13] 30 (0, 0)) (Q31 BK108) hb); replace HB := am (below_step (Q5 HB GE108) hb); (try clear hb); (try clear hb2); (try clear hk); (try clear hi); (try clear ho0)) | ((with_reducible refine gate_dst (N := 6) rfl ?_); (try (refine gate_guard (by rfl) ?_; dsimp only)); refine box_event ?hg (N := 6) ?hd (cs := #[.int .i64 0, .slice none 0 0]) (t := 30) ?hr ?_; (case hd => rfl); (case hg => rfl); (case hr => first | (go_simp; done) | (go_simp; rfl)); intro gb114 hg w15 hbox hb; replace HO106 := am (Kd.R_below (Q6 HO106) hb); replace HO112 := am (Kd.R_below (Q6 HO112) hb); have BK114 := am (hbox); have GW114 := am ((Q25 : w.heap.size ≤ gb114)); have GE114 := am ((Q25 : w.heap.size ≤ gb114)); replace HB := am (below_step (Q1 HB) hb); have NB108_114 := am ((Q46 : gb108 ≠ gb114)); have NB114_108 := am ((Q47 : gb114 ≠ gb108)); replace BK108 := am (blk_below (g := gb108) (o := .cells #[.int .i64 t103, .slice Ao13 t104.length co13] 30 (0, 0)) (Q0 BK108) hb); clear hb hbox hg; have hnb16 := NB114_108.out; have hnc16 := NB108_114.out; have hcz17_0 : w15.cell? ⟨gb114, 0, none⟩ = some (.int .i64 0) := (blk_cell BK114.out 0).trans rfl; have hcz17_1 : w15.cell? ⟨gb114, 1, none⟩ = some (.slice none 0 0) := (blk_cell BK114.out 1).trans rfl; have hfz17_0 := blk_frozen BK114.out 0; have hfz17_1 := blk_frozen BK114.out 1; obtain ⟨Ao18, co18, eo18⟩ := Kd.R_slice HO112.out; subst eo18))
  (try simp only [Act.put, List.setIfInBounds_toArray, List.set_cons_zero, List.set_cons_succ]); have H := HU8.out; clear HU8; have HC19 := Aside0.mk H; clear H
  go_upto_region 6 with (fail)
  go_cut [61] (fun v61 wc => ∃ (kq : Nat) (x61_18 : Bool), v61 = .bool x61_18 ∧ Aside0 (laws_FnFamilies.j0 kq l0 t102 t107 x61_18 t103 t104 = some r) ∧ Aside0 (kq ≤ k) ∧ Aside0 (Kd.R k71 71 wc w.heap.size (fun k_ => some k_ ≠ ((.slice Ao18 t110.length co18) : Value).ownBlock) (.slice Ao13 t104.length co13) t104) ∧ Aside0 (Kd.R k71 71 wc w.heap.size (fun k_ => some k_ ≠ ((.slice Ao13 t104.length co13) : Value).ownBlock) (.slice Ao18 t110.length co18) t110) ∧ Aside0 (wc.heap[gb108]? = some (.cells #[.int .i64 t103, (.slice Ao13 t104.length co13)] 30 (0, 0))) ∧ Aside0 (wc.heap[gb114]? = some (.cells #[.int .i64 t109, (.slice Ao18 t110.length co18)] 30 (0, 0))) ∧ Aside0 (Below w.heap.size w wc))
  case first => as_aux_lemma =>
   have H := HC19.out; clear HC19
   by_cases c20 : (t107 != t113) = true
   ·rw [if_pos c20] at H
    have c20b0 : (t107 != t113) = true := c20; (try (have c20b1 : decide (t107 = t113) = false := by simpa using c20)); (try (have c20b2 : (t107 == t113) = false := by simpa using c20)); (try (have c20b3 : ¬ (t107 = t113) := by simpa using c20)); (try (have c20b4 : (!(t107 == t113)) = true := by simpa using c20)); clear c20
    (first | rw [c20b0] | (simp only [i64_w, i32_w]; rw [c20b0]) | rw [c20b4] | skip)
    first | exact (laws_FnFamilies.j0_true H).elim | exact (laws_FnFamilies.j1_true H).elim | exact (laws_FnFamilies.j2_true H).elim | exact (laws_FnFamilies.j6_true H).elim
   ·rw [if_neg c20] at H
    have c20b0 : (t107 != t113) = false := by simpa using c20
    (try (have c20b1 : decide (t107 = t113) = true := by simpa using c20)); (try (have c20b2 : (t107 == t113) = true := by simpa using c20)); (try (have c20b3 : (!(t107 == t113)) = false := by simpa using c20)); clear c20
    (first | rw [c20b0] | (simp only [i64_w, i32_w]; rw [c20b0]) | rw [c20b3] | skip)
    replace H := (ob H); obtain ⟨t115, A210, H⟩ := H; (try dsimp only at H); have A21 := Aside0.mk A210; clear A210; have H' := Aside0.mk H; clear H; have hnb22 := NB108_114.out; have hnc22 := NB114_108.out; have hcz23_0 : w15.cell? ⟨gb108, 0, none⟩ = some (.int .i64 t103) := (blk_cell BK108.out 0).trans rfl; have hcz23_1 : w15.cell? ⟨gb108, 1, none⟩ = some (.slice Ao13 t104.length co13) := (blk_cell BK108.out 1).trans rfl; have hfz23_0 := blk_frozen BK108.out 0; have hfz23_1 := blk_frozen BK108.out 1; have hcz24_0 : w15.cell? ⟨gb114, 0, none⟩ = some (.int .i64 0) := (blk_cell BK114.out 0).trans rfl; have hcz24_1 : w15.cell? ⟨gb114, 1, none⟩ = some (.slice none 0 0) := (blk_cell BK114.out 1).trans rfl; have hfz24_0 := blk_frozen BK114.out 0; have hfz24_1 := blk_frozen BK114.out 1
    go_wp2_with (first | (go_at_call 25; (with_reducible refine (laws_rGraph.calls k t103 _ _ t104 t109 _ _ t110 t115 _ ?side1 ?side2 ?side3 ?side4 A21.out).mono ?_); (case side1 => refine (Kd.R_reads' (e := 71) (base := w.heap.size) (ok := fun k_ => (True ∧ some k_ ≠ (.slice Ao18 t110.length co18 : Value).ownBlock)) (n := t104.length) (c := co13) ?_).2.2; exact (Q60 HO106 BK114)); (case side2 => exact (Kd.R_reads' HO106.out).2.1); (case side3 => refine (Kd.R_reads' (e := 71) (base := w.heap.size) (ok := fun k_ => (True ∧ some k_ ≠ (.slice Ao13 t104.length co13 : Value).ownBlock)) (n := t110.length) (c := co18) ?_).2.2; exact (Q60 HO112 BK114)); (case side4 => exact (Kd.R_reads' HO112.out).2.1); rintro e w25 ⟨rfl, hb⟩; replace HO106 := am (Kd.R_below (Q60 HO106 BK114) hb); replace HO112 := am (Kd.R_below (Q60 HO112 BK114) hb); replace BK108 := am (blk_below (g := gb108) (o := .cells #[.int .i64 t103, .slice Ao13 t104.length co13] 30 (0, 0)) (Q2 NB108_114 BK108) hb); replace BK114 := am (blk_below (g := gb114) (o := .cells #[.int .i64 t109, .slice Ao18 t110.length co18] 30 (0, 0)) (by (with_reducible repeat (first | refine blk_drewN ?_ _ | refine blk_drew ?_ | refine blk_alloc ?_ _)); refine blk_put (cs := #[.int .i64 t109, .slice none 0 0]) ?_ 1 _ rfl; (with_reducible repeat (first | refine blk_drewN ?_ _ | refine blk_drew ?_ | refine blk_alloc ?_ _)); refine blk_put (cs := #[.int .i64 0, .slice none 0 0]) ?_ 0 _ rfl; (with_reducible repeat (first | refine blk_drewN ?_ _ | refine blk_drew ?_ | refine blk_alloc ?_ _)); exact BK114.out) hb); replace HB := am (below_step (Q5 HB GE114) hb); (try clear hb); (try clear hb2); (try clear hk); (try clear hi)))
    go_meet
    case rel => exact ⟨_, (!t115), Q11, H', ⟨Q94⟩, ⟨Q109 HO106⟩, ⟨Q109 HO112⟩, ⟨Q0 BK108⟩, ⟨Q0 BK114⟩, ⟨Q1 HB⟩⟩
  case rest => as_aux_lemma =>
   clear HC19
   try clear c1
   try clear c2
   try clear p2
   try clear c4
   try clear c16
   try clear c20
   try clear c20b0
   try clear c20b1
   try clear c20b2
   try clear c21
   try clear c22
   try clear c23
   try clear c24
   try clear hcz12_0
   try clear hcz12_1
   try clear hcz17_0
   try clear hcz17_1
   try clear hcz23_0
   try clear hcz23_1
   try clear hcz24_0
   try clear hcz24_1
   try clear hfz12_0
   try clear hfz12_1
   try clear hfz17_0
   try clear hfz17_1
   try clear hfz23_0
   try clear hfz23_1
   try clear hfz24_0
   try clear hfz24_1
   obtain ⟨kq, x61_18, rfl, HA, HJ18, HO_109001, HO_115001, BK108, BK114, HB⟩ := hcut
   cases kq with
   | zero => exact absurd HA.out (by simp [laws_FnFamilies.j0])
   | succ kj18 =>
    have H := HA.out; clear HA
    simp only [laws_FnFamilies.j0] at H
    by_cases c26 : x61_18 = true
    ·subst c26
     have H1 : (none) = some r := by rw [if_pos rfl] at H; exact H
     clear H; have H := H1; clear H1; exact absurd H (by simp)
    ·replace c26 := Bool.eq_false_iff.mpr c26
     subst c26; have H1 : ((impl_CycleGraph.f kj18 t102).bind fun bt116 => ((spec_CycleGraph.f kj18 t102).bind fun bt122 => (if (bt116.2.2 != bt122.2.2) = true then (laws_FnFamilies.j1 kj18 l0 t102 t107 bt116.2.2 true t103 t104 bt116.1 bt116.2.1) else ((laws_rGraph.f kj18 bt116.1 bt116.2.1 bt122.1 bt122.2.1).bind fun t128 => (laws_FnFamilies.j1 kj18 l0 t102 t107 bt116.2.2 (!t128) t103 t104 bt116.1 bt116.2.1))))) = some r := by rw [if_neg (show ¬ (false = true) by decide)] at H; exact H
     clear H; have H := H1; clear H1; replace H := (ob H); obtain ⟨⟨t116, t117, t120⟩, A270, H⟩ := H; (try dsimp only at H); have A27 := Aside0.mk A270; clear A270; replace H := (ob H); obtain ⟨⟨t122, t123, t126⟩, A280, H⟩ := H; (try dsimp only at H); have A28 := Aside0.mk A280; clear A280; have HU29 := Aside0.mk H; clear H
     go_upto_region 10 with (first | ((with_reducible refine gate_callee (f := 26) rfl ?_); refine goesL_ (some 64) rfl rfl Try.func26 (by kernel_rfl) rfl #[.int .i64 t102] rfl Q3 ?_; (with_reducible refine (impl_CycleGraph.calls kj18 t102 t116 t117 t120 _ A27.out).mono ?_); rintro e w30 ⟨v118, rfl, ho0, hb⟩; refine ⟨_, rfl, ?_⟩; have HO119 := am (Kd.R_lower (Kd.R_new' (Kd.R_new' ho0 (Kd.R_lt Q15)) (Kd.R_lt Q16)) (below_size (Q1 HB))); replace HO_109001 := am (Kd.R_elder' Q15 (Kd.R_base ho0) hb); replace HO_115001 := am (Kd.R_elder' Q16 (Kd.R_base ho0) hb); replace BK108 := am (blk_below (g := gb108) (o := .cells #[.int .i64 t103, .slice Ao13 t104.length co13] 30 (0, 0)) (Q0 BK108) hb); replace BK114 := am (blk_below (g := gb114) (o := .cells #[.int .i64 t109, .slice Ao18 t110.length co18] 30 (0, 0)) (Q0 BK114) hb); replace HB := am (below_step (Q1 HB) hb); (try clear hb); (try clear hb2); (try clear hk); (try clear hi); (try clear ho0)) | ((with_reducible refine gate_dst (N := 8) rfl ?_); (try (refine gate_guard (by rfl) ?_; dsimp only)); refine box_event ?hg (N := 8) ?hd (cs := #[.int .i64 0, .slice none 0 0]) (t := 30) ?hr ?_; (case hd => rfl); (case hg => rfl); (case hr => first | (go_simp; done) | (go_simp; rfl)); intro gb121 hg w31 hbox hb; replace HO_109001 := am (Kd.R_below Q15 hb); replace HO_115001 := am (Kd.R_below Q16 hb); replace HO119 := am (Kd.R_below (Q6 HO119) hb); have BK121 := am (hbox); have GW121 := am ((Q25 : w.heap.size ≤ gb121)); have GE121 := am ((Q25 : w.heap.size ≤ gb121)); replace HB := am (below_step (Q1 HB) hb); have NB108_121 := am ((Q46 : gb108 ≠ gb121)); have NB121_108 := am ((Q47 : gb121 ≠ gb108)); replace BK108 := am (blk_below (g := gb108) (o := .cells #[.int .i64 t103, .slice Ao13 t104.length co13] 30 (0, 0)) (Q0 BK108) hb); have NB114_121 := am ((Q50 : gb114 ≠ gb121)); have NB121_114 := am ((Q51 : gb121 ≠ gb114)); replace BK114 := am (blk_below (g := gb114) (o := .cells #[.int .i64 t109, .slice Ao18 t110.length co18] 30 (0, 0)) (Q0 BK114) hb); clear hb hbox hg; have hnb32 := NB121_108.out; have hnc32 := NB108_121.out; have hnb33 := NB121_114.out; have hnc33 := NB114_121.out; have hcz34_0 : w31.cell? ⟨gb121, 0, none⟩ = some (.int .i64 0) := (blk_cell BK121.out 0).trans rfl; have hcz34_1 : w31.cell? ⟨gb121, 1, none⟩ = some (.slice none 0 0) := (blk_cell BK121.out 1).trans rfl; have hfz34_0 := blk_frozen BK121.out 0; have hfz34_1 := blk_frozen BK121.out 1; obtain ⟨Ao35, co35, eo35⟩ := Kd.R_slice HO119.out; subst eo35) | ((with_reducible refine gate_callee (f := 27) rfl ?_); refine goesL_ (some 69) rfl rfl Try.func27 (by kernel_rfl) rfl #[.int .i64 t102] rfl Q3 ?_; (with_reducible refine (spec_CycleGraph.calls kj18 t102 t122 t123 t126 _ A28.out).mono ?_); rintro e w36 ⟨v124, rfl, ho0, hb⟩; refine ⟨_, rfl, ?_⟩; have HO125 := am (Kd.R_lower (Kd.R_new' (Kd.R_new' (Kd.R_new' ho0 (Kd.R_lt (Q139 BK121))) (Kd.R_lt (Q140 BK121))) (Kd.R_lt (Q150 HO119 BK121))) (below_size (Q5 HB GE121))); replace HO_109001 := am (Kd.R_elder' (Q139 BK121) (Kd.R_base ho0) hb); replace HO_115001 := am (Kd.R_elder' (Q140 BK121) (Kd.R_base ho0) hb); replace HO119 := am (Kd.R_elder' (Q150 HO119 BK121) (Kd.R_base ho0) hb); replace BK108 := am (blk_below (g := gb108) (o := .cells #[.int .i64 t103, .slice Ao13 t104.length co13] 30 (0, 0)) (Q2 NB108_121 BK108) hb); replace BK114 := am (blk_below (g := gb114) (o := .cells #[.int .i64 t109, .slice Ao18 t110.length co18] 30 (0, 0)) (Q2 NB114_121 BK114) hb); replace BK121 := am (blk_below (g := gb121) (o := .cells #[.int .i64 t116, .slice Ao35 t117.length co35] 30 (0, 0)) (by (with_reducible repeat (first | refine blk_drewN ?_ _ | refine blk_drew ?_ | refine blk_alloc ?_ _)); refine blk_put (cs := #[.int .i64 t116, .slice none 0 0]) ?_ 1 _ rfl; (with_reducible repeat (first | refine blk_drewN ?_ _ | refine blk_drew ?_ | refine blk_alloc ?_ _)); refine blk_put (cs := #[.int .i64 0, .slice none 0 0]) ?_ 0 _ rfl; (with_reducible repeat (first | refine blk_drewN ?_ _ | refine blk_drew ?_ | refine blk_alloc ?_ _)); exact BK121.out) hb); replace HB := am (below_step (Q5 HB GE121) hb); (try clear hb); (try clear hb2); (try clear hk); (try clear hi); (try clear ho0)) | ((with_reducible refine gate_dst (N := 10) rfl ?_); (try (refine gate_guard (by rfl) ?_; dsimp only)); refine box_event ?hg (N := 10) ?hd (cs := #[.int .i64 0, .slice none 0 0]) (t := 30) ?hr ?_; (case hd => rfl); (case hg => rfl); (case hr => first | (go_simp; done) | (go_simp; rfl)); intro gb127 hg w37 hbox hb; replace HO_109001 := am (Kd.R_below Q15 hb); replace HO_115001 := am (Kd.R_below Q16 hb); replace HO119 := am (Kd.R_below (Q6 HO119) hb); replace HO125 := am (Kd.R_below (Q6 HO125) hb); have BK127 := am (hbox); have GW127 := am ((Q25 : w.heap.size ≤ gb127)); have GE127 := am ((Q25 : w.heap.size ≤ gb127)); replace HB := am (below_step (Q1 HB) hb); have NB108_127 := am ((Q46 : gb108 ≠ gb127)); have NB127_108 := am ((Q47 : gb127 ≠ gb108)); replace BK108 := am (blk_below (g := gb108) (o := .cells #[.int .i64 t103, .slice Ao13 t104.length co13] 30 (0, 0)) (Q0 BK108) hb); have NB114_127 := am ((Q50 : gb114 ≠ gb127)); have NB127_114 := am ((Q51 : gb127 ≠ gb114)); replace BK114 := am (blk_below (g := gb114) (o := .cells #[.int .i64 t109, .slice Ao18 t110.length co18] 30 (0, 0)) (Q0 BK114) hb); have NB121_127 := am ((Q53 : gb121 ≠ gb127)); have NB127_121 := am ((Q54 : gb127 ≠ gb121)); replace BK121 := am (blk_below (g := gb121) (o := .cells #[.int .i64 t116, .slice Ao35 t117.length co35] 30 (0, 0)) (Q0 BK121) hb); clear hb hbox hg; have hnb38 := NB127_108.out; have hnc38 := NB108_127.out; have hnb39 := NB127_114.out; have hnc39 := NB114_127.out; have hnb40 := NB127_121.out; have hnc40 := NB121_127.out; have hcz41_0 : w37.cell? ⟨gb127, 0, none⟩ = some (.int .i64 0) := (blk_cell BK127.out 0).trans rfl; have hcz41_1 : w37.cell? ⟨gb127, 1, none⟩ = some (.slice none 0 0) := (blk_cell BK127.out 1).trans rfl; have hfz41_0 := blk_frozen BK127.out 0; have hfz41_1 := blk_frozen BK127.out 1; obtain ⟨Ao42, co42, eo42⟩ := Kd.R_slice HO125.out; subst eo42))
     (try simp only [Act.put, List.setIfInBounds_toArray, List.set_cons_zero, List.set_cons_succ]); have H := HU29.out; clear HU29; have HC43 := Aside0.mk H; clear H
     go_upto_region 10 with (fail)
     go_cut [80] (fun v80 wc => ∃ (kq : Nat) (x80_42 : Bool), v80 = .bool x80_42 ∧ Aside0 (laws_FnFamilies.j1 kq l0 t102 t107 t120 x80_42 t103 t104 t116 t117 = some r) ∧ Aside0 (kq ≤ kj18) ∧ Aside0 (Kd.R k71 71 wc w.heap.size (fun k_ => some k_ ≠ ((.slice Ao18 t110.length co18) : Value).ownBlock ∧ some k_ ≠ ((.slice Ao35 t117.length co35) : Value).ownBlock ∧ some k_ ≠ ((.slice Ao42 t123.length co42) : Value).ownBlock) (.slice Ao13 t104.length co13) t104) ∧ Aside0 (Kd.R k71 71 wc w.heap.size (fun k_ => some k_ ≠ ((.slice Ao13 t104.length co13) : Value).ownBlock ∧ some k_ ≠ ((.slice Ao35 t117.length co35) : Value).ownBlock ∧ some k_ ≠ ((.slice Ao42 t123.length co42) : Value).ownBlock) (.slice Ao18 t110.length co18) t110) ∧ Aside0 (Kd.R k71 71 wc w.heap.size (fun k_ => some k_ ≠ ((.slice Ao13 t104.length co13) : Value).ownBlock ∧ some k_ ≠ ((.slice Ao18 t110.length co18) : Value).ownBlock ∧ some k_ ≠ ((.slice Ao42 t123.length co42) : Value).ownBlock) (.slice Ao35 t117.length co35) t117) ∧ Aside0 (Kd.R k71 71 wc w.heap.size (fun k_ => some k_ ≠ ((.slice Ao13 t104.length co13) : Value).ownBlock ∧ some k_ ≠ ((.slice Ao18 t110.length co18) : Value).ownBlock ∧ some k_ ≠ ((.slice Ao35 t117.length co35) : Value).ownBlock) (.slice Ao42 t123.length co42) t123) ∧ Aside0 (wc.heap[gb108]? = some (.cells #[.int .i64 t103, (.slice Ao13 t104.length co13)] 30 (0, 0))) ∧ Aside0 (wc.heap[gb114]? = some (.cells #[.int .i64 t109, (.slice Ao18 t110.length co18)] 30 (0, 0))) ∧ Aside0 (wc.heap[gb121]? = some (.cells #[.int .i64 t116, (.slice Ao35 t117.length co35)] 30 (0, 0))) ∧ Aside0 (wc.heap[gb127]? = some (.cells #[.int .i64 t122, (.slice Ao42 t123.length co42)] 30 (0, 0))) ∧ Aside0 (Below w.heap.size w wc))
     case first => as_aux_lemma =>
      have H := HC43.out; clear HC43
      by_cases c44 : (t120 != t126) = true
      ·rw [if_pos c44] at H
       have c44b0 : (t120 != t126) = true := c44; (try (have c44b1 : decide (t120 = t126) = false := by simpa using c44)); (try (have c44b2 : (t120 == t126) = false := by simpa using c44)); (try (have c44b3 : ¬ (t120 = t126) := by simpa using c44)); (try (have c44b4 : (!(t120 == t126)) = true := by simpa using c44)); clear c44
       (first | rw [c44b0] | (simp only [i64_w, i32_w]; rw [c44b0]) | rw [c44b4] | skip)
       first | exact (laws_FnFamilies.j0_true H).elim | exact (laws_FnFamilies.j1_true H).elim | exact (laws_FnFamilies.j2_true H).elim | exact (laws_FnFamilies.j6_true H).elim
      ·rw [if_neg c44] at H
       have c44b0 : (t120 != t126) = false := by simpa using c44
       (try (have c44b1 : decide (t120 = t126) = true := by simpa using c44)); (try (have c44b2 : (t120 == t126) = true := by simpa using c44)); (try (have c44b3 : (!(t120 == t126)) = false := by simpa using c44)); clear c44
       (first | rw [c44b0] | (simp only [i64_w, i32_w]; rw [c44b0]) | rw [c44b3] | skip)
       replace H := (ob H); obtain ⟨t128, A450, H⟩ := H; (try dsimp only at H); have A45 := Aside0.mk A450; clear A450; have H' := Aside0.mk H; clear H; have hnb46 := NB121_108.out; have hnc46 := NB108_121.out; have hnb47 := NB121_114.out; have hnc47 := NB114_121.out; have hnb48 := NB121_127.out; have hnc48 := NB127_121.out; have hcz49_0 : w37.cell? ⟨gb121, 0, none⟩ = some (.int .i64 t116) := (blk_cell BK121.out 0).trans rfl; have hcz49_1 : w37.cell? ⟨gb121, 1, none⟩ = some (.slice Ao35 t117.length co35) := (blk_cell BK121.out 1).trans rfl; have hfz49_0 := blk_frozen BK121.out 0; have hfz49_1 := blk_frozen BK121.out 1; have hnb50 := NB127_108.out; have hnc50 := NB108_127.out; have hnb51 := NB127_114.out; have hnc51 := NB114_127.out; have hcz52_0 : w37.cell? ⟨gb127, 0, none⟩ = some (.int .i64 0) := (blk_cell BK127.out 0).trans rfl; have hcz52_1 : w37.cell? ⟨gb127, 1, none⟩ = some (.slice none 0 0) := (blk_cell BK127.out 1).trans rfl; have hfz52_0 := blk_frozen BK127.out 0; have hfz52_1 := blk_frozen BK127.out 1
       go_wp2_with (first | (go_at_call 25; (with_reducible refine (laws_rGraph.calls kj18 t116 _ _ t117 t122 _ _ t123 t128 _ ?side1 ?side2 ?side3 ?side4 A45.out).mono ?_); (case side1 => refine (Kd.R_reads' (e := 71) (base := w.heap.size) (ok := fun k_ => (((True ∧ some k_ ≠ (.slice Ao13 t104.length co13 : Value).ownBlock) ∧ some k_ ≠ (.slice Ao18 t110.length co18 : Value).ownBlock) ∧ some k_ ≠ (.slice Ao42 t123.length co42 : Value).ownBlock)) (n := t117.length) (c := co35) ?_).2.2; exact (Q61 HO119 BK127)); (case side2 => exact (Kd.R_reads' HO119.out).2.1); (case side3 => refine (Kd.R_reads' (e := 71) (base := w.heap.size) (ok := fun k_ => (((True ∧ some k_ ≠ (.slice Ao13 t104.length co13 : Value).ownBlock) ∧ some k_ ≠ (.slice Ao18 t110.length co18 : Value).ownBlock) ∧ some k_ ≠ (.slice Ao35 t117.length co35 : Value).ownBlock)) (n := t123.length) (c := co42) ?_).2.2; exact (Q61 HO125 BK127)); (case side4 => exact (Kd.R_reads' HO125.out).2.1); rintro e w53 ⟨rfl, hb⟩; replace HO_109001 := am (Kd.R_below (by (with_reducible repeat (first | apply Kd.R_alloc | apply Kd.R_drewN | apply Kd.R_drew)); exact (Kd.R_mono (Kd.R_far (p := ⟨gb127, 1, none⟩) (Kd.R_far (p := ⟨gb127, 0, none⟩) (Kd.R_types HO_109001.out BK127.out (by decide)) (fun _ hk => hk.2) (.int .i64 t122)) (fun _ hk => hk.2) (.slice Ao42 t123.length co42)) (fun _ h_ => h_.1))) hb); replace HO_115001 := am (Kd.R_below (by (with_reducible repeat (first | apply Kd.R_alloc | apply Kd.R_drewN | apply Kd.R_drew)); exact (Kd.R_mono (Kd.R_far (p := ⟨gb127, 1, none⟩) (Kd.R_far (p := ⟨gb127, 0, none⟩) (Kd.R_types HO_115001.out BK127.out (by decide)) (fun _ hk => hk.2) (.int .i64 t122)) (fun _ hk => hk.2) (.slice Ao42 t123.length co42)) (fun _ h_ => h_.1))) hb); replace HO119 := am (Kd.R_below (Q61 HO119 BK127) hb); replace HO125 := am (Kd.R_below (Q61 HO125 BK127) hb); replace BK108 := am (blk_below (g := gb108) (o := .cells #[.int .i64 t103, .slice Ao13 t104.length co13] 30 (0, 0)) (Q2 NB108_127 BK108) hb); replace BK114 := am (blk_below (g := gb114) (o := .cells #[.int .i64 t109, .slice Ao18 t110.length co18] 30 (0, 0)) (Q2 NB114_127 BK114) hb); replace BK121 := am (blk_below (g := gb121) (o := .cells #[.int .i64 t116, .slice Ao35 t117.length co35] 30 (0, 0)) (Q2 NB121_127 BK121) hb); replace BK127 := am (blk_below (g := gb127) (o := .cells #[.int .i64 t122, .slice Ao42 t123.length co42] 30 (0, 0)) (by (with_reducible repeat (first | refine blk_drewN ?_ _ | refine blk_drew ?_ | refine blk_alloc ?_ _)); refine blk_put (cs := #[.int .i64 t122, .slice none 0 0]) ?_ 1 _ rfl; (with_reducible repeat (first | refine blk_drewN ?_ _ | refine blk_drew ?_ | refine blk_alloc ?_ _)); refine blk_put (cs := #[.int .i64 0, .slice none 0 0]) ?_ 0 _ rfl; (with_reducible repeat (first | refine blk_drewN ?_ _ | refine blk_drew ?_ | refine blk_alloc ?_ _)); exact BK127.out) hb); replace HB := am (below_step (Q5 HB GE127) hb); (try clear hb); (try clear hb2); (try clear hk); (try clear hi)))
       go_meet
       case rel => exact ⟨_, (!t128), Q11, H', ⟨by have := HJ18.out; first | omega | exact Nat.le_refl _⟩, ⟨by (with_reducible repeat (first | apply Kd.R_alloc | apply Kd.R_drewN | apply Kd.R_drew)); exact Kd.R_mono HO_109001.out (fun _ hk => ⟨hk.1.1, ⟨hk.1.2, hk.2⟩⟩)⟩, ⟨by (with_reducible repeat (first | apply Kd.R_alloc | apply Kd.R_drewN | apply Kd.R_drew)); exact Kd.R_mono HO_115001.out (fun _ hk => ⟨hk.1.1, ⟨hk.1.2, hk.2⟩⟩)⟩, ⟨by (with_reducible repeat (first | apply Kd.R_alloc | apply Kd.R_drewN | apply Kd.R_drew)); exact Kd.R_mono HO119.out (fun _ hk => ⟨hk.1.1.2, ⟨hk.1.2, hk.2⟩⟩)⟩, ⟨by (with_reducible repeat (first | apply Kd.R_alloc | apply Kd.R_drewN | apply Kd.R_drew)); exact Kd.R_mono HO125.out (fun _ hk => ⟨hk.1.1.2, ⟨hk.1.2, hk.2⟩⟩)⟩, ⟨Q0 BK108⟩, ⟨Q0 BK114⟩, ⟨Q0 BK121⟩, ⟨Q0 BK127⟩, ⟨Q1 HB⟩⟩
     case rest => as_aux_lemma =>
      clear HC43
      try clear c1
      try clear c2
      try clear p2
      try clear c3
      try clear c4
      try clear c5
      try clear c16
      try clear c20
      try clear c20b0
      try clear c20b1
      try clear c20b2
      try clear c21
      try clear c22
      try clear c23
      try clear c24
      try clear c26
      try clear c27
      try clear c32
      try clear c33
      try clear c38
      try clear c39
      try clear c40
      try clear c44
      try clear c44b0
      try clear c44b1
      try clear c44b2
      try clear c46
      try clear c47
      try clear c48
      try clear c50
      try clear c51
      try clear hcz12_0
      try clear hcz12_1
      try clear hcz17_0
      try clear hcz17_1
      try clear hcz23_0
      try clear hcz23_1
      try clear hcz24_0
      try clear hcz24_1
      try clear hcz34_0
      try clear hcz34_1
      try clear hcz41_0
      try clear hcz41_1
      try clear hcz49_0
      try clear hcz49_1
      try clear hcz52_0
      try clear hcz52_1
      try clear hfz12_0
      try clear hfz12_1
      try clear hfz17_0
      try clear hfz17_1
      try clear hfz23_0
      try clear hfz23_1
      try clear hfz24_0
      try clear hfz24_1
      try clear hfz34_0
      try clear hfz34_1
      try clear hfz41_0
      try clear hfz41_1
      try clear hfz49_0
      try clear hfz49_1
      try clear hfz52_0
      try clear hfz52_1
      try clear p2
      obtain ⟨kq, x80_42, rfl, HA, HJ42, HO_109001, HO_115001, HO_122001, HO_128001, BK108, BK114, BK121, BK127, HB⟩ := hcut
      cases kq with
      | zero => exact absurd HA.out (by simp [laws_FnFamilies.j1])
      | succ kj42 =>
       have H := HA.out; clear HA
       simp only [laws_FnFamilies.j1] at H
       by_cases c54 : x80_42 = true
       ·subst c54
        have H1 : (none) = some r := by rw [if_pos rfl] at H; exact H
        clear H; have H := H1; clear H1; exact absurd H (by simp)
       ·replace c54 := Bool.eq_false_iff.mpr c54
        subst c54; have H1 : ((impl_CompleteGraph.f kj42 t102).bind fun bt129 => ((spec_CompleteGraph.f kj42 t102).bind fun bt135 => (if (bt129.2.2 != bt135.2.2) = true then (laws_FnFamilies.j2 kj42 l0 t102 t107 t120 true t103 t104 t116 t117 bt129.1 bt129.2.1) else (if (bt129.2.2 != t107) = true then (laws_FnFamilies.j2 kj42 l0 t102 t107 t120 true t103 t104 t116 t117 bt129.1 bt129.2.1) else ((laws_rGraph.f kj42 bt129.1 bt129.2.1 bt135.1 bt135.2.1).bind fun t141 => (laws_FnFamilies.j2 kj42 l0 t102 t107 t120 (!t141) t103 t104 t116 t117 bt129.1 bt129.2.1)))))) = some r := by rw [if_neg (show ¬ (false = true) by decide)] at H; exact H
        clear H; have H := H1; clear H1; replace H := (ob H); obtain ⟨⟨t129, t130, t133⟩, A550, H⟩ := H; (try dsimp only at H); have A55 := Aside0.mk A550; clear A550; replace H := (ob H); obtain ⟨⟨t135, t136, t139⟩, A560, H⟩ := H; (try dsimp only at H); have A56 := Aside0.mk A560; clear A560; have HU57 := Aside0.mk H; clear H
        go_upto_region 14 with (first | ((with_reducible refine gate_callee (f := 28) rfl ?_); refine goesL_ (some 83) rfl rfl Try.func28 (by kernel_rfl) rfl #[.int .i64 t102] rfl Q3 ?_; (with_reducible refine (impl_CompleteGraph.calls kj42 t102 t129 t130 t133 _ A55.out).mono ?_); rintro e w58 ⟨v131, rfl, ho0, hb⟩; refine ⟨_, rfl, ?_⟩; have HO132 := am (Kd.R_lower (Kd.R_new' (Kd.R_new' (Kd.R_new' (Kd.R_new' ho0 (Kd.R_lt Q15)) (Kd.R_lt Q16)) (Kd.R_lt Q19)) (Kd.R_lt Q20)) (below_size (Q1 HB))); replace HO_109001 := am (Kd.R_elder' Q15 (Kd.R_base ho0) hb); replace HO_115001 := am (Kd.R_elder' Q16 (Kd.R_base ho0) hb); replace HO_122001 := am (Kd.R_elder' Q19 (Kd.R_base ho0) hb); replace HO_128001 := am (Kd.R_elder' Q20 (Kd.R_base ho0) hb); replace BK108 := am (blk_below (g := gb108) (o := .cells #[.int .i64 t103, .slice Ao13 t104.length co13] 30 (0, 0)) (Q0 BK108) hb); replace BK114 := am (blk_below (g := gb114) (o := .cells #[.int .i64 t109, .slice Ao18 t110.length co18] 30 (0, 0)) (Q0 BK114) hb); replace BK121 := am (blk_below (g := gb121) (o := .cells #[.int .i64 t116, .slice Ao35 t117.length co35] 30 (0, 0)) (Q0 BK121) hb); replace BK127 := am (blk_below (g := gb127) (o := .cells #[.int .i64 t122, .slice Ao42 t123.length co42] 30 (0, 0)) (Q0 BK127) hb); replace HB := am (below_step (Q1 HB) hb); (try clear hb); (try clear hb2); (try clear hk); (try clear hi); (try clear ho0)) | ((with_reducible refine gate_dst (N := 12) rfl ?_); (try (refine gate_guard (by rfl) ?_; dsimp only)); refine box_event ?hg (N := 12) ?hd (cs := #[.int .i64 0, .slice none 0 0]) (t := 30) ?hr ?_; (case hd => rfl); (case hg => rfl); (case hr => first | (go_simp; done) | (go_simp; rfl)); intro gb134 hg w59 hbox hb; replace HO_109001 := am (Kd.R_below Q15 hb); replace HO_115001 := am (Kd.R_below Q16 hb); replace HO_122001 := am (Kd.R_below Q19 hb); replace HO_128001 := am (Kd.R_below Q20 hb); replace HO132 := am (Kd.R_below (Q6 HO132) hb); have BK134 := am (hbox); have GW134 := am ((Q25 : w.heap.size ≤ gb134)); have GE134 := am ((Q25 : w.heap.size ≤ gb134)); replace HB := am (below_step (Q1 HB) hb); have NB108_134 := am ((Q46 : gb108 ≠ gb134)); have NB134_108 := am ((Q47 : gb134 ≠ gb108)); replace BK108 := am (blk_below (g := gb108) (o := .cells #[.int .i64 t103, .slice Ao13 t104.length co13] 30 (0, 0)) (Q0 BK108) hb); have NB114_134 := am ((Q50 : gb114 ≠ gb134)); have NB134_114 := am ((Q51 : gb134 ≠ gb114)); replace BK114 := am (blk_below (g := gb114) (o := .cells #[.int .i64 t109, .slice Ao18 t110.length co18] 30 (0, 0)) (Q0 BK114) hb); have NB121_134 := am ((Q53 : gb121 ≠ gb134)); have NB134_121 := am ((Q54 : gb134 ≠ gb121)); replace BK121 := am (blk_below (g := gb121) (o := .cells #[.int .i64 t116, .slice Ao35 t117.length co35] 30 (0, 0)) (Q0 BK121) hb); have NB127_134 := am ((Q58 : gb127 ≠ gb134)); have NB134_127 := am ((Q59 : gb134 ≠ gb127)); replace BK127 := am (blk_below (g := gb127) (o := .cells #[.int .i64 t122, .slice Ao42 t123.length co42] 30 (0, 0)) (Q0 BK127) hb); clear hb hbox hg; have hnb60 := NB134_108.out; have hnc60 := NB108_134.out; have hnb61 := NB134_114.out; have hnc61 := NB114_134.out; have hnb62 := NB134_121.out; have hnc62 := NB121_134.out; have hnb63 := NB134_127.out; have hnc63 := NB127_134.out; have hcz64_0 : w59.cell? ⟨gb134, 0, none⟩ = some (.int .i64 0) := (blk_cell BK134.out 0).trans rfl; have hcz64_1 : w59.cell? ⟨gb134, 1, none⟩ = some (.slice none 0 0) := (blk_cell BK134.out 1).trans rfl; have hfz64_0 := blk_frozen BK134.out 0; have hfz64_1 := blk_frozen BK134.out 1; obtain ⟨Ao65, co65, eo65⟩ := Kd.R_slice HO132.out; subst eo65) | ((with_reducible refine gate_callee (f := 29) rfl ?_); refine goesL_ (some 88) rfl rfl Try.func29 (by kernel_rfl) rfl #[.int .i64 t102] rfl Q3 ?_; (with_reducible refine (spec_CompleteGraph.calls kj42 t102 t135 t136 t139 _ A56.out).mono ?_); rintro e w66 ⟨v137, rfl, ho0, hb⟩; refine ⟨_, rfl, ?_⟩; have HO138 := am (Kd.R_lower (Kd.R_new' (Kd.R_new' (Kd.R_new' (Kd.R_new' (Kd.R_new' ho0 (Kd.R_lt (Q141 BK134))) (Kd.R_lt (Q142 BK134))) (Kd.R_lt (Q143 BK134))) (Kd.R_lt (Q144 BK134))) (Kd.R_lt (Q151 HO132 BK134))) (below_size (Q5 HB GE134))); replace HO_109001 := am (Kd.R_elder' (Q141 BK134) (Kd.R_base ho0) hb); replace HO_115001 := am (Kd.R_elder' (Q142 BK134) (Kd.R_base ho0) hb); replace HO_122001 := am (Kd.R_elder' (Q143 BK134) (Kd.R_base ho0) hb); replace HO_128001 := am (Kd.R_elder' (Q144 BK134) (Kd.R_base ho0) hb); replace HO132 := am (Kd.R_elder' (Q151 HO132 BK134) (Kd.R_base ho0) hb); replace BK108 := am (blk_below (g := gb108) (o := .cells #[.int .i64 t103, .slice Ao13 t104.length co13] 30 (0, 0)) (Q2 NB108_134 BK108) hb); replace BK114 := am (blk_below (g := gb114) (o := .cells #[.int .i64 t109, .slice Ao18 t110.length co18] 30 (0, 0)) (Q2 NB114_134 BK114) hb); replace BK121 := am (blk_below (g := gb121) (o := .cells #[.int .i64 t116, .slice Ao35 t117.length co35] 30 (0, 0)) (Q2 NB121_134 BK121) hb); replace BK127 := am (blk_below (g := gb127) (o := .cells #[.int .i64 t122, .slice Ao42 t123.length co42] 30 (0, 0)) (Q2 NB127_134 BK127) hb); replace BK134 := am (blk_below (g := gb134) (o := .cells #[.int .i64 t129, .slice Ao65 t130.length co65] 30 (0, 0)) (by (with_reducible repeat (first | refine blk_drewN ?_ _ | refine blk_drew ?_ | refine blk_alloc ?_ _)); refine blk_put (cs := #[.int .i64 t129, .slice none 0 0]) ?_ 1 _ rfl; (with_reducible repeat (first | refine blk_drewN ?_ _ | refine blk_drew ?_ | refine blk_alloc ?_ _)); refine blk_put (cs := #[.int .i64 0, .slice none 0 0]) ?_ 0 _ rfl; (with_reducible repeat (first | refine blk_drewN ?_ _ | refine blk_drew ?_ | refine blk_alloc ?_ _)); exact BK134.out) hb); replace HB := am (below_step (Q5 HB GE134) hb); (try clear hb); (try clear hb2); (try clear hk); (try clear hi); (try clear ho0)) | ((with_reducible refine gate_dst (N := 14) rfl ?_); (try (refine gate_guard (by rfl) ?_; dsimp only)); refine box_event ?hg (N := 14) ?hd (cs := #[.int .i64 0, .slice none 0 0]) (t := 30) ?hr ?_; (case hd => rfl); (case hg => rfl); (case hr => first | (go_simp; done) | (go_simp; rfl)); intro gb140 hg w67 hbox hb; replace HO_109001 := am (Kd.R_below Q15 hb); replace HO_115001 := am (Kd.R_below Q16 hb); replace HO_122001 := am (Kd.R_below Q19 hb); replace HO_128001 := am (Kd.R_below Q20 hb); replace HO132 := am (Kd.R_below (Q6 HO132) hb); replace HO138 := am (Kd.R_below (Q6 HO138) hb); have BK140 := am (hbox); have GW140 := am ((Q25 : w.heap.size ≤ gb140)); have GE140 := am ((Q25 : w.heap.size ≤ gb140)); replace HB := am (below_step (Q1 HB) hb); have NB108_140 := am ((Q46 : gb108 ≠ gb140)); have NB140_108 := am ((Q47 : gb140 ≠ gb108)); replace BK108 := am (blk_below (g := gb108) (o := .cells #[.int .i64 t103, .slice Ao13 t104.length co13] 30 (0, 0)) (Q0 BK108) hb); have NB114_140 := am ((Q50 : gb114 ≠ gb140)); have NB140_114 := am ((Q51 : gb140 ≠ gb114)); replace BK114 := am (blk_below (g := gb114) (o := .cells #[.int .i64 t109, .slice Ao18 t110.length co18] 30 (0, 0)) (Q0 BK114) hb); have NB121_140 := am ((Q53 : gb121 ≠ gb140)); have NB140_121 := am ((Q54 : gb140 ≠ gb121)); replace BK121 := am (blk_below (g := gb121) (o := .cells #[.int .i64 t116, .slice Ao35 t117.length co35] 30 (0, 0)) (Q0 BK121) hb); have NB127_140 := am ((Q58 : gb127 ≠ gb140)); have NB140_127 := am ((Q59 : gb140 ≠ gb127)); replace BK127 := am (blk_below (g := gb127) (o := .cells #[.int .i64 t122, .slice Ao42 t123.length co42] 30 (0, 0)) (Q0 BK127) hb); have NB134_140 := am ((Q65 : gb134 ≠ gb140)); have NB140_134 := am ((Q66 : gb140 ≠ gb134)); replace BK134 := am (blk_below (g := gb134) (o := .cells #[.int .i64 t129, .slice Ao65 t130.length co65] 30 (0, 0)) (Q0 BK134) hb); clear hb hbox hg; have hnb68 := NB140_108.out; have hnc68 := NB108_140.out; have hnb69 := NB140_114.out; have hnc69 := NB114_140.out; have hnb70 := NB140_121.out; have hnc70 := NB121_140.out; have hnb71 := NB140_127.out; have hnc71 := NB127_140.out; have hnb72 := NB140_134.out; have hnc72 := NB134_140.out; have hcz73_0 : w67.cell? ⟨gb140, 0, none⟩ = some (.int .i64 0) := (blk_cell BK140.out 0).trans rfl; have hcz73_1 : w67.cell? ⟨gb140, 1, none⟩ = some (.slice none 0 0) := (blk_cell BK140.out 1).trans rfl; have hfz73_0 := blk_frozen BK140.out 0; have hfz73_1 := blk_frozen BK140.out 1; obtain ⟨Ao74, co74, eo74⟩ := Kd.R_slice HO138.out; subst eo74))
        (try simp only [Act.put, List.setIfInBounds_toArray, List.set_cons_zero, List.set_cons_succ]); have H := HU57.out; clear HU57; have HC75 := Aside0.mk H; clear H
        go_upto_region 14 with (fail)
        go_cut [104] (fun v104 wc => ∃ (kq : Nat) (x104_74 : Bool), v104 = .bool x104_74 ∧ Aside0 (laws_FnFamilies.j2 kq l0 t102 t107 t120 x104_74 t103 t104 t116 t117 t129 t130 = some r) ∧ Aside0 (kq ≤ kj42) ∧ Aside0 (Kd.R k71 71 wc w.heap.size (fun k_ => some k_ ≠ ((.slice Ao18 t110.length co18) : Value).ownBlock ∧ some k_ ≠ ((.slice Ao35 t117.length co35) : Value).ownBlock ∧ some k_ ≠ ((.slice Ao42 t123.length co42) : Value).ownBlock ∧ some k_ ≠ ((.slice Ao65 t130.length co65) : Value).ownBlock ∧ some k_ ≠ ((.slice Ao74 t136.length co74) : Value).ownBlock) (.slice Ao13 t104.length co13) t104) ∧ Aside0 (Kd.R k71 71 wc w.heap.size (fun k_ => some k_ ≠ ((.slice Ao13 t104.length co13) : Value).ownBlock ∧ some k_ ≠ ((.slice Ao35 t117.length co35) : Value).ownBlock ∧ some k_ ≠ ((.slice Ao42 t123.length co42) : Value).ownBlock ∧ some k_ ≠ ((.slice Ao65 t130.length co65) : Value).ownBlock ∧ some k_ ≠ ((.slice Ao74 t136.length co74) : Value).ownBlock) (.slice Ao18 t110.length co18) t110) ∧ Aside0 (Kd.R k71 71 wc w.heap.size (fun k_ => some k_ ≠ ((.slice Ao13 t104.length co13) : Value).ownBlock ∧ some k_ ≠ ((.slice Ao18 t110.length co18) : Value).ownBlock ∧ some k_ ≠ ((.slice Ao42 t123.length co42) : Value).ownBlock ∧ some k_ ≠ ((.slice Ao65 t130.length co65) : Value).ownBlock ∧ some k_ ≠ ((.slice Ao74 t136.length co74) : Value).ownBlock) (.slice Ao35 t117.length co35) t117) ∧ Aside0 (Kd.R k71 71 wc w.heap.size (fun k_ => some k_ ≠ ((.slice Ao13 t104.length co13) : Value).ownBlock ∧ some k_ ≠ ((.slice Ao18 t110.length co18) : Value).ownBlock ∧ some k_ ≠ ((.slice Ao35 t117.length co35) : Value).ownBlock ∧ some k_ ≠ ((.slice Ao65 t130.length co65) : Value).ownBlock ∧ some k_ ≠ ((.slice Ao74 t136.length co74) : Value).ownBlock) (.slice Ao42 t123.length co42) t123) ∧ Aside0 (Kd.R k71 71 wc w.heap.size (fun k_ => some k_ ≠ ((.slice Ao13 t104.length co13) : Value).ownBlock ∧ some k_ ≠ ((.slice Ao18 t110.length co18) : Value).ownBlock ∧ some k_ ≠ ((.slice Ao35 t117.length co35) : Value).ownBlock ∧ some k_ ≠ ((.slice Ao42 t123.length co42) : Value).ownBlock ∧ some k_ ≠ ((.slice Ao74 t136.length co74) : Value).ownBlock) (.slice Ao65 t130.length co65) t130) ∧ Aside0 (Kd.R k71 71 wc w.heap.size (fun k_ => some k_ ≠ ((.slice Ao13 t104.length co13) : Value).ownBlock ∧ some k_ ≠ ((.slice Ao18 t110.length co18) : Value).ownBlock ∧ some k_ ≠ ((.slice Ao35 t117.length co35) : Value).ownBlock ∧ some k_ ≠ ((.slice Ao42 t123.length co42) : Value).ownBlock ∧ some k_ ≠ ((.slice Ao65 t130.length co65) : Value).ownBlock) (.slice Ao74 t136.length co74) t136) ∧ Aside0 (wc.heap[gb108]? = some (.cells #[.int .i64 t103, (.slice Ao13 t104.length co13)] 30 (0, 0))) ∧ Aside0 (wc.heap[gb114]? = some (.cells #[.int .i64 t109, (.slice Ao18 t110.length co18)] 30 (0, 0))) ∧ Aside0 (wc.heap[gb121]? = some (.cells #[.int .i64 t116, (.slice Ao35 t117.length co35)] 30 (0, 0))) ∧ Aside0 (wc.heap[gb127]? = some (.cells #[.int .i64 t122, (.slice Ao42 t123.length co42)] 30 (0, 0))) ∧ Aside0 (wc.heap[gb134]? = some (.cells #[.int .i64 t129, (.slice Ao65 t130.length co65)] 30 (0, 0))) ∧ Aside0 (wc.heap[gb140]? = some (.cells #[.int .i64 t135, (.slice Ao74 t136.length co74)] 30 (0, 0))) ∧ Aside0 (Below w.heap.size w wc))
        case first => as_aux_lemma =>
         have H := HC75.out; clear HC75
         by_cases c76 : (t133 != t139) = true
         ·rw [if_pos c76] at H
          have c76b0 : (t133 != t139) = true := c76; (try (have c76b1 : decide (t133 = t139) = false := by simpa using c76)); (try (have c76b2 : (t133 == t139) = false := by simpa using c76)); (try (have c76b3 : ¬ (t133 = t139) := by simpa using c76)); (try (have c76b4 : (!(t133 == t139)) = true := by simpa using c76)); clear c76
          (first | rw [c76b0] | (simp only [i64_w, i32_w]; rw [c76b0]) | rw [c76b4] | skip)
          first | exact (laws_FnFamilies.j0_true H).elim | exact (laws_FnFamilies.j1_true H).elim | exact (laws_FnFamilies.j2_true H).elim | exact (laws_FnFamilies.j6_true H).elim
         ·rw [if_neg c76] at H
          have c76b0 : (t133 != t139) = false := by simpa using c76
          (try (have c76b1 : decide (t133 = t139) = true := by simpa using c76)); (try (have c76b2 : (t133 == t139) = true := by simpa using c76)); (try (have c76b3 : (!(t133 == t139)) = false := by simpa using c76)); clear c76
          (first | rw [c76b0] | (simp only [i64_w, i32_w]; rw [c76b0]) | rw [c76b3] | skip)
          by_cases c77 : (t133 != t107) = true
          ·rw [if_pos c77] at H
           have c77b0 : (t133 != t107) = true := c77; (try (have c77b1 : decide (t133 = t107) = false := by simpa using c77)); (try (have c77b2 : (t133 == t107) = false := by simpa using c77)); (try (have c77b3 : ¬ (t133 = t107) := by simpa using c77)); (try (have c77b4 : (!(t133 == t107)) = true := by simpa using c77)); clear c77
           first | exact (laws_FnFamilies.j0_true H).elim | exact (laws_FnFamilies.j1_true H).elim | exact (laws_FnFamilies.j2_true H).elim | exact (laws_FnFamilies.j6_true H).elim
          ·rw [if_neg c77] at H
           have c77b0 : (t133 != t107) = false := by simpa using c77
           (try (have c77b1 : decide (t133 = t107) = true := by simpa using c77)); (try (have c77b2 : (t133 == t107) = true := by simpa using c77)); (try (have c77b3 : (!(t133 == t107)) = false := by simpa using c77)); clear c77; replace H := (ob H); obtain ⟨t141, A780, H⟩ := H; (try dsimp only at H); have A78 := Aside0.mk A780; clear A780; have H' := Aside0.mk H; clear H; have hnb79 := NB134_108.out; have hnc79 := NB108_134.out; have hnb80 := NB134_114.out; have hnc80 := NB114_134.out; have hnb81 := NB134_121.out; have hnc81 := NB121_134.out; have hnb82 := NB134_127.out; have hnc82 := NB127_134.out; have hnb83 := NB134_140.out; have hnc83 := NB140_134.out; have hcz84_0 : w67.cell? ⟨gb134, 0, none⟩ = some (.int .i64 t129) := (blk_cell BK134.out 0).trans rfl; have hcz84_1 : w67.cell? ⟨gb134, 1, none⟩ = some (.slice Ao65 t130.length co65) := (blk_cell BK134.out 1).trans rfl; have hfz84_0 := blk_frozen BK134.out 0; have hfz84_1 := blk_frozen BK134.out 1; have hnb85 := NB140_108.out; have hnc85 := NB108_140.out; have hnb86 := NB140_114.out; have hnc86 := NB114_140.out; have hnb87 := NB140_121.out; have hnc87 := NB121_140.out; have hnb88 := NB140_127.out; have hnc88 := NB127_140.out; have hcz89_0 : w67.cell? ⟨gb140, 0, none⟩ = some (.int .i64 0) := (blk_cell BK140.out 0).trans rfl; have hcz89_1 : w67.cell? ⟨gb140, 1, none⟩ = some (.slice none 0 0) := (blk_cell BK140.out 1).trans rfl; have hfz89_0 := blk_frozen BK140.out 0; have hfz89_1 := blk_frozen BK140.out 1
           go_wp2_with (first | (go_at_call 25; (with_reducible refine (laws_rGraph.calls kj42 t129 _ _ t130 t135 _ _ t136 t141 _ ?side1 ?side2 ?side3 ?side4 A78.out).mono ?_); (case side1 => refine (Kd.R_reads' (e := 71) (base := w.heap.size) (ok := fun k_ => (((((True ∧ some k_ ≠ (.slice Ao13 t104.length co13 : Value).ownBlock) ∧ some k_ ≠ (.slice Ao18 t110.length co18 : Value).ownBlock) ∧ some k_ ≠ (.slice Ao35 t117.length co35 : Value).ownBlock) ∧ some k_ ≠ (.slice Ao42 t123.length co42 : Value).ownBlock) ∧ some k_ ≠ (.slice Ao74 t136.length co74 : Value).ownBlock)) (n := t130.length) (c := co65) ?_).2.2; exact (Q62 HO132 BK140)); (case side2 => exact (Kd.R_reads' HO132.out).2.1); (case side3 => refine (Kd.R_reads' (e := 71) (base := w.heap.size) (ok := fun k_ => (((((True ∧ some k_ ≠ (.slice Ao13 t104.length co13 : Value).ownBlock) ∧ some k_ ≠ (.slice Ao18 t110.length co18 : Value).ownBlock) ∧ some k_ ≠ (.slice Ao35 t117.length co35 : Value).ownBlock) ∧ some k_ ≠ (.slice Ao42 t123.length co42 : Value).ownBlock) ∧ some k_ ≠ (.slice Ao65 t130.length co65 : Value).ownBlock)) (n := t136.length) (c := co74) ?_).2.2; exact (Q62 HO138 BK140)); (case side4 => exact (Kd.R_reads' HO138.out).2.1); rintro e w90 ⟨rfl, hb⟩; replace HO_109001 := am (Kd.R_below (by (with_reducible repeat (first | apply Kd.R_alloc | apply Kd.R_drewN | apply Kd.R_drew)); exact (Kd.R_mono (Kd.R_far (p := ⟨gb140, 1, none⟩) (Kd.R_far (p := ⟨gb140, 0, none⟩) (Kd.R_types HO_109001.out BK140.out (by decide)) (fun _ hk => hk.2) (.int .i64 t135)) (fun _ hk => hk.2) (.slice Ao74 t136.length co74)) (fun _ h_ => h_.1))) hb); replace HO_115001 := am (Kd.R_below (by (with_reducible repeat (first | apply Kd.R_alloc | apply Kd.R_drewN | apply Kd.R_drew)); exact (Kd.R_mono (Kd.R_far (p := ⟨gb140, 1, none⟩) (Kd.R_far (p := ⟨gb140, 0, none⟩) (Kd.R_types HO_115001.out BK140.out (by decide)) (fun _ hk => hk.2) (.int .i64 t135)) (fun _ hk => hk.2) (.slice Ao74 t136.length co74)) (fun _ h_ => h_.1))) hb); replace HO_122001 := am (Kd.R_below (by (with_reducible repeat (first | apply Kd.R_alloc | apply Kd.R_drewN | apply Kd.R_drew)); exact (Kd.R_mono (Kd.R_far (p := ⟨gb140, 1, none⟩) (Kd.R_far (p := ⟨gb140, 0, none⟩) (Kd.R_types HO_122001.out BK140.out (by decide)) (fun _ hk => hk.2) (.int .i64 t135)) (fun _ hk => hk.2) (.slice Ao74 t136.length co74)) (fun _ h_ => h_.1))) hb); replace HO_128001 := am (Kd.R_below (by (with_reducible repeat (first | apply Kd.R_alloc | apply Kd.R_drewN | apply Kd.R_drew)); exact (Kd.R_mono (Kd.R_far (p := ⟨gb140, 1, none⟩) (Kd.R_far (p := ⟨gb140, 0, none⟩) (Kd.R_types HO_128001.out BK140.out (by decide)) (fun _ hk => hk.2) (.int .i64 t135)) (fun _ hk => hk.2) (.slice Ao74 t136.length co74)) (fun _ h_ => h_.1))) hb); replace HO132 := am (Kd.R_below (Q62 HO132 BK140) hb); replace HO138 := am (Kd.R_below (Q62 HO138 BK140) hb); replace BK108 := am (blk_below (g := gb108) (o := .cells #[.int .i64 t103, .slice Ao13 t104.length co13] 30 (0, 0)) (Q2 NB108_140 BK108) hb); replace BK114 := am (blk_below (g := gb114) (o := .cells #[.int .i64 t109, .slice Ao18 t110.length co18] 30 (0, 0)) (Q2 NB114_140 BK114) hb); replace BK121 := am (blk_below (g := gb121) (o := .cells #[.int .i64 t116, .slice Ao35 t117.length co35] 30 (0, 0)) (Q2 NB121_140 BK121) hb); replace BK127 := am (blk_below (g := gb127) (o := .cells #[.int .i64 t122, .slice Ao42 t123.length co42] 30 (0, 0)) (Q2 NB127_140 BK127) hb); replace BK134 := am (blk_below (g := gb134) (o := .cells #[.int .i64 t129, .slice Ao65 t130.length co65] 30 (0, 0)) (Q2 NB134_140 BK134) hb); replace BK140 := am (blk_below (g := gb140) (o := .cells #[.int .i64 t135, .slice Ao74 t136.length co74] 30 (0, 0)) (by (with_reducible repeat (first | refine blk_drewN ?_ _ | refine blk_drew ?_ | refine blk_alloc ?_ _)); refine blk_put (cs := #[.int .i64 t135, .slice none 0 0]) ?_ 1 _ rfl; (with_reducible repeat (first | refine blk_drewN ?_ _ | refine blk_drew ?_ | refine blk_alloc ?_ _)); refine blk_put (cs := #[.int .i64 0, .slice none 0 0]) ?_ 0 _ rfl; (with_reducible repeat (first | refine blk_drewN ?_ _ | refine blk_drew ?_ | refine blk_alloc ?_ _)); exact BK140.out) hb); replace HB := am (below_step (Q5 HB GE140) hb); (try clear hb); (try clear hb2); (try clear hk); (try clear hi)))
           go_meet
           case rel => exact ⟨_, (!t141), Q11, H', ⟨by have := HJ18.out; have := HJ42.out; first | omega | exact Nat.le_refl _⟩, ⟨by (with_reducible repeat (first | apply Kd.R_alloc | apply Kd.R_drewN | apply Kd.R_drew)); exact Kd.R_mono HO_109001.out (fun _ hk => ⟨hk.1.1.1, ⟨hk.1.1.2.1, ⟨hk.1.1.2.2, ⟨hk.1.2, hk.2⟩⟩⟩⟩)⟩, ⟨by (with_reducible repeat (first | apply Kd.R_alloc | apply Kd.R_drewN | apply Kd.R_drew)); exact Kd.R_mono HO_115001.out (fun _ hk => ⟨hk.1.1.1, ⟨hk.1.1.2.1, ⟨hk.1.1.2.2, ⟨hk.1.2, hk.2⟩⟩⟩⟩)⟩, ⟨by (with_reducible repeat (first | apply Kd.R_alloc | apply Kd.R_drewN | apply Kd.R_drew)); exact Kd.R_mono HO_122001.out (fun _ hk => ⟨hk.1.1.1, ⟨hk.1.1.2.1, ⟨hk.1.1.2.2, ⟨hk.1.2, hk.2⟩⟩⟩⟩)⟩, ⟨by (with_reducible repeat (first | apply Kd.R_alloc | apply Kd.R_drewN | apply Kd.R_drew)); exact Kd.R_mono HO_128001.out (fun _ hk => ⟨hk.1.1.1, ⟨hk.1.1.2.1, ⟨hk.1.1.2.2, ⟨hk.1.2, hk.2⟩⟩⟩⟩)⟩, ⟨Q172 HO132⟩, ⟨Q172 HO138⟩, ⟨Q0 BK108⟩, ⟨Q0 BK114⟩, ⟨Q0 BK121⟩, ⟨Q0 BK127⟩, ⟨Q0 BK134⟩, ⟨Q0 BK140⟩, ⟨Q1 HB⟩⟩
        case rest => as_aux_lemma =>
         clear HC75
         try clear c1
         try clear c2
         try clear p2
         try clear c3
         try clear c4
         try clear c5
         try clear c6
         try clear c7
         try clear c8
         try clear c16
         try clear c20
         try clear c20b0
         try clear c20b1
         try clear c20b2
         try clear c21
         try clear c22
         try clear c23
         try clear c24
         try clear c26
         try clear c27
         try clear c28
         try clear c29
         try clear c32
         try clear c33
         try clear c38
         try clear c39
         try clear c40
         try clear c44
         try clear c44b0
         try clear c44b1
         try clear c44b2
         try clear c46
         try clear c47
         try clear c48
         try clear c50
         try clear c51
         try clear c54
         try clear c60
         try clear c61
         try clear c62
         try clear c63
         try clear c68
         try clear c69
         try clear c70
         try clear c71
         try clear c72
         try clear c76
         try clear c76b0
         try clear c76b1
         try clear c76b2
         try clear c77
         try clear c77b0
         try clear c77b1
         try clear c77b2
         try clear c79
         try clear c80
         try clear c81
         try clear c82
         try clear c83
         try clear c85
         try clear c86
         try clear c87
         try clear c88
         try clear hcz12_0
         try clear hcz12_1
         try clear hcz17_0
         try clear hcz17_1
         try clear hcz23_0
         try clear hcz23_1
         try clear hcz24_0
         try clear hcz24_1
         try clear hcz34_0
         try clear hcz34_1
         try clear hcz41_0
         try clear hcz41_1
         try clear hcz49_0
         try clear hcz49_1
         try clear hcz52_0
         try clear hcz52_1
         try clear hcz64_0
         try clear hcz64_1
         try clear hcz73_0
         try clear hcz73_1
         try clear hcz84_0
         try clear hcz84_1
         try clear hcz89_0
         try clear hcz89_1
         try clear hfz12_0
         try clear hfz12_1
         try clear hfz17_0
         try clear hfz17_1
         try clear hfz23_0
         try clear hfz23_1
         try clear hfz24_0
         try clear hfz24_1
         try clear hfz34_0
         try clear hfz34_1
         try clear hfz41_0
         try clear hfz41_1
         try clear hfz49_0
         try clear hfz49_1
         try clear hfz52_0
         try clear hfz52_1
         try clear hfz64_0
         try clear hfz64_1
         try clear hfz73_0
         try clear hfz73_1
         try clear hfz84_0
         try clear hfz84_1
         try clear hfz89_0
         try clear hfz89_1
         try clear p2
         obtain ⟨kq, x104_74, rfl, HA, HJ74, HO_109001, HO_115001, HO_122001, HO_128001, HO_135001, HO_141001, BK108, BK114, BK121, BK127, BK134, BK140, HB⟩ := hcut
         cases kq with
         | zero => exact absurd HA.out (by simp [laws_FnFamilies.j2])
         | succ kj74 =>
          have H := HA.out; clear HA
          simp only [laws_FnFamilies.j2] at H
          by_cases c91 : x104_74 = true
          ·subst c91
           have H1 : (none) = some r := by rw [if_pos rfl] at H; exact H
           clear H; have H := H1; clear H1; exact absurd H (by simp)
          ·replace c91 := Bool.eq_false_iff.mpr c91
           subst c91; have H1 : (if t107 = true then (laws_FnFamilies.j3 kj74 l0 t102 t120 (decide (t102 > 0)) t103 t104 t116 t117 t129 t130) else (laws_FnFamilies.j3 kj74 l0 t102 t120 false t103 t104 t116 t117 t129 t130)) = some r := by rw [if_neg (show ¬ (false = true) by decide)] at H; exact H
           clear H; have H := H1; clear H1; have HC92 := Aside0.mk H; clear H
           go_upto_region 16 with (fail)
           go_cut [109] (fun v109 wc => ∃ (kq : Nat) (x109_91 : Bool), v109 = .bool x109_91 ∧ Aside0 (laws_FnFamilies.j3 kq l0 t102 t120 x109_91 t103 t104 t116 t117 t129 t130 = some r) ∧ Aside0 (kq ≤ kj74) ∧ Aside0 (Kd.R k71 71 wc w.heap.size (fun k_ => some k_ ≠ ((.slice Ao18 t110.length co18) : Value).ownBlock ∧ some k_ ≠ ((.slice Ao35 t117.length co35) : Value).ownBlock ∧ some k_ ≠ ((.slice Ao42 t123.length co42) : Value).ownBlock ∧ some k_ ≠ ((.slice Ao65 t130.length co65) : Value).ownBlock ∧ some k_ ≠ ((.slice Ao74 t136.length co74) : Value).ownBlock) (.slice Ao13 t104.length co13) t104) ∧ Aside0 (Kd.R k71 71 wc w.heap.size (fun k_ => some k_ ≠ ((.slice Ao13 t104.length co13) : Value).ownBlock ∧ some k_ ≠ ((.slice Ao35 t117.length co35) : Value).ownBlock ∧ some k_ ≠ ((.slice Ao42 t123.length co42) : Value).ownBlock ∧ some k_ ≠ ((.slice Ao65 t130.length co65) : Value).ownBlock ∧ some k_ ≠ ((.slice Ao74 t136.length co74) : Value).ownBlock) (.slice Ao18 t110.length co18) t110) ∧ Aside0 (Kd.R k71 71 wc w.heap.size (fun k_ => some k_ ≠ ((.slice Ao13 t104.length co13) : Value).ownBlock ∧ some k_ ≠ ((.slice Ao18 t110.length co18) : Value).ownBlock ∧ some k_ ≠ ((.slice Ao42 t123.length co42) : Value).ownBlock ∧ some k_ ≠ ((.slice Ao65 t130.length co65) : Value).ownBlock ∧ some k_ ≠ ((.slice Ao74 t136.length co74) : Value).ownBlock) (.slice Ao35 t117.length co35) t117) ∧ Aside0 (Kd.R k71 71 wc w.heap.size (fun k_ => some k_ ≠ ((.slice Ao13 t104.length co13) : Value).ownBlock ∧ some k_ ≠ ((.slice Ao18 t110.length co18) : Value).ownBlock ∧ some k_ ≠ ((.slice Ao35 t117.length co35) : Value).ownBlock ∧ some k_ ≠ ((.slice Ao65 t130.length co65) : Value).ownBlock ∧ some k_ ≠ ((.slice Ao74 t136.length co74) : Value).ownBlock) (.slice Ao42 t123.length co42) t123) ∧ Aside0 (Kd.R k71 71 wc w.heap.size (fun k_ => some k_ ≠ ((.slice Ao13 t104.length co13) : Value).ownBlock ∧ some k_ ≠ ((.slice Ao18 t110.length co18) : Value).ownBlock ∧ some k_ ≠ ((.slice Ao35 t117.length co35) : Value).ownBlock ∧ some k_ ≠ ((.slice Ao42 t123.length co42) : Value).ownBlock ∧ some k_ ≠ ((.slice Ao74 t136.length co74) : Value).ownBlock) (.slice Ao65 t130.length co65) t130) ∧ Aside0 (Kd.R k71 71 wc w.heap.size (fun k_ => some k_ ≠ ((.slice Ao13 t104.length co13) : Value).ownBlock ∧ some k_ ≠ ((.slice Ao18 t110.length co18) : Value).ownBlock ∧ some k_ ≠ ((.slice Ao35 t117.length co35) : Value).ownBlock ∧ some k_ ≠ ((.slice Ao42 t123.length co42) : Value).ownBlock ∧ some k_ ≠ ((.slice Ao65 t130.length co65) : Value).ownBlock) (.slice Ao74 t136.length co74) t136) ∧ Aside0 (wc.heap[gb108]? = some (.cells #[.int .i64 t103, (.slice Ao13 t104.length co13)] 30 (0, 0))) ∧ Aside0 (wc.heap[gb114]? = some (.cells #[.int .i64 t109, (.slice Ao18 t110.length co18)] 30 (0, 0))) ∧ Aside0 (wc.heap[gb121]? = some (.cells #[.int .i64 t116, (.slice Ao35 t117.length co35)] 30 (0, 0))) ∧ Aside0 (wc.heap[gb127]? = some (.cells #[.int .i64 t122, (.slice Ao42 t123.length co42)] 30 (0, 0))) ∧ Aside0 (wc.heap[gb134]? = some (.cells #[.int .i64 t129, (.slice Ao65 t130.length co65)] 30 (0, 0))) ∧ Aside0 (wc.heap[gb140]? = some (.cells #[.int .i64 t135, (.slice Ao74 t136.length co74)] 30 (0, 0))) ∧ Aside0 (Below w.heap.size w wc))
           case first => as_aux_lemma =>
            have H := HC92.out; clear HC92
            by_cases c93 : t107 = true
            ·subst c93
             have H1 : (laws_FnFamilies.j3 kj74 l0 t102 t120 (decide (t102 > 0)) t103 t104 t116 t117 t129 t130) = some r := by rw [if_pos rfl] at H; exact H
             clear H; have H := H1; clear H1; have H' := Aside0.mk H; clear H
             go_wp2
             go_meet
             case rel => exact ⟨_, (decide (t102 > 0)), Q11, H', ⟨by have := HJ18.out; have := HJ42.out; have := HJ74.out; first | omega | exact Nat.le_refl _⟩, ⟨Q15⟩, ⟨Q16⟩, ⟨Q19⟩, ⟨Q20⟩, ⟨Q23⟩, ⟨Q24⟩, ⟨Q0 BK108⟩, ⟨Q0 BK114⟩, ⟨Q0 BK121⟩, ⟨Q0 BK127⟩, ⟨Q0 BK134⟩, ⟨Q0 BK140⟩, ⟨Q1 HB⟩⟩
            ·replace c93 := Bool.eq_false_iff.mpr c93
             subst c93; have H1 : (laws_FnFamilies.j3 kj74 l0 t102 t120 false t103 t104 t116 t117 t129 t130) = some r := by rw [if_neg (show ¬ (false = true) by decide)] at H; exact H
             clear H; have H := H1; clear H1; have H' := Aside0.mk H; clear H
             go_wp2
             go_meet
             case rel => exact ⟨_, (false), Q11, H', ⟨by have := HJ18.out; have := HJ42.out; have := HJ74.out; first | omega | exact Nat.le_refl _⟩, ⟨Q15⟩, ⟨Q16⟩, ⟨Q19⟩, ⟨Q20⟩, ⟨Q23⟩, ⟨Q24⟩, ⟨Q0 BK108⟩, ⟨Q0 BK114⟩, ⟨Q0 BK121⟩, ⟨Q0 BK127⟩, ⟨Q0 BK134⟩, ⟨Q0 BK140⟩, ⟨Q1 HB⟩⟩
           case rest => as_aux_lemma =>
            clear HC92
            try clear c1
            try clear c2
            try clear p2
            try clear c3
            try clear c4
            try clear c5
            try clear c6
            try clear c7
            try clear c8
            try clear c9
            try clear c16
            try clear c20
            try clear c20b0
            try clear c20b1
            try clear c20b2
            try clear c21
            try clear c22
            try clear c23
            try clear c24
            try clear c26
            try clear c27
            try clear c28
            try clear c29
            try clear c32
            try clear c33
            try clear c38
            try clear c39
            try clear c40
            try clear c44
            try clear c44b0
            try clear c44b1
            try clear c44b2
            try clear c46
            try clear c47
            try clear c48
            try clear c50
            try clear c51
            try clear c54
            try clear c60
            try clear c61
            try clear c62
            try clear c63
            try clear c68
            try clear c69
            try clear c70
            try clear c71
            try clear c72
            try clear c76
            try clear c76b0
            try clear c76b1
            try clear c76b2
            try clear c77
            try clear c77b0
            try clear c77b1
            try clear c77b2
            try clear c79
            try clear c80
            try clear c81
            try clear c82
            try clear c83
            try clear c85
            try clear c86
            try clear c87
            try clear c88
            try clear c91
            try clear c93
            try clear hcz12_0
            try clear hcz12_1
            try clear hcz17_0
            try clear hcz17_1
            try clear hcz23_0
            try clear hcz23_1
            try clear hcz24_0
            try clear hcz24_1
            try clear hcz34_0
            try clear hcz34_1
            try clear hcz41_0
            try clear hcz41_1
            try clear hcz49_0
            try clear hcz49_1
            try clear hcz52_0
            try clear hcz52_1
            try clear hcz64_0
            try clear hcz64_1
            try clear hcz73_0
            try clear hcz73_1
            try clear hcz84_0
            try clear hcz84_1
            try clear hcz89_0
            try clear hcz89_1
            try clear hfz12_0
            try clear hfz12_1
            try clear hfz17_0
            try clear hfz17_1
            try clear hfz23_0
            try clear hfz23_1
            try clear hfz24_0
            try clear hfz24_1
            try clear hfz34_0
            try clear hfz34_1
            try clear hfz41_0
            try clear hfz41_1
            try clear hfz49_0
            try clear hfz49_1
            try clear hfz52_0
            try clear hfz52_1
            try clear hfz64_0
            try clear hfz64_1
            try clear hfz73_0
            try clear hfz73_1
            try clear hfz84_0
            try clear hfz84_1
            try clear hfz89_0
            try clear hfz89_1
            try clear p2
            obtain ⟨kq, x109_91, rfl, HA, HJ91, HO_109001, HO_115001, HO_122001, HO_128001, HO_135001, HO_141001, BK108, BK114, BK121, BK127, BK134, BK140, HB⟩ := hcut
            cases kq with
            | zero => exact absurd HA.out (by simp [laws_FnFamilies.j3])
            | succ kj91 =>
             have H := HA.out; clear HA
             simp only [laws_FnFamilies.j3] at H
             have HC94 := Aside0.mk H; clear H
             go_upto_if 109 with (fail)
             go_cut [] (fun wc => ∃ (kq : Nat), Aside0 (laws_FnFamilies.j4 kq l0 t102 t120 t116 t117 = some r) ∧ Aside0 (kq ≤ kj91) ∧ Aside0 (Kd.R k71 71 wc w.heap.size (fun k_ => some k_ ≠ ((.slice Ao18 t110.length co18) : Value).ownBlock ∧ some k_ ≠ ((.slice Ao35 t117.length co35) : Value).ownBlock ∧ some k_ ≠ ((.slice Ao42 t123.length co42) : Value).ownBlock ∧ some k_ ≠ ((.slice Ao65 t130.length co65) : Value).ownBlock ∧ some k_ ≠ ((.slice Ao74 t136.length co74) : Value).ownBlock) (.slice Ao13 t104.length co13) t104) ∧ Aside0 (Kd.R k71 71 wc w.heap.size (fun k_ => some k_ ≠ ((.slice Ao13 t104.length co13) : Value).ownBlock ∧ some k_ ≠ ((.slice Ao35 t117.length co35) : Value).ownBlock ∧ some k_ ≠ ((.slice Ao42 t123.length co42) : Value).ownBlock ∧ some k_ ≠ ((.slice Ao65 t130.length co65) : Value).ownBlock ∧ some k_ ≠ ((.slice Ao74 t136.length co74) : Value).ownBlock) (.slice Ao18 t110.length co18) t110) ∧ Aside0 (Kd.R k71 71 wc w.heap.size (fun k_ => some k_ ≠ ((.slice Ao13 t104.length co13) : Value).ownBlock ∧ some k_ ≠ ((.slice Ao18 t110.length co18) : Value).ownBlock ∧ some k_ ≠ ((.slice Ao42 t123.length co42) : Value).ownBlock ∧ some k_ ≠ ((.slice Ao65 t130.length co65) : Value).ownBlock ∧ some k_ ≠ ((.slice Ao74 t136.length co74) : Value).ownBlock) (.slice Ao35 t117.length co35) t117) ∧ Aside0 (Kd.R k71 71 wc w.heap.size (fun k_ => some k_ ≠ ((.slice Ao13 t104.length co13) : Value).ownBlock ∧ some k_ ≠ ((.slice Ao18 t110.length co18) : Value).ownBlock ∧ some k_ ≠ ((.slice Ao35 t117.length co35) : Value).ownBlock ∧ some k_ ≠ ((.slice Ao65 t130.length co65) : Value).ownBlock ∧ some k_ ≠ ((.slice Ao74 t136.length co74) : Value).ownBlock) (.slice Ao42 t123.length co42) t123) ∧ Aside0 (Kd.R k71 71 wc w.heap.size (fun k_ => some k_ ≠ ((.slice Ao13 t104.length co13) : Value).ownBlock ∧ some k_ ≠ ((.slice Ao18 t110.length co18) : Value).ownBlock ∧ some k_ ≠ ((.slice Ao35 t117.length co35) : Value).ownBlock ∧ some k_ ≠ ((.slice Ao42 t123.length co42) : Value).ownBlock ∧ some k_ ≠ ((.slice Ao74 t136.length co74) : Value).ownBlock) (.slice Ao65 t130.length co65) t130) ∧ Aside0 (Kd.R k71 71 wc w.heap.size (fun k_ => some k_ ≠ ((.slice Ao13 t104.length co13) : Value).ownBlock ∧ some k_ ≠ ((.slice Ao18 t110.length co18) : Value).ownBlock ∧ some k_ ≠ ((.slice Ao35 t117.length co35) : Value).ownBlock ∧ some k_ ≠ ((.slice Ao42 t123.length co42) : Value).ownBlock ∧ some k_ ≠ ((.slice Ao65 t130.length co65) : Value).ownBlock) (.slice Ao74 t136.length co74) t136) ∧ Aside0 (wc.heap[gb108]? = some (.cells #[.int .i64 t103, (.slice Ao13 t104.length co13)] 30 (0, 0))) ∧ Aside0 (wc.heap[gb114]? = some (.cells #[.int .i64 t109, (.slice Ao18 t110.length co18)] 30 (0, 0))) ∧ Aside0 (wc.heap[gb121]? = some (.cells #[.int .i64 t116, (.slice Ao35 t117.length co35)] 30 (0, 0))) ∧ Aside0 (wc.heap[gb127]? = some (.cells #[.int .i64 t122, (.slice Ao42 t123.length co42)] 30 (0, 0))) ∧ Aside0 (wc.heap[gb134]? = some (.cells #[.int .i64 t129, (.slice Ao65 t130.length co65)] 30 (0, 0))) ∧ Aside0 (wc.heap[gb140]? = some (.cells #[.int .i64 t135, (.slice Ao74 t136.length co74)] 30 (0, 0))) ∧ Aside0 (Below w.heap.size w wc))
             case first => as_aux_lemma =>
              have H := HC94.out; clear HC94
              by_cases c95 : x109_91 = true
              ·subst c95
               have H1 : ((impl_RadiusOf.f kj91 t103 t104).bind fun bt142 => ((impl_RadiusOf.f kj91 t129 t130).bind fun bt144 => (if t102 > 1 then (if bt142.2 = true then (if bt144.2 = true then (if bt142.1 = (wrap64 (Int.tdiv t102 2)) then (if bt144.1 = 1 then (laws_FnFamilies.j4 kj91 l0 t102 t120 t116 t117) else (none)) else (none)) else (none)) else (none)) else (if bt142.2 = true then (if bt144.2 = true then (if bt142.1 = (wrap64 (Int.tdiv t102 2)) then (if bt144.1 = 0 then (laws_FnFamilies.j4 kj91 l0 t102 t120 t116 t117) else (none)) else (none)) else (none)) else (none))))) = some r := by rw [if_pos rfl] at H; exact H
               clear H; have H := H1; clear H1; replace H := (ob H); obtain ⟨⟨t142, t143⟩, A960, H⟩ := H; (try dsimp only at H); have A96 := Aside0.mk A960; clear A960; replace H := (ob H); obtain ⟨⟨t144, t145⟩, A970, H⟩ := H; (try dsimp only at H); have A97 := Aside0.mk A970; clear A970; have HU98 := Aside0.mk H; clear H; have hnb99 := NB108_114.out; have hnc99 := NB114_108.out; have hnb100 := NB108_121.out; have hnc100 := NB121_108.out; have hnb101 := NB108_127.out; have hnc101 := NB127_108.out; have hnb102 := NB108_134.out; have hnc102 := NB134_108.out; have hnb103 := NB108_140.out; have hnc103 := NB140_108.out; have hcz104_0 : wc.cell? ⟨gb108, 0, none⟩ = some (.int .i64 t103) := (blk_cell BK108.out 0).trans rfl; have hcz104_1 : wc.cell? ⟨gb108, 1, none⟩ = some (.slice Ao13 t104.length co13) := (blk_cell BK108.out 1).trans rfl; have hfz104_0 := blk_frozen BK108.out 0; have hfz104_1 := blk_frozen BK108.out 1
               go_upto_if 121 with (first | ((with_reducible refine gate_callee (f := 30) rfl ?_); refine goesL_ (some 112) rfl rfl Try.func30 (by kernel_rfl) rfl #[.agg #[.int .i64 t103, .slice Ao13 t104.length co13]] rfl Q3 ?_; (with_reducible refine (impl_RadiusOf.calls kj91 t103 _ _ t104 t142 t143 _ ?side1 ?side2 A96.out).mono ?_); (case side1 => exact (by repeat (first | exact (Kd.R_reads' HO_109001.out).2.2 | (with_reducible refine Kd.C_alloc ?_ _) | (with_reducible refine Kd.C_drewN ?_ _) | (with_reducible refine Kd.C_drew ?_)))); (case side2 => exact (Kd.R_reads' HO_109001.out).2.1); rintro e w105 ⟨rfl, hb⟩; refine ⟨_, rfl, ?_⟩; replace HO_109001 := am (Kd.R_below Q15 hb); replace HO_115001 := am (Kd.R_below Q16 hb); replace HO_122001 := am (Kd.R_below Q19 hb); replace HO_128001 := am (Kd.R_below Q20 hb); replace HO_135001 := am (Kd.R_below Q23 hb); replace HO_141001 := am (Kd.R_below Q24 hb); replace BK108 := am (blk_below (g := gb108) (o := .cells #[.int .i64 t103, .slice Ao13 t104.length co13] 30 (0, 0)) (Q0 BK108) hb); replace BK114 := am (blk_below (g := gb114) (o := .cells #[.int .i64 t109, .slice Ao18 t110.length co18] 30 (0, 0)) (Q0 BK114) hb); replace BK121 := am (blk_below (g := gb121) (o := .cells #[.int .i64 t116, .slice Ao35 t117.length co35] 30 (0, 0)) (Q0 BK121) hb); replace BK127 := am (blk_below (g := gb127) (o := .cells #[.int .i64 t122, .slice Ao42 t123.length co42] 30 (0, 0)) (Q0 BK127) hb); replace BK134 := am (blk_below (g := gb134) (o := .cells #[.int .i64 t129, .slice Ao65 t130.length co65] 30 (0, 0)) (Q0 BK134) hb); replace BK140 := am (blk_below (g := gb140) (o := .cells #[.int .i64 t135, .slice Ao74 t136.length co74] 30 (0, 0)) (Q0 BK140) hb); replace HB := am (below_step (Q1 HB) hb); (try clear hb); (try clear hb2); (try clear hk); (try clear hi); have hnb106 := NB134_114.out; have hnc106 := NB114_134.out; have hnb107 := NB134_121.out; have hnc107 := NB121_134.out; have hnb108 := NB134_127.out; have hnc108 := NB127_134.out; have hnb109 := NB134_140.out; have hnc109 := NB140_134.out; have hcz110_0 : w105.cell? ⟨gb134, 0, none⟩ = some (.int .i64 t129) := (blk_cell BK134.out 0).trans rfl; have hcz110_1 : w105.cell? ⟨gb134, 1, none⟩ = some (.slice Ao65 t130.length co65) := (blk_cell BK134.out 1).trans rfl; have hfz110_0 := blk_frozen BK134.out 0; have hfz110_1 := blk_frozen BK134.out 1) | ((with_reducible refine gate_callee (f := 30) rfl ?_); refine goesL_ (some 117) rfl rfl Try.func30 (by kernel_rfl) rfl #[.agg #[.int .i64 t129, .slice Ao65 t130.length co65]] rfl Q3 ?_; (with_reducible refine (impl_RadiusOf.calls kj91 t129 _ _ t130 t144 t145 _ ?side1 ?side2 A97.out).mono ?_); (case side1 => exact (by repeat (first | exact (Kd.R_reads' HO_135001.out).2.2 | (with_reducible refine Kd.C_alloc ?_ _) | (with_reducible refine Kd.C_drewN ?_ _) | (with_reducible refine Kd.C_drew ?_)))); (case side2 => exact (Kd.R_reads' HO_135001.out).2.1); rintro e w111 ⟨rfl, hb⟩; refine ⟨_, rfl, ?_⟩; replace HO_109001 := am (Kd.R_below Q15 hb); replace HO_115001 := am (Kd.R_below Q16 hb); replace HO_122001 := am (Kd.R_below Q19 hb); replace HO_128001 := am (Kd.R_below Q20 hb); replace HO_135001 := am (Kd.R_below Q23 hb); replace HO_141001 := am (Kd.R_below Q24 hb); replace BK108 := am (blk_below (g := gb108) (o := .cells #[.int .i64 t103, .slice Ao13 t104.length co13] 30 (0, 0)) (Q0 BK108) hb); replace BK114 := am (blk_below (g := gb114) (o := .cells #[.int .i64 t109, .slice Ao18 t110.length co18] 30 (0, 0)) (Q0 BK114) hb); replace BK121 := am (blk_below (g := gb121) (o := .cells #[.int .i64 t116, .slice Ao35 t117.length co35] 30 (0, 0)) (Q0 BK121) hb); replace BK127 := am (blk_below (g := gb127) (o := .cells #[.int .i64 t122, .slice Ao42 t123.length co42] 30 (0, 0)) (Q0 BK127) hb); replace BK134 := am (blk_below (g := gb134) (o := .cells #[.int .i64 t129, .slice Ao65 t130.length co65] 30 (0, 0)) (Q0 BK134) hb); replace BK140 := am (blk_below (g := gb140) (o := .cells #[.int .i64 t135, .slice Ao74 t136.length co74] 30 (0, 0)) (Q0 BK140) hb); replace HB := am (below_step (Q1 HB) hb); (try clear hb); (try clear hb2); (try clear hk); (try clear hi)))
               (try simp only [Act.put, List.setIfInBounds_toArray, List.set_cons_zero, List.set_cons_succ]); have H := HU98.out; clear HU98
               by_cases c112 : t102 > 1
               ·rw [if_pos c112] at H
                have c112b0 : decide (1 < t102) = true := decide_eq_true c112; clear c112
                (first | rw [c112b0] | (simp only [i64_w, i32_w]; rw [c112b0]) | skip)
                by_cases c113 : t143 = true
                ·subst c113
                 have H1 : (if t145 = true then (if t142 = (wrap64 (Int.tdiv t102 2)) then (if t144 = 1 then (laws_FnFamilies.j4 kj91 l0 t102 t120 t116 t117) else (none)) else (none)) else (none)) = some r := by rw [if_pos rfl] at H; exact H
                 clear H; have H := H1; clear H1
                 by_cases c114 : t145 = true
                 ·subst c114
                  have H1 : (if t142 = (wrap64 (Int.tdiv t102 2)) then (if t144 = 1 then (laws_FnFamilies.j4 kj91 l0 t102 t120 t116 t117) else (none)) else (none)) = some r := by rw [if_pos rfl] at H; exact H
                  clear H; have H := H1; clear H1
                  by_cases c115 : t142 = (wrap64 (Int.tdiv t102 2))
                  ·rw [if_pos c115] at H
                   have c115b0 := beq_iff_eq.mpr c115; have c115b1 := bne_eq_false_iff_eq.mpr c115; clear c115
                   by_cases c116 : t144 = 1
                   ·rw [if_pos c116] at H
                    have c116b0 := beq_iff_eq.mpr c116; have c116b1 := bne_eq_false_iff_eq.mpr c116; clear c116; have H' := Aside0.mk H; clear H
                    go_wp2
                    go_meet
                    case rel => exact ⟨_, H', ⟨Q163⟩, ⟨Q15⟩, ⟨Q16⟩, ⟨Q19⟩, ⟨Q20⟩, ⟨Q23⟩, ⟨Q24⟩, ⟨Q0 BK108⟩, ⟨Q0 BK114⟩, ⟨Q0 BK121⟩, ⟨Q0 BK127⟩, ⟨Q0 BK134⟩, ⟨Q0 BK140⟩, ⟨Q1 HB⟩⟩
                   ·rw [if_neg c116] at H
                    exact absurd H (by simp)
                  ·rw [if_neg c115] at H
                   have c115b0 := beq_eq_false_iff_ne.mpr c115; have c115b1 := bne_iff_ne.mpr c115; exact absurd H (by simp)
                 ·replace c114 := Bool.eq_false_iff.mpr c114
                  subst c114; have H1 : (none) = some r := by rw [if_neg (show ¬ (false = true) by decide)] at H; exact H
                  clear H; have H := H1; clear H1; exact absurd H (by simp)
                ·replace c113 := Bool.eq_false_iff.mpr c113
                 subst c113; have H1 : (none) = some r := by rw [if_neg (show ¬ (false = true) by decide)] at H; exact H
                 clear H; have H := H1; clear H1; exact absurd H (by simp)
               ·rw [if_neg c112] at H
                have c112b0 : decide (1 < t102) = false := decide_eq_false c112; clear c112
                (first | rw [c112b0] | (simp only [i64_w, i32_w]; rw [c112b0]) | skip)
                by_cases c117 : t143 = true
                ·subst c117
                 have H1 : (if t145 = true then (if t142 = (wrap64 (Int.tdiv t102 2)) then (if t144 = 0 then (laws_FnFamilies.j4 kj91 l0 t102 t120 t116 t117) else (none)) else (none)) else (none)) = some r := by rw [if_pos rfl] at H; exact H
                 clear H; have H := H1; clear H1
                 by_cases c118 : t145 = true
                 ·subst c118
                  have H1 : (if t142 = (wrap64 (Int.tdiv t102 2)) then (if t144 = 0 then (laws_FnFamilies.j4 kj91 l0 t102 t120 t116 t117) else (none)) else (none)) = some r := by rw [if_pos rfl] at H; exact H
                  clear H; have H := H1; clear H1
                  by_cases c119 : t142 = (wrap64 (Int.tdiv t102 2))
                  ·rw [if_pos c119] at H
                   have c119b0 := beq_iff_eq.mpr c119; have c119b1 := bne_eq_false_iff_eq.mpr c119; clear c119
                   by_cases c120 : t144 = 0
                   ·rw [if_pos c120] at H
                    have c120b0 := beq_iff_eq.mpr c120; have c120b1 := bne_eq_false_iff_eq.mpr c120; clear c120; have H' := Aside0.mk H; clear H
                    go_wp2
                    go_meet
                    case rel => exact ⟨_, H', ⟨Q163⟩, ⟨Q15⟩, ⟨Q16⟩, ⟨Q19⟩, ⟨Q20⟩, ⟨Q23⟩, ⟨Q24⟩, ⟨Q0 BK108⟩, ⟨Q0 BK114⟩, ⟨Q0 BK121⟩, ⟨Q0 BK127⟩, ⟨Q0 BK134⟩, ⟨Q0 BK140⟩, ⟨Q1 HB⟩⟩
                   ·rw [if_neg c120] at H
                    exact absurd H (by simp)
                  ·rw [if_neg c119] at H
                   have c119b0 := beq_eq_false_iff_ne.mpr c119; have c119b1 := bne_iff_ne.mpr c119; exact absurd H (by simp)
                 ·replace c118 := Bool.eq_false_iff.mpr c118
                  subst c118; have H1 : (none) = some r := by rw [if_neg (show ¬ (false = true) by decide)] at H; exact H
                  clear H; have H := H1; clear H1; exact absurd H (by simp)
                ·replace c117 := Bool.eq_false_iff.mpr c117
                 subst c117; have H1 : (none) = some r := by rw [if_neg (show ¬ (false = true) by decide)] at H; exact H
                 clear H; have H := H1; clear H1; exact absurd H (by simp)
              ·replace c95 := Bool.eq_false_iff.mpr c95
               subst c95; have H1 : (laws_FnFamilies.j4 kj91 l0 t102 t120 t116 t117) = some r := by rw [if_neg (show ¬ (false = true) by decide)] at H; exact H
               clear H; have H := H1; clear H1; have H' := Aside0.mk H; clear H
               go_wp2
               go_meet
               case rel => exact ⟨_, H', ⟨Q163⟩, ⟨Q15⟩, ⟨Q16⟩, ⟨Q19⟩, ⟨Q20⟩, ⟨Q23⟩, ⟨Q24⟩, ⟨Q0 BK108⟩, ⟨Q0 BK114⟩, ⟨Q0 BK121⟩, ⟨Q0 BK127⟩, ⟨Q0 BK134⟩, ⟨Q0 BK140⟩, ⟨Q1 HB⟩⟩
             case rest => as_aux_lemma =>
              clear HC94
              try clear c1
              try clear c2
              try clear p2
              try clear c3
              try clear c4
              try clear c5
              try clear c6
              try clear p6
              try clear c7
              try clear c8
              try clear c9
              try clear c10
              try clear c11
              try clear c12
              try clear c16
              try clear c20
              try clear c20b0
              try clear c20b1
              try clear c20b2
              try clear c21
              try clear c22
              try clear c23
              try clear c24
              try clear c26
              try clear c27
              try clear c28
              try clear c29
              try clear c30
              try clear c32
              try clear c33
              try clear c38
              try clear c39
              try clear c40
              try clear c44
              try clear c44b0
              try clear c44b1
              try clear c44b2
              try clear c46
              try clear c47
              try clear c48
              try clear c50
              try clear c51
              try clear c54
              try clear c60
              try clear c61
              try clear c62
              try clear c63
              try clear p64
              try clear c68
              try clear c69
              try clear c70
              try clear c71
              try clear c72
              try clear c76
              try clear c76b0
              try clear c76b1
              try clear c76b2
              try clear c77
              try clear c77b0
              try clear c77b1
              try clear c77b2
              try clear c79
              try clear c80
              try clear c81
              try clear c82
              try clear c83
              try clear c85
              try clear c86
              try clear c87
              try clear c88
              try clear c91
              try clear c93
              try clear c95
              try clear c99
              try clear c100
              try clear c101
              try clear c102
              try clear c103
              try clear c106
              try clear c107
              try clear c108
              try clear c109
              try clear c112
              try clear c112b0
              try clear c113
              try clear c114
              try clear c115
              try clear c115b0
              try clear c115b1
              try clear c116
              try clear c116b0
              try clear c116b1
              try clear c117
              try clear c118
              try clear c119
              try clear c119b0
              try clear c119b1
              try clear c120
              try clear c120b0
              try clear c120b1
              try clear hcz104_0
              try clear hcz104_1
              try clear hcz110_0
              try clear hcz110_1
              try clear hcz12_0
              try clear hcz12_1
              try clear hcz17_0
              try clear hcz17_1
              try clear hcz23_0
              try clear hcz23_1
              try clear hcz24_0
              try clear hcz24_1
              try clear hcz34_0
              try clear hcz34_1
              try clear hcz41_0
              try clear hcz41_1
              try clear hcz49_0
              try clear hcz49_1
              try clear hcz52_0
              try clear hcz52_1
              try clear hcz64_0
              try clear hcz64_1
              try clear hcz73_0
              try clear hcz73_1
              try clear hcz84_0
              try clear hcz84_1
              try clear hcz89_0
              try clear hcz89_1
              try clear hfz104_0
              try clear hfz104_1
              try clear hfz110_0
              try clear hfz110_1
              try clear hfz12_0
              try clear hfz12_1
              try clear hfz17_0
              try clear hfz17_1
              try clear hfz23_0
              try clear hfz23_1
              try clear hfz24_0
              try clear hfz24_1
              try clear hfz34_0
              try clear hfz34_1
              try clear hfz41_0
              try clear hfz41_1
              try clear hfz49_0
              try clear hfz49_1
              try clear hfz52_0
              try clear hfz52_1
              try clear hfz64_0
              try clear hfz64_1
              try clear hfz73_0
              try clear hfz73_1
              try clear hfz84_0
              try clear hfz84_1
              try clear hfz89_0
              try clear hfz89_1
              try clear p2
              obtain ⟨kq, HA, HJ93, HO_109001, HO_115001, HO_122001, HO_128001, HO_135001, HO_141001, BK108, BK114, BK121, BK127, BK134, BK140, HB⟩ := hcut
              cases kq with
              | zero => exact absurd HA.out (by simp [laws_FnFamilies.j4])
              | succ kj93 =>
               have H := HA.out; clear HA
               simp only [laws_FnFamilies.j4] at H
               have HC121 := Aside0.mk H; clear H
               go_upto_if 139 with (fail)
               go_cut [] (fun wc => ∃ (kq : Nat), Aside0 (laws_FnFamilies.j5 kq l0 = some r) ∧ Aside0 (kq ≤ kj93) ∧ Aside0 (Kd.R k71 71 wc w.heap.size (fun k_ => some k_ ≠ ((.slice Ao18 t110.length co18) : Value).ownBlock ∧ some k_ ≠ ((.slice Ao35 t117.length co35) : Value).ownBlock ∧ some k_ ≠ ((.slice Ao42 t123.length co42) : Value).ownBlock ∧ some k_ ≠ ((.slice Ao65 t130.length co65) : Value).ownBlock ∧ some k_ ≠ ((.slice Ao74 t136.length co74) : Value).ownBlock) (.slice Ao13 t104.length co13) t104) ∧ Aside0 (Kd.R k71 71 wc w.heap.size (fun k_ => some k_ ≠ ((.slice Ao13 t104.length co13) : Value).ownBlock ∧ some k_ ≠ ((.slice Ao35 t117.length co35) : Value).ownBlock ∧ some k_ ≠ ((.slice Ao42 t123.length co42) : Value).ownBlock ∧ some k_ ≠ ((.slice Ao65 t130.length co65) : Value).ownBlock ∧ some k_ ≠ ((.slice Ao74 t136.length co74) : Value).ownBlock) (.slice Ao18 t110.length co18) t110) ∧ Aside0 (Kd.R k71 71 wc w.heap.size (fun k_ => some k_ ≠ ((.slice Ao13 t104.length co13) : Value).ownBlock ∧ some k_ ≠ ((.slice Ao18 t110.length co18) : Value).ownBlock ∧ some k_ ≠ ((.slice Ao42 t123.length co42) : Value).ownBlock ∧ some k_ ≠ ((.slice Ao65 t130.length co65) : Value).ownBlock ∧ some k_ ≠ ((.slice Ao74 t136.length co74) : Value).ownBlock) (.slice Ao35 t117.length co35) t117) ∧ Aside0 (Kd.R k71 71 wc w.heap.size (fun k_ => some k_ ≠ ((.slice Ao13 t104.length co13) : Value).ownBlock ∧ some k_ ≠ ((.slice Ao18 t110.length co18) : Value).ownBlock ∧ some k_ ≠ ((.slice Ao35 t117.length co35) : Value).ownBlock ∧ some k_ ≠ ((.slice Ao65 t130.length co65) : Value).ownBlock ∧ some k_ ≠ ((.slice Ao74 t136.length co74) : Value).ownBlock) (.slice Ao42 t123.length co42) t123) ∧ Aside0 (Kd.R k71 71 wc w.heap.size (fun k_ => some k_ ≠ ((.slice Ao13 t104.length co13) : Value).ownBlock ∧ some k_ ≠ ((.slice Ao18 t110.length co18) : Value).ownBlock ∧ some k_ ≠ ((.slice Ao35 t117.length co35) : Value).ownBlock ∧ some k_ ≠ ((.slice Ao42 t123.length co42) : Value).ownBlock ∧ some k_ ≠ ((.slice Ao74 t136.length co74) : Value).ownBlock) (.slice Ao65 t130.length co65) t130) ∧ Aside0 (Kd.R k71 71 wc w.heap.size (fun k_ => some k_ ≠ ((.slice Ao13 t104.length co13) : Value).ownBlock ∧ some k_ ≠ ((.slice Ao18 t110.length co18) : Value).ownBlock ∧ some k_ ≠ ((.slice Ao35 t117.length co35) : Value).ownBlock ∧ some k_ ≠ ((.slice Ao42 t123.length co42) : Value).ownBlock ∧ some k_ ≠ ((.slice Ao65 t130.length co65) : Value).ownBlock) (.slice Ao74 t136.length co74) t136) ∧ Aside0 (wc.heap[gb108]? = some (.cells #[.int .i64 t103, (.slice Ao13 t104.length co13)] 30 (0, 0))) ∧ Aside0 (wc.heap[gb114]? = some (.cells #[.int .i64 t109, (.slice Ao18 t110.length co18)] 30 (0, 0))) ∧ Aside0 (wc.heap[gb121]? = some (.cells #[.int .i64 t116, (.slice Ao35 t117.length co35)] 30 (0, 0))) ∧ Aside0 (wc.heap[gb127]? = some (.cells #[.int .i64 t122, (.slice Ao42 t123.length co42)] 30 (0, 0))) ∧ Aside0 (wc.heap[gb134]? = some (.cells #[.int .i64 t129, (.slice Ao65 t130.length co65)] 30 (0, 0))) ∧ Aside0 (wc.heap[gb140]? = some (.cells #[.int .i64 t135, (.slice Ao74 t136.length co74)] 30 (0, 0))) ∧ Aside0 (Below w.heap.size w wc))
               case first => as_aux_lemma =>
                have H := HC121.out; clear HC121
                by_cases c122 : t120 = true
                ·subst c122
                 have H1 : ((impl_RadiusOf.f kj93 t116 t117).bind fun bt146 => (if bt146.2 = true then (if bt146.1 = (wrap64 (Int.tdiv t102 2)) then (laws_FnFamilies.j5 kj93 l0) else (none)) else (none))) = some r := by rw [if_pos rfl] at H; exact H
                 clear H; have H := H1; clear H1; replace H := (ob H); obtain ⟨⟨t146, t147⟩, A1230, H⟩ := H; (try dsimp only at H); have A123 := Aside0.mk A1230; clear A1230; have HU124 := Aside0.mk H; clear H; have hnb125 := NB121_108.out; have hnc125 := NB108_121.out; have hnb126 := NB121_114.out; have hnc126 := NB114_121.out; have hnb127 := NB121_127.out; have hnc127 := NB127_121.out; have hnb128 := NB121_134.out; have hnc128 := NB134_121.out; have hnb129 := NB121_140.out; have hnc129 := NB140_121.out; have hcz130_0 : wc.cell? ⟨gb121, 0, none⟩ = some (.int .i64 t116) := (blk_cell BK121.out 0).trans rfl; have hcz130_1 : wc.cell? ⟨gb121, 1, none⟩ = some (.slice Ao35 t117.length co35) := (blk_cell BK121.out 1).trans rfl; have hfz130_0 := blk_frozen BK121.out 0; have hfz130_1 := blk_frozen BK121.out 1
                 go_upto_region 26 with (first | ((with_reducible refine gate_callee (f := 30) rfl ?_); refine goesL_ (some 142) rfl rfl Try.func30 (by kernel_rfl) rfl #[.agg #[.int .i64 t116, .slice Ao35 t117.length co35]] rfl Q3 ?_; (with_reducible refine (impl_RadiusOf.calls kj93 t116 _ _ t117 t146 t147 _ ?side1 ?side2 A123.out).mono ?_); (case side1 => exact (by repeat (first | exact (Kd.R_reads' HO_122001.out).2.2 | (with_reducible refine Kd.C_alloc ?_ _) | (with_reducible refine Kd.C_drewN ?_ _) | (with_reducible refine Kd.C_drew ?_)))); (case side2 => exact (Kd.R_reads' HO_122001.out).2.1); rintro e w131 ⟨rfl, hb⟩; refine ⟨_, rfl, ?_⟩; replace HO_109001 := am (Kd.R_below Q15 hb); replace HO_115001 := am (Kd.R_below Q16 hb); replace HO_122001 := am (Kd.R_below Q19 hb); replace HO_128001 := am (Kd.R_below Q20 hb); replace HO_135001 := am (Kd.R_below Q23 hb); replace HO_141001 := am (Kd.R_below Q24 hb); replace BK108 := am (blk_below (g := gb108) (o := .cells #[.int .i64 t103, .slice Ao13 t104.length co13] 30 (0, 0)) (Q0 BK108) hb); replace BK114 := am (blk_below (g := gb114) (o := .cells #[.int .i64 t109, .slice Ao18 t110.length co18] 30 (0, 0)) (Q0 BK114) hb); replace BK121 := am (blk_below (g := gb121) (o := .cells #[.int .i64 t116, .slice Ao35 t117.length co35] 30 (0, 0)) (Q0 BK121) hb); replace BK127 := am (blk_below (g := gb127) (o := .cells #[.int .i64 t122, .slice Ao42 t123.length co42] 30 (0, 0)) (Q0 BK127) hb); replace BK134 := am (blk_below (g := gb134) (o := .cells #[.int .i64 t129, .slice Ao65 t130.length co65] 30 (0, 0)) (Q0 BK134) hb); replace BK140 := am (blk_below (g := gb140) (o := .cells #[.int .i64 t135, .slice Ao74 t136.length co74] 30 (0, 0)) (Q0 BK140) hb); replace HB := am (below_step (Q1 HB) hb); (try clear hb); (try clear hb2); (try clear hk); (try clear hi)))
                 (try simp only [Act.put, List.setIfInBounds_toArray, List.set_cons_zero, List.set_cons_succ]); have H := HU124.out; clear HU124
                 by_cases c132 : t147 = true
                 ·subst c132
                  have H1 : (if t146 = (wrap64 (Int.tdiv t102 2)) then (laws_FnFamilies.j5 kj93 l0) else (none)) = some r := by rw [if_pos rfl] at H; exact H
                  clear H; have H := H1; clear H1
                  by_cases c133 : t146 = (wrap64 (Int.tdiv t102 2))
                  ·rw [if_pos c133] at H
                   have c133b0 := beq_iff_eq.mpr c133; have c133b1 := bne_eq_false_iff_eq.mpr c133; clear c133; have H' := Aside0.mk H; clear H
                   go_wp2
                   go_meet
                   case rel => exact ⟨_, H', ⟨by have := HJ18.out; have := HJ42.out; have := HJ74.out; have := HJ91.out; have := HJ93.out; first | omega | exact Nat.le_refl _⟩, ⟨Q15⟩, ⟨Q16⟩, ⟨Q19⟩, ⟨Q20⟩, ⟨Q23⟩, ⟨Q24⟩, ⟨Q0 BK108⟩, ⟨Q0 BK114⟩, ⟨Q0 BK121⟩, ⟨Q0 BK127⟩, ⟨Q0 BK134⟩, ⟨Q0 BK140⟩, ⟨Q1 HB⟩⟩
                  ·rw [if_neg c133] at H
                   exact absurd H (by simp)
                 ·replace c132 := Bool.eq_false_iff.mpr c132
                  subst c132; have H1 : (none) = some r := by rw [if_neg (show ¬ (false = true) by decide)] at H; exact H
                  clear H; have H := H1; clear H1; exact absurd H (by simp)
                ·replace c122 := Bool.eq_false_iff.mpr c122
                 subst c122; have H1 : (laws_FnFamilies.j5 kj93 l0) = some r := by rw [if_neg (show ¬ (false = true) by decide)] at H; exact H
                 clear H; have H := H1; clear H1; have H' := Aside0.mk H; clear H
                 go_wp2
                 go_meet
                 case rel => exact ⟨_, H', ⟨by have := HJ18.out; have := HJ42.out; have := HJ74.out; have := HJ91.out; have := HJ93.out; first | omega | exact Nat.le_refl _⟩, ⟨Q15⟩, ⟨Q16⟩, ⟨Q19⟩, ⟨Q20⟩, ⟨Q23⟩, ⟨Q24⟩, ⟨Q0 BK108⟩, ⟨Q0 BK114⟩, ⟨Q0 BK121⟩, ⟨Q0 BK127⟩, ⟨Q0 BK134⟩, ⟨Q0 BK140⟩, ⟨Q1 HB⟩⟩
               case rest => as_aux_lemma =>
                clear HC121
                try clear c1
                try clear c2
                try clear p2
                try clear c3
                try clear c4
                try clear c5
                try clear c6
                try clear p6
                try clear c7
                try clear c8
                try clear c9
                try clear c10
                try clear c11
                try clear c12
                try clear c13
                try clear c16
                try clear c20
                try clear c20b0
                try clear c20b1
                try clear c20b2
                try clear c21
                try clear c22
                try clear c23
                try clear c24
                try clear c26
                try clear c27
                try clear c28
                try clear c29
                try clear c30
                try clear c32
                try clear c33
                try clear c38
                try clear c39
                try clear c40
                try clear c44
                try clear c44b0
                try clear c44b1
                try clear c44b2
                try clear c46
                try clear c47
                try clear c48
                try clear c50
                try clear c51
                try clear c54
                try clear c60
                try clear c61
                try clear c62
                try clear c63
                try clear p64
                try clear c68
                try clear c69
                try clear c70
                try clear c71
                try clear c72
                try clear c76
                try clear c76b0
                try clear c76b1
                try clear c76b2
                try clear c77
                try clear c77b0
                try clear c77b1
                try clear c77b2
                try clear c79
                try clear c80
                try clear c81
                try clear c82
                try clear c83
                try clear c85
                try clear c86
                try clear c87
                try clear c88
                try clear c91
                try clear c93
                try clear c95
                try clear c99
                try clear c100
                try clear c101
                try clear c102
                try clear c103
                try clear c106
                try clear c107
                try clear c108
                try clear c109
                try clear c112
                try clear c112b0
                try clear c113
                try clear c114
                try clear c115
                try clear c115b0
                try clear c115b1
                try clear c116
                try clear c116b0
                try clear c116b1
                try clear c117
                try clear c118
                try clear c119
                try clear c119b0
                try clear c119b1
                try clear c120
                try clear c120b0
                try clear c120b1
                try clear c122
                try clear c125
                try clear c126
                try clear c127
                try clear c128
                try clear c129
                try clear c132
                try clear c133
                try clear c133b0
                try clear c133b1
                try clear hcz104_0
                try clear hcz104_1
                try clear hcz110_0
                try clear hcz110_1
                try clear hcz12_0
                try clear hcz12_1
                try clear hcz130_0
                try clear hcz130_1
                try clear hcz17_0
                try clear hcz17_1
                try clear hcz23_0
                try clear hcz23_1
                try clear hcz24_0
                try clear hcz24_1
                try clear hcz34_0
                try clear hcz34_1
                try clear hcz41_0
                try clear hcz41_1
                try clear hcz49_0
                try clear hcz49_1
                try clear hcz52_0
                try clear hcz52_1
                try clear hcz64_0
                try clear hcz64_1
                try clear hcz73_0
                try clear hcz73_1
                try clear hcz84_0
                try clear hcz84_1
                try clear hcz89_0
                try clear hcz89_1
                try clear hfz104_0
                try clear hfz104_1
                try clear hfz110_0
                try clear hfz110_1
                try clear hfz12_0
                try clear hfz12_1
                try clear hfz130_0
                try clear hfz130_1
                try clear hfz17_0
                try clear hfz17_1
                try clear hfz23_0
                try clear hfz23_1
                try clear hfz24_0
                try clear hfz24_1
                try clear hfz34_0
                try clear hfz34_1
                try clear hfz41_0
                try clear hfz41_1
                try clear hfz49_0
                try clear hfz49_1
                try clear hfz52_0
                try clear hfz52_1
                try clear hfz64_0
                try clear hfz64_1
                try clear hfz73_0
                try clear hfz73_1
                try clear hfz84_0
                try clear hfz84_1
                try clear hfz89_0
                try clear hfz89_1
                try clear p2
                try clear p6
                try clear p64
                obtain ⟨kq, HA, HJ120, HO_109001, HO_115001, HO_122001, HO_128001, HO_135001, HO_141001, BK108, BK114, BK121, BK127, BK134, BK140, HB⟩ := hcut
                cases kq with
                | zero => exact absurd HA.out (by simp [laws_FnFamilies.j5])
                | succ kj120 =>
                 have H := HA.out; clear HA
                 simp only [laws_FnFamilies.j5] at H
                 replace H := (ob H); obtain ⟨⟨t148, t149, t152, t153⟩, A1340, H⟩ := H; (try dsimp only at H); have A134 := Aside0.mk A1340; clear A1340; replace H := (ob H); obtain ⟨⟨t158, t159, t162⟩, A1350, H⟩ := H; (try dsimp only at H); have A135 := Aside0.mk A1350; clear A1350; replace H := (ob H); obtain ⟨⟨t164, t165, t168⟩, A1360, H⟩ := H; (try dsimp only at H); have A136 := Aside0.mk A1360; clear A1360; have HU137 := Aside0.mk H; clear H
                 go_upto_region 31 with (first | ((with_reducible refine gate_callee (f := 31) rfl ?_); refine goesL_ (some 155) rfl rfl Try.func31 (by kernel_rfl) rfl #[.slice A0 l0.length c0] rfl Q3 ?_; (with_reducible refine (spec_DrawPutBeside.calls kj120 _ _ l0 t148 t149 t152 t153 _ ?side1 ?side2 A134.out).mono ?_); (case side1 => exact (Q9 HR0 HB)); (case side2 => exact HC0.out); rintro e w138 ⟨v150, v154, rfl, ho0, ho1, hb⟩; refine ⟨_, rfl, ?_⟩; have HO151 := am (Kd.R_lower (Kd.R_new' (Kd.R_new' (Kd.R_new' (Kd.R_new' (Kd.R_new' (Kd.R_new' ho0 (Kd.R_lt Q15)) (Kd.R_lt Q16)) (Kd.R_lt Q19)) (Kd.R_lt Q20)) (Kd.R_lt Q23)) (Kd.R_lt Q24)) (below_size (Q1 HB))); have HO155 := am (Kd.R_lower (Kd.R_new' (Kd.R_new' (Kd.R_new' (Kd.R_new' (Kd.R_new' (Kd.R_new' ho1 (Kd.R_lt Q15)) (Kd.R_lt Q16)) (Kd.R_lt Q19)) (Kd.R_lt Q20)) (Kd.R_lt Q23)) (Kd.R_lt Q24)) (below_size (Q1 HB))); replace HO_109001 := am (Kd.R_mono (Kd.R_told (Kd.R_told (Kd.R_old Q15 hb) (Kd.R_base ho0)) (Kd.R_base ho1)) (fun _ h_ => h_.1)); replace HO_115001 := am (Kd.R_mono (Kd.R_told (Kd.R_told (Kd.R_old Q16 hb) (Kd.R_base ho0)) (Kd.R_base ho1)) (fun _ h_ => h_.1)); replace HO_122001 := am (Kd.R_mono (Kd.R_told (Kd.R_told (Kd.R_old Q19 hb) (Kd.R_base ho0)) (Kd.R_base ho1)) (fun _ h_ => h_.1)); replace HO_128001 := am (Kd.R_mono (Kd.R_told (Kd.R_told (Kd.R_old Q20 hb) (Kd.R_base ho0)) (Kd.R_base ho1)) (fun _ h_ => h_.1)); replace HO_135001 := am (Kd.R_mono (Kd.R_told (Kd.R_told (Kd.R_old Q23 hb) (Kd.R_base ho0)) (Kd.R_base ho1)) (fun _ h_ => h_.1)); replace HO_141001 := am (Kd.R_mono (Kd.R_told (Kd.R_told (Kd.R_old Q24 hb) (Kd.R_base ho0)) (Kd.R_base ho1)) (fun _ h_ => h_.1)); replace BK108 := am (blk_below (g := gb108) (o := .cells #[.int .i64 t103, .slice Ao13 t104.length co13] 30 (0, 0)) (Q0 BK108) hb); replace BK114 := am (blk_below (g := gb114) (o := .cells #[.int .i64 t109, .slice Ao18 t110.length co18] 30 (0, 0)) (Q0 BK114) hb); replace BK121 := am (blk_below (g := gb121) (o := .cells #[.int .i64 t116, .slice Ao35 t117.length co35] 30 (0, 0)) (Q0 BK121) hb); replace BK127 := am (blk_below (g := gb127) (o := .cells #[.int .i64 t122, .slice Ao42 t123.length co42] 30 (0, 0)) (Q0 BK127) hb); replace BK134 := am (blk_below (g := gb134) (o := .cells #[.int .i64 t129, .slice Ao65 t130.length co65] 30 (0, 0)) (Q0 BK134) hb); replace BK140 := am (blk_below (g := gb140) (o := .cells #[.int .i64 t135, .slice Ao74 t136.length co74] 30 (0, 0)) (Q0 BK140) hb); replace HB := am (below_step (Q1 HB) hb); (try clear hb); (try clear hb2); (try clear hk); (try clear hi); (try clear ho0); (try clear ho1)) | ((with_reducible refine gate_dst (N := 23) rfl ?_); (try (refine gate_guard (by rfl) ?_; dsimp only)); refine box_event ?hg (N := 23) ?hd (cs := #[.int .i64 0, .slice none 0 0]) (t := 30) ?hr ?_; (case hd => rfl); (case hg => rfl); (case hr => first | (go_simp; done) | (go_simp; rfl)); intro gb156 hg w139 hbox hb; replace HO_109001 := am (Kd.R_below Q15 hb); replace HO_115001 := am (Kd.R_below Q16 hb); replace HO_122001 := am (Kd.R_below Q19 hb); replace HO_128001 := am (Kd.R_below Q20 hb); replace HO_135001 := am (Kd.R_below Q23 hb); replace HO_141001 := am (Kd.R_below Q24 hb); replace HO151 := am (Kd.R_below (Q6 HO151) hb); replace HO155 := am (Kd.R_below (Q6 HO155) hb); have BK156 := am (hbox); have GW156 := am ((Q25 : w.heap.size ≤ gb156)); have GE156 := am ((Q25 : w.heap.size ≤ gb156)); replace HB := am (below_step (Q1 HB) hb); have NB108_156 := am ((Q46 : gb108 ≠ gb156)); have NB156_108 := am ((Q47 : gb156 ≠ gb108)); replace BK108 := am (blk_below (g := gb108) (o := .cells #[.int .i64 t103, .slice Ao13 t104.length co13] 30 (0, 0)) (Q0 BK108) hb); have NB114_156 := am ((Q50 : gb114 ≠ gb156)); have NB156_114 := am ((Q51 : gb156 ≠ gb114)); replace BK114 := am (blk_below (g := gb114) (o := .cells #[.int .i64 t109, .slice Ao18 t110.length co18] 30 (0, 0)) (Q0 BK114) hb); have NB121_156 := am ((Q53 : gb121 ≠ gb156)); have NB156_121 := am ((Q54 : gb156 ≠ gb121)); replace BK121 := am (blk_below (g := gb121) (o := .cells #[.int .i64 t116, .slice Ao35 t117.length co35] 30 (0, 0)) (Q0 BK121) hb); have NB127_156 := am ((Q58 : gb127 ≠ gb156)); have NB156_127 := am ((Q59 : gb156 ≠ gb127)); replace BK127 := am (blk_below (g := gb127) (o := .cells #[.int .i64 t122, .slice Ao42 t123.length co42] 30 (0, 0)) (Q0 BK127) hb); have NB134_156 := am ((Q65 : gb134 ≠ gb156)); have NB156_134 := am ((Q66 : gb156 ≠ gb134)); replace BK134 := am (blk_below (g := gb134) (o := .cells #[.int .i64 t129, .slice Ao65 t130.length co65] 30 (0, 0)) (Q0 BK134) hb); have NB140_156 := am ((Q69 : gb140 ≠ gb156)); have NB156_140 := am ((Q70 : gb156 ≠ gb140)); replace BK140 := am (blk_below (g := gb140) (o := .cells #[.int .i64 t135, .slice Ao74 t136.length co74] 30 (0, 0)) (Q0 BK140) hb); clear hb hbox hg) | ((with_reducible refine gate_dst (N := 24) rfl ?_); (try (refine gate_guard (by rfl) ?_; dsimp only)); refine box_event ?hg (N := 24) ?hd (cs := #[.int .i64 0, .slice none 0 0]) (t := 30) ?hr ?_; (case hd => rfl); (case hg => rfl); (case hr => first | (go_simp; done) | (go_simp; rfl)); intro gb157 hg w140 hbox hb; replace HO_109001 := am (Kd.R_below Q15 hb); replace HO_115001 := am (Kd.R_below Q16 hb); replace HO_122001 := am (Kd.R_below Q19 hb); replace HO_128001 := am (Kd.R_below Q20 hb); replace HO_135001 := am (Kd.R_below Q23 hb); replace HO_141001 := am (Kd.R_below Q24 hb); replace HO151 := am (Kd.R_below (Q6 HO151) hb); replace HO155 := am (Kd.R_below (Q6 HO155) hb); have BK157 := am (hbox); have GW157 := am ((Q25 : w.heap.size ≤ gb157)); have GE157 := am ((Q25 : w.heap.size ≤ gb157)); replace HB := am (below_step (Q1 HB) hb); have NB108_157 := am ((Q46 : gb108 ≠ gb157)); have NB157_108 := am ((Q47 : gb157 ≠ gb108)); replace BK108 := am (blk_below (g := gb108) (o := .cells #[.int .i64 t103, .slice Ao13 t104.length co13] 30 (0, 0)) (Q0 BK108) hb); have NB114_157 := am ((Q50 : gb114 ≠ gb157)); have NB157_114 := am ((Q51 : gb157 ≠ gb114)); replace BK114 := am (blk_below (g := gb114) (o := .cells #[.int .i64 t109, .slice Ao18 t110.length co18] 30 (0, 0)) (Q0 BK114) hb); have NB121_157 := am ((Q53 : gb121 ≠ gb157)); have NB157_121 := am ((Q54 : gb157 ≠ gb121)); replace BK121 := am (blk_below (g := gb121) (o := .cells #[.int .i64 t116, .slice Ao35 t117.length co35] 30 (0, 0)) (Q0 BK121) hb); have NB127_157 := am ((Q58 : gb127 ≠ gb157)); have NB157_127 := am ((Q59 : gb157 ≠ gb127)); replace BK127 := am (blk_below (g := gb127) (o := .cells #[.int .i64 t122, .slice Ao42 t123.length co42] 30 (0, 0)) (Q0 BK127) hb); have NB134_157 := am ((Q65 : gb134 ≠ gb157)); have NB157_134 := am ((Q66 : gb157 ≠ gb134)); replace BK134 := am (blk_below (g := gb134) (o := .cells #[.int .i64 t129, .slice Ao65 t130.length co65] 30 (0, 0)) (Q0 BK134) hb); have NB140_157 := am ((Q69 : gb140 ≠ gb157)); have NB157_140 := am ((Q70 : gb157 ≠ gb140)); replace BK140 := am (blk_below (g := gb140) (o := .cells #[.int .i64 t135, .slice Ao74 t136.length co74] 30 (0, 0)) (Q0 BK140) hb); have NB156_157 := am ((by rw [hg]; exact Nat.ne_of_lt (blk_lt (g := gb156) (o := .cells #[.int .i64 0, .slice none 0 0] 30 (0, 0)) (Q0 BK156)) : gb156 ≠ gb157)); have NB157_156 := am ((by rw [hg]; exact Nat.ne_of_gt (blk_lt (g := gb156) (o := .cells #[.int .i64 0, .slice none 0 0] 30 (0, 0)) (Q0 BK156)) : gb157 ≠ gb156)); replace BK156 := am (blk_below (g := gb156) (o := .cells #[.int .i64 0, .slice none 0 0] 30 (0, 0)) (Q0 BK156) hb); clear hb hbox hg; have hnb141 := NB156_108.out; have hnc141 := NB108_156.out; have hnb142 := NB156_114.out; have hnc142 := NB114_156.out; have hnb143 := NB156_121.out; have hnc143 := NB121_156.out; have hnb144 := NB156_127.out; have hnc144 := NB127_156.out; have hnb145 := NB156_134.out; have hnc145 := NB134_156.out; have hnb146 := NB156_140.out; have hnc146 := NB140_156.out; have hnb147 := NB156_157.out; have hnc147 := NB157_156.out; have hcz148_0 : w140.cell? ⟨gb156, 0, none⟩ = some (.int .i64 0) := (blk_cell BK156.out 0).trans rfl; have hcz148_1 : w140.cell? ⟨gb156, 1, none⟩ = some (.slice none 0 0) := (blk_cell BK156.out 1).trans rfl; have hfz148_0 := blk_frozen BK156.out 0; have hfz148_1 := blk_frozen BK156.out 1; obtain ⟨Ao149, co149, eo149⟩ := Kd.R_slice HO151.out; subst eo149; have hnb150 := NB157_108.out; have hnc150 := NB108_157.out; have hnb151 := NB157_114.out; have hnc151 := NB114_157.out; have hnb152 := NB157_121.out; have hnc152 := NB121_157.out; have hnb153 := NB157_127.out; have hnc153 := NB127_157.out; have hnb154 := NB157_134.out; have hnc154 := NB134_157.out; have hnb155 := NB157_140.out; have hnc155 := NB140_157.out; have hcz156_0 : w140.cell? ⟨gb157, 0, none⟩ = some (.int .i64 0) := (blk_cell BK157.out 0).trans rfl; have hcz156_1 : w140.cell? ⟨gb157, 1, none⟩ = some (.slice none 0 0) := (blk_cell BK157.out 1).trans rfl; have hfz156_0 := blk_frozen BK157.out 0; have hfz156_1 := blk_frozen BK157.out 1; obtain ⟨Ao157, co157, eo157⟩ := Kd.R_slice HO155.out; subst eo157) | ((with_reducible refine gate_callee (f := 32) rfl ?_); refine goesL_ (some 161) rfl rfl Try.func32 (by kernel_rfl) rfl #[.agg #[.int .i64 t148, .slice Ao149 t149.length co149], .agg #[.int .i64 t152, .slice Ao157 t153.length co157]] rfl Q3 ?_; (with_reducible refine (impl_PutBeside.calls kj120 t148 _ _ t149 t152 _ _ t153 t158 t159 t162 _ ?side1 ?side2 ?side3 ?side4 A135.out).mono ?_); (case side1 => refine (Kd.R_reads' (e := 71) (base := w.heap.size) (ok := fun k_ => ((((((some k_ ≠ (.slice Ao157 t153.length co157 : Value).ownBlock ∧ some k_ ≠ (.slice Ao13 t104.length co13 : Value).ownBlock) ∧ some k_ ≠ (.slice Ao18 t110.length co18 : Value).ownBlock) ∧ some k_ ≠ (.slice Ao35 t117.length co35 : Value).ownBlock) ∧ some k_ ≠ (.slice Ao42 t123.length co42 : Value).ownBlock) ∧ some k_ ≠ (.slice Ao65 t130.length co65 : Value).ownBlock) ∧ some k_ ≠ (.slice Ao74 t136.length co74 : Value).ownBlock)) (n := t149.length) (c := co149) ?_).2.2; exact (Q21 HO151 BK156 BK157)); (case side2 => exact (Kd.R_reads' HO151.out).2.1); (case side3 => refine (Kd.R_reads' (e := 71) (base := w.heap.size) (ok := fun k_ => ((((((some k_ ≠ (.slice Ao149 t149.length co149 : Value).ownBlock ∧ some k_ ≠ (.slice Ao13 t104.length co13 : Value).ownBlock) ∧ some k_ ≠ (.slice Ao18 t110.length co18 : Value).ownBlock) ∧ some k_ ≠ (.slice Ao35 t117.length co35 : Value).ownBlock) ∧ some k_ ≠ (.slice Ao42 t123.length co42 : Value).ownBlock) ∧ some k_ ≠ (.slice Ao65 t130.length co65 : Value).ownBlock) ∧ some k_ ≠ (.slice Ao74 t136.length co74 : Value).ownBlock)) (n := t153.length) (c := co157) ?_).2.2; exact (Q21 HO155 BK156 BK157)); (case side4 => exact (Kd.R_reads' HO155.out).2.1); rintro e w158 ⟨v160, rfl, ho0, hb⟩; refine ⟨_, rfl, ?_⟩; have HO161 := am (Kd.R_lower (Kd.R_new' (Kd.R_new' (Kd.R_new' (Kd.R_new' (Kd.R_new' (Kd.R_new' (Kd.R_new' (Kd.R_new' ho0 (Kd.R_lt (Q87 BK156 BK157))) (Kd.R_lt (Q88 BK156 BK157))) (Kd.R_lt (Q89 BK156 BK157))) (Kd.R_lt (Q90 BK156 BK157))) (Kd.R_lt (Q91 BK156 BK157))) (Kd.R_lt (Q92 BK156 BK157))) (Kd.R_lt (Q21 HO151 BK156 BK157))) (Kd.R_lt (Q21 HO155 BK156 BK157))) (below_size (Q39 HB GE156 GE157))); replace HO_109001 := am (Kd.R_elder' (Q87 BK156 BK157) (Kd.R_base ho0) hb); replace HO_115001 := am (Kd.R_elder' (Q88 BK156 BK157) (Kd.R_base ho0) hb); replace HO_122001 := am (Kd.R_elder' (Q89 BK156 BK157) (Kd.R_base ho0) hb); replace HO_128001 := am (Kd.R_elder' (Q90 BK156 BK157) (Kd.R_base ho0) hb); replace HO_135001 := am (Kd.R_elder' (Q91 BK156 BK157) (Kd.R_base ho0) hb); replace HO_141001 := am (Kd.R_elder' (Q92 BK156 BK157) (Kd.R_base ho0) hb); replace HO151 := am (Kd.R_elder' (Q21 HO151 BK156 BK157) (Kd.R_base ho0) hb); replace HO155 := am (Kd.R_elder' (Q21 HO155 BK156 BK157) (Kd.R_base ho0) hb); replace BK108 := am (blk_below (g := gb108) (o := .cells #[.int .i64 t103, .slice Ao13 t104.length co13] 30 (0, 0)) (Q18 NB108_157 NB108_156 BK108) hb); replace BK114 := am (blk_below (g := gb114) (o := .cells #[.int .i64 t109, .slice Ao18 t110.length co18] 30 (0, 0)) (Q18 NB114_157 NB114_156 BK114) hb); replace BK121 := am (blk_below (g := gb121) (o := .cells #[.int .i64 t116, .slice Ao35 t117.length co35] 30 (0, 0)) (Q18 NB121_157 NB121_156 BK121) hb); replace BK127 := am (blk_below (g := gb127) (o := .cells #[.int .i64 t122, .slice Ao42 t123.length co42] 30 (0, 0)) (Q18 NB127_157 NB127_156 BK127) hb); replace BK134 := am (blk_below (g := gb134) (o := .cells #[.int .i64 t129, .slice Ao65 t130.length co65] 30 (0, 0)) (Q18 NB134_157 NB134_156 BK134) hb); replace BK140 := am (blk_below (g := gb140) (o := .cells #[.int .i64 t135, .slice Ao74 t136.length co74] 30 (0, 0)) (Q18 NB140_157 NB140_156 BK140) hb); replace BK156 := am (blk_below (g := gb156) (o := .cells #[.int .i64 t148, .slice Ao149 t149.length co149] 30 (0, 0)) (by (with_reducible repeat (first | refine blk_drewN ?_ _ | refine blk_drew ?_ | refine blk_alloc ?_ _)); refine blk_far ?_ NB156_157.out _; (with_reducible repeat (first | refine blk_drewN ?_ _ | refine blk_drew ?_ | refine blk_alloc ?_ _)); refine blk_far ?_ NB156_157.out _; (with_reducible repeat (first | refine blk_drewN ?_ _ | refine blk_drew ?_ | refine blk_alloc ?_ _)); refine blk_put (cs := #[.int .i64 t148, .slice none 0 0]) ?_ 1 _ rfl; (with_reducible repeat (first | refine blk_drewN ?_ _ | refine blk_drew ?_ | refine blk_alloc ?_ _)); refine blk_put (cs := #[.int .i64 0, .slice none 0 0]) ?_ 0 _ rfl; (with_reducible repeat (first | refine blk_drewN ?_ _ | refine blk_drew ?_ | refine blk_alloc ?_ _)); exact BK156.out) hb); replace BK157 := am (blk_below (g := gb157) (o := .cells #[.int .i64 t152, .slice Ao157 t153.length co157] 30 (0, 0)) (by (with_reducible repeat (first | refine blk_drewN ?_ _ | refine blk_drew ?_ | refine blk_alloc ?_ _)); refine blk_put (cs := #[.int .i64 t152, .slice none 0 0]) ?_ 1 _ rfl; (with_reducible repeat (first | refine blk_drewN ?_ _ | refine blk_drew ?_ | refine blk_alloc ?_ _)); refine blk_put (cs := #[.int .i64 0, .slice none 0 0]) ?_ 0 _ rfl; (with_reducible repeat (first | refine blk_drewN ?_ _ | refine blk_drew ?_ | refine blk_alloc ?_ _)); refine blk_far ?_ NB157_156.out _; (with_reducible repeat (first | refine blk_drewN ?_ _ | refine blk_drew ?_ | refine blk_alloc ?_ _)); refine blk_far ?_ NB157_156.out _; (with_reducible repeat (first | refine blk_drewN ?_ _ | refine blk_drew ?_ | refine blk_alloc ?_ _)); exact BK157.out) hb); replace HB := am (below_step (Q39 HB GE156 GE157) hb); (try clear hb); (try clear hb2); (try clear hk); (try clear hi); (try clear ho0)) | ((with_reducible refine gate_dst (N := 25) rfl ?_); (try (refine gate_guard (by rfl) ?_; dsimp only)); refine box_event ?hg (N := 25) ?hd (cs := #[.int .i64 0, .slice none 0 0]) (t := 30) ?hr ?_; (case hd => rfl); (case hg => rfl); (case hr => first | (go_simp; done) | (go_simp; rfl)); intro gb163 hg w159 hbox hb; replace HO_109001 := am (Kd.R_below Q15 hb); replace HO_115001 := am (Kd.R_below Q16 hb); replace HO_122001 := am (Kd.R_below Q19 hb); replace HO_128001 := am (Kd.R_below Q20 hb); replace HO_135001 := am (Kd.R_below Q23 hb); replace HO_141001 := am (Kd.R_below Q24 hb); replace HO151 := am (Kd.R_below (Q6 HO151) hb); replace HO155 := am (Kd.R_below (Q6 HO155) hb); replace HO161 := am (Kd.R_below (Q6 HO161) hb); have BK163 := am (hbox); have GW163 := am ((Q25 : w.heap.size ≤ gb163)); have GE163 := am ((Q25 : w.heap.size ≤ gb163)); replace HB := am (below_step (Q1 HB) hb); have NB108_163 := am ((Q46 : gb108 ≠ gb163)); have NB163_108 := am ((Q47 : gb163 ≠ gb108)); replace BK108 := am (blk_below (g := gb108) (o := .cells #[.int .i64 t103, .slice Ao13 t104.length co13] 30 (0, 0)) (Q0 BK108) hb); have NB114_163 := am ((Q50 : gb114 ≠ gb163)); have NB163_114 := am ((Q51 : gb163 ≠ gb114)); replace BK114 := am (blk_below (g := gb114) (o := .cells #[.int .i64 t109, .slice Ao18 t110.length co18] 30 (0, 0)) (Q0 BK114) hb); have NB121_163 := am ((Q53 : gb121 ≠ gb163)); have NB163_121 := am ((Q54 : gb163 ≠ gb121)); replace BK121 := am (blk_below (g := gb121) (o := .cells #[.int .i64 t116, .slice Ao35 t117.length co35] 30 (0, 0)) (Q0 BK121) hb); have NB127_163 := am ((Q58 : gb127 ≠ gb163)); have NB163_127 := am ((Q59 : gb163 ≠ gb127)); replace BK127 := am (blk_below (g := gb127) (o := .cells #[.int .i64 t122, .slice Ao42 t123.length co42] 30 (0, 0)) (Q0 BK127) hb); have NB134_163 := am ((Q65 : gb134 ≠ gb163)); have NB163_134 := am ((Q66 : gb163 ≠ gb134)); replace BK134 := am (blk_below (g := gb134) (o := .cells #[.int .i64 t129, .slice Ao65 t130.length co65] 30 (0, 0)) (Q0 BK134) hb); have NB140_163 := am ((Q69 : gb140 ≠ gb163)); have NB163_140 := am ((Q70 : gb163 ≠ gb140)); replace BK140 := am (blk_below (g := gb140) (o := .cells #[.int .i64 t135, .slice Ao74 t136.length co74] 30 (0, 0)) (Q0 BK140) hb); have NB156_163 := am ((Q103 : gb156 ≠ gb163)); have NB163_156 := am ((Q104 : gb163 ≠ gb156)); replace BK156 := am (blk_below (g := gb156) (o := .cells #[.int .i64 t148, .slice Ao149 t149.length co149] 30 (0, 0)) (Q0 BK156) hb); have NB157_163 := am ((Q105 : gb157 ≠ gb163)); have NB163_157 := am ((Q106 : gb163 ≠ gb157)); replace BK157 := am (blk_below (g := gb157) (o := .cells #[.int .i64 t152, .slice Ao157 t153.length co157] 30 (0, 0)) (Q0 BK157) hb); clear hb hbox hg; have hnb160 := NB163_108.out; have hnc160 := NB108_163.out; have hnb161 := NB163_114.out; have hnc161 := NB114_163.out; have hnb162 := NB163_121.out; have hnc162 := NB121_163.out; have hnb163 := NB163_127.out; have hnc163 := NB127_163.out; have hnb164 := NB163_134.out; have hnc164 := NB134_163.out; have hnb165 := NB163_140.out; have hnc165 := NB140_163.out; have hnb166 := NB163_156.out; have hnc166 := NB156_163.out; have hnb167 := NB163_157.out; have hnc167 := NB157_163.out; have hcz168_0 : w159.cell? ⟨gb163, 0, none⟩ = some (.int .i64 0) := (blk_cell BK163.out 0).trans rfl; have hcz168_1 : w159.cell? ⟨gb163, 1, none⟩ = some (.slice none 0 0) := (blk_cell BK163.out 1).trans rfl; have hfz168_0 := blk_frozen BK163.out 0; have hfz168_1 := blk_frozen BK163.out 1; obtain ⟨Ao169, co169, eo169⟩ := Kd.R_slice HO161.out; subst eo169; have hcz170_0 : w159.cell? ⟨gb156, 0, none⟩ = some (.int .i64 t148) := (blk_cell BK156.out 0).trans rfl; have hcz170_1 : w159.cell? ⟨gb156, 1, none⟩ = some (.slice Ao149 t149.length co149) := (blk_cell BK156.out 1).trans rfl; have hfz170_0 := blk_frozen BK156.out 0; have hfz170_1 := blk_frozen BK156.out 1; have hcz171_0 : w159.cell? ⟨gb157, 0, none⟩ = some (.int .i64 t152) := (blk_cell BK157.out 0).trans rfl; have hcz171_1 : w159.cell? ⟨gb157, 1, none⟩ = some (.slice Ao157 t153.length co157) := (blk_cell BK157.out 1).trans rfl; have hfz171_0 := blk_frozen BK157.out 0; have hfz171_1 := blk_frozen BK157.out 1) | ((with_reducible refine gate_callee (f := 33) rfl ?_); refine goesL_ (some 167) rfl rfl Try.func33 (by kernel_rfl) rfl #[.agg #[.int .i64 t148, .slice Ao149 t149.length co149], .agg #[.int .i64 t152, .slice Ao157 t153.length co157]] rfl Q3 ?_; (with_reducible refine (spec_PutBeside.calls kj120 t148 _ _ t149 t152 _ _ t153 t164 t165 t168 _ ?side1 ?side2 ?side3 ?side4 A136.out).mono ?_); (case side1 => refine (Kd.R_reads' (e := 71) (base := w.heap.size) (ok := fun k_ => (((((((some k_ ≠ (.slice Ao157 t153.length co157 : Value).ownBlock ∧ some k_ ≠ (.slice Ao13 t104.length co13 : Value).ownBlock) ∧ some k_ ≠ (.slice Ao18 t110.length co18 : Value).ownBlock) ∧ some k_ ≠ (.slice Ao35 t117.length co35 : Value).ownBlock) ∧ some k_ ≠ (.slice Ao42 t123.length co42 : Value).ownBlock) ∧ some k_ ≠ (.slice Ao65 t130.length co65 : Value).ownBlock) ∧ some k_ ≠ (.slice Ao74 t136.length co74 : Value).ownBlock) ∧ some k_ ≠ (.slice Ao169 t159.length co169 : Value).ownBlock)) (n := t149.length) (c := co149) ?_).2.2; exact (Q33 HO151 BK163)); (case side2 => exact (Kd.R_reads' HO151.out).2.1); (case side3 => refine (Kd.R_reads' (e := 71) (base := w.heap.size) (ok := fun k_ => (((((((some k_ ≠ (.slice Ao149 t149.length co149 : Value).ownBlock ∧ some k_ ≠ (.slice Ao13 t104.length co13 : Value).ownBlock) ∧ some k_ ≠ (.slice Ao18 t110.length co18 : Value).ownBlock) ∧ some k_ ≠ (.slice Ao35 t117.length co35 : Value).ownBlock) ∧ some k_ ≠ (.slice Ao42 t123.length co42 : Value).ownBlock) ∧ some k_ ≠ (.slice Ao65 t130.length co65 : Value).ownBlock) ∧ some k_ ≠ (.slice Ao74 t136.length co74 : Value).ownBlock) ∧ some k_ ≠ (.slice Ao169 t159.length co169 : Value).ownBlock)) (n := t153.length) (c := co157) ?_).2.2; exact (Q33 HO155 BK163)); (case side4 => exact (Kd.R_reads' HO155.out).2.1); rintro e w172 ⟨v166, rfl, ho0, hb⟩; refine ⟨_, rfl, ?_⟩; have HO167 := am (Kd.R_lower (Kd.R_new' (Kd.R_new' (Kd.R_new' (Kd.R_new' (Kd.R_new' (Kd.R_new' (Kd.R_new' (Kd.R_new' (Kd.R_new' ho0 (Kd.R_lt (Q114 BK163))) (Kd.R_lt (Q115 BK163))) (Kd.R_lt (Q116 BK163))) (Kd.R_lt (Q117 BK163))) (Kd.R_lt (Q118 BK163))) (Kd.R_lt (Q119 BK163))) (Kd.R_lt (Q33 HO151 BK163))) (Kd.R_lt (Q33 HO155 BK163))) (Kd.R_lt (Q33 HO161 BK163))) (below_size (Q5 HB GE163))); replace HO_109001 := am (Kd.R_elder' (Q114 BK163) (Kd.R_base ho0) hb); replace HO_115001 := am (Kd.R_elder' (Q115 BK163) (Kd.R_base ho0) hb); replace HO_122001 := am (Kd.R_elder' (Q116 BK163) (Kd.R_base ho0) hb); replace HO_128001 := am (Kd.R_elder' (Q117 BK163) (Kd.R_base ho0) hb); replace HO_135001 := am (Kd.R_elder' (Q118 BK163) (Kd.R_base ho0) hb); replace HO_141001 := am (Kd.R_elder' (Q119 BK163) (Kd.R_base ho0) hb); replace HO151 := am (Kd.R_elder' (Q33 HO151 BK163) (Kd.R_base ho0) hb); replace HO155 := am (Kd.R_elder' (Q33 HO155 BK163) (Kd.R_base ho0) hb); replace HO161 := am (Kd.R_elder' (Q33 HO161 BK163) (Kd.R_base ho0) hb); replace BK108 := am (blk_below (g := gb108) (o := .cells #[.int .i64 t103, .slice Ao13 t104.length co13] 30 (0, 0)) (Q2 NB108_163 BK108) hb); replace BK114 := am (blk_below (g := gb114) (o := .cells #[.int .i64 t109, .slice Ao18 t110.length co18] 30 (0, 0)) (Q2 NB114_163 BK114) hb); replace BK121 := am (blk_below (g := gb121) (o := .cells #[.int .i64 t116, .slice Ao35 t117.length co35] 30 (0, 0)) (Q2 NB121_163 BK121) hb); replace BK127 := am (blk_below (g := gb127) (o := .cells #[.int .i64 t122, .slice Ao42 t123.length co42] 30 (0, 0)) (Q2 NB127_163 BK127) hb); replace BK134 := am (blk_below (g := gb134) (o := .cells #[.int .i64 t129, .slice Ao65 t130.length co65] 30 (0, 0)) (Q2 NB134_163 BK134) hb); replace BK140 := am (blk_below (g := gb140) (o := .cells #[.int .i64 t135, .slice Ao74 t136.length co74] 30 (0, 0)) (Q2 NB140_163 BK140) hb); replace BK156 := am (blk_below (g := gb156) (o := .cells #[.int .i64 t148, .slice Ao149 t149.length co149] 30 (0, 0)) (Q2 NB156_163 BK156) hb); replace BK157 := am (blk_below (g := gb157) (o := .cells #[.int .i64 t152, .slice Ao157 t153.length co157] 30 (0, 0)) (Q2 NB157_163 BK157) hb); replace BK163 := am (blk_below (g := gb163) (o := .cells #[.int .i64 t158, .slice Ao169 t159.length co169] 30 (0, 0)) (by (with_reducible repeat (first | refine blk_drewN ?_ _ | refine blk_drew ?_ | refine blk_alloc ?_ _)); refine blk_put (cs := #[.int .i64 t158, .slice none 0 0]) ?_ 1 _ rfl; (with_reducible repeat (first | refine blk_drewN ?_ _ | refine blk_drew ?_ | refine blk_alloc ?_ _)); refine blk_put (cs := #[.int .i64 0, .slice none 0 0]) ?_ 0 _ rfl; (with_reducible repeat (first | refine blk_drewN ?_ _ | refine blk_drew ?_ | refine blk_alloc ?_ _)); exact BK163.out) hb); replace HB := am (below_step (Q5 HB GE163) hb); (try clear hb); (try clear hb2); (try clear hk); (try clear hi); (try clear ho0)) | ((with_reducible refine gate_dst (N := 27) rfl ?_); (try (refine gate_guard (by rfl) ?_; dsimp only)); refine box_event ?hg (N := 27) ?hd (cs := #[.int .i64 0, .slice none 0 0]) (t := 30) ?hr ?_; (case hd => rfl); (case hg => rfl); (case hr => first | (go_simp; done) | (go_simp; rfl)); intro gb169 hg w173 hbox hb; replace HO_109001 := am (Kd.R_below Q15 hb); replace HO_115001 := am (Kd.R_below Q16 hb); replace HO_122001 := am (Kd.R_below Q19 hb); replace HO_128001 := am (Kd.R_below Q20 hb); replace HO_135001 := am (Kd.R_below Q23 hb); replace HO_141001 := am (Kd.R_below Q24 hb); replace HO151 := am (Kd.R_below (Q6 HO151) hb); replace HO155 := am (Kd.R_below (Q6 HO155) hb); replace HO161 := am (Kd.R_below (Q6 HO161) hb); replace HO167 := am (Kd.R_below (Q6 HO167) hb); have BK169 := am (hbox); have GW169 := am ((Q25 : w.heap.size ≤ gb169)); have GE169 := am ((Q25 : w.heap.size ≤ gb169)); replace HB := am (below_step (Q1 HB) hb); have NB108_169 := am ((Q46 : gb108 ≠ gb169)); have NB169_108 := am ((Q47 : gb169 ≠ gb108)); replace BK108 := am (blk_below (g := gb108) (o := .cells #[.int .i64 t103, .slice Ao13 t104.length co13] 30 (0, 0)) (Q0 BK108) hb); have NB114_169 := am ((Q50 : gb114 ≠ gb169)); have NB169_114 := am ((Q51 : gb169 ≠ gb114)); replace BK114 := am (blk_below (g := gb114) (o := .cells #[.int .i64 t109, .slice Ao18 t110.length co18] 30 (0, 0)) (Q0 BK114) hb); have NB121_169 := am ((Q53 : gb121 ≠ gb169)); have NB169_121 := am ((Q54 : gb169 ≠ gb121)); replace BK121 := am (blk_below (g := gb121) (o := .cells #[.int .i64 t116, .slice Ao35 t117.length co35] 30 (0, 0)) (Q0 BK121) hb); have NB127_169 := am ((Q58 : gb127 ≠ gb169)); have NB169_127 := am ((Q59 : gb169 ≠ gb127)); replace BK127 := am (blk_below (g := gb127) (o := .cells #[.int .i64 t122, .slice Ao42 t123.length co42] 30 (0, 0)) (Q0 BK127) hb); have NB134_169 := am ((Q65 : gb134 ≠ gb169)); have NB169_134 := am ((Q66 : gb169 ≠ gb134)); replace BK134 := am (blk_below (g := gb134) (o := .cells #[.int .i64 t129, .slice Ao65 t130.length co65] 30 (0, 0)) (Q0 BK134) hb); have NB140_169 := am ((Q69 : gb140 ≠ gb169)); have NB169_140 := am ((Q70 : gb169 ≠ gb140)); replace BK140 := am (blk_below (g := gb140) (o := .cells #[.int .i64 t135, .slice Ao74 t136.length co74] 30 (0, 0)) (Q0 BK140) hb); have NB156_169 := am ((Q103 : gb156 ≠ gb169)); have NB169_156 := am ((Q104 : gb169 ≠ gb156)); replace BK156 := am (blk_below (g := gb156) (o := .cells #[.int .i64 t148, .slice Ao149 t149.length co149] 30 (0, 0)) (Q0 BK156) hb); have NB157_169 := am ((Q105 : gb157 ≠ gb169)); have NB169_157 := am ((Q106 : gb169 ≠ gb157)); replace BK157 := am (blk_below (g := gb157) (o := .cells #[.int .i64 t152, .slice Ao157 t153.length co157] 30 (0, 0)) (Q0 BK157) hb); have NB163_169 := am ((Q156 : gb163 ≠ gb169)); have NB169_163 := am ((Q157 : gb169 ≠ gb163)); replace BK163 := am (blk_below (g := gb163) (o := .cells #[.int .i64 t158, .slice Ao169 t159.length co169] 30 (0, 0)) (Q0 BK163) hb); clear hb hbox hg; have hnb174 := NB169_108.out; have hnc174 := NB108_169.out; have hnb175 := NB169_114.out; have hnc175 := NB114_169.out; have hnb176 := NB169_121.out; have hnc176 := NB121_169.out; have hnb177 := NB169_127.out; have hnc177 := NB127_169.out; have hnb178 := NB169_134.out; have hnc178 := NB134_169.out; have hnb179 := NB169_140.out; have hnc179 := NB140_169.out; have hnb180 := NB169_156.out; have hnc180 := NB156_169.out; have hnb181 := NB169_157.out; have hnc181 := NB157_169.out; have hnb182 := NB169_163.out; have hnc182 := NB163_169.out; have hcz183_0 : w173.cell? ⟨gb169, 0, none⟩ = some (.int .i64 0) := (blk_cell BK169.out 0).trans rfl; have hcz183_1 : w173.cell? ⟨gb169, 1, none⟩ = some (.slice none 0 0) := (blk_cell BK169.out 1).trans rfl; have hfz183_0 := blk_frozen BK169.out 0; have hfz183_1 := blk_frozen BK169.out 1; obtain ⟨Ao184, co184, eo184⟩ := Kd.R_slice HO167.out; subst eo184))
                 (try simp only [Act.put, List.setIfInBounds_toArray, List.set_cons_zero, List.set_cons_succ]); have H := HU137.out; clear HU137; have HC185 := Aside0.mk H; clear H
                 go_upto_region 31 with (fail)
                 go_cut [178] (fun v178 wc => ∃ (kq : Nat) (x178_184 : Bool), v178 = .bool x178_184 ∧ Aside0 (laws_FnFamilies.j6 kq t162 x178_184 t148 t149 t152 t153 t158 t159 = some r) ∧ Aside0 (kq ≤ kj120) ∧ Aside0 (Kd.R k71 71 wc w.heap.size (fun k_ => some k_ ≠ ((.slice Ao18 t110.length co18) : Value).ownBlock ∧ some k_ ≠ ((.slice Ao35 t117.length co35) : Value).ownBlock ∧ some k_ ≠ ((.slice Ao42 t123.length co42) : Value).ownBlock ∧ some k_ ≠ ((.slice Ao65 t130.length co65) : Value).ownBlock ∧ some k_ ≠ ((.slice Ao74 t136.length co74) : Value).ownBlock ∧ some k_ ≠ ((.slice Ao149 t149.length co149) : Value).ownBlock ∧ some k_ ≠ ((.slice Ao157 t153.length co157) : Value).ownBlock ∧ some k_ ≠ ((.slice Ao169 t159.length co169) : Value).ownBlock ∧ some k_ ≠ ((.slice Ao184 t165.length co184) : Value).ownBlock) (.slice Ao13 t104.length co13) t104) ∧ Aside0 (Kd.R k71 71 wc w.heap.size (fun k_ => some k_ ≠ ((.slice Ao13 t104.length co13) : Value).ownBlock ∧ some k_ ≠ ((.slice Ao35 t117.length co35) : Value).ownBlock ∧ some k_ ≠ ((.slice Ao42 t123.length co42) : Value).ownBlock ∧ some k_ ≠ ((.slice Ao65 t130.length co65) : Value).ownBlock ∧ some k_ ≠ ((.slice Ao74 t136.length co74) : Value).ownBlock ∧ some k_ ≠ ((.slice Ao149 t149.length co149) : Value).ownBlock ∧ some k_ ≠ ((.slice Ao157 t153.length co157) : Value).ownBlock ∧ some k_ ≠ ((.slice Ao169 t159.length co169) : Value).ownBlock ∧ some k_ ≠ ((.slice Ao184 t165.length co184) : Value).ownBlock) (.slice Ao18 t110.length co18) t110) ∧ Aside0 (Kd.R k71 71 wc w.heap.size (fun k_ => some k_ ≠ ((.slice Ao13 t104.length co13) : Value).ownBlock ∧ some k_ ≠ ((.slice Ao18 t110.length co18) : Value).ownBlock ∧ some k_ ≠ ((.slice Ao42 t123.length co42) : Value).ownBlock ∧ some k_ ≠ ((.slice Ao65 t130.length co65) : Value).ownBlock ∧ some k_ ≠ ((.slice Ao74 t136.length co74) : Value).ownBlock ∧ some k_ ≠ ((.slice Ao149 t149.length co149) : Value).ownBlock ∧ some k_ ≠ ((.slice Ao157 t153.length co157) : Value).ownBlock ∧ some k_ ≠ ((.slice Ao169 t159.length co169) : Value).ownBlock ∧ some k_ ≠ ((.slice Ao184 t165.length co184) : Value).ownBlock) (.slice Ao35 t117.length co35) t117) ∧ Aside0 (Kd.R k71 71 wc w.heap.size (fun k_ => some k_ ≠ ((.slice Ao13 t104.length co13) : Value).ownBlock ∧ some k_ ≠ ((.slice Ao18 t110.length co18) : Value).ownBlock ∧ some k_ ≠ ((.slice Ao35 t117.length co35) : Value).ownBlock ∧ some k_ ≠ ((.slice Ao65 t130.length co65) : Value).ownBlock ∧ some k_ ≠ ((.slice Ao74 t136.length co74) : Value).ownBlock ∧ some k_ ≠ ((.slice Ao149 t149.length co149) : Value).ownBlock ∧ some k_ ≠ ((.slice Ao157 t153.length co157) : Value).ownBlock ∧ some k_ ≠ ((.slice Ao169 t159.length co169) : Value).ownBlock ∧ some k_ ≠ ((.slice Ao184 t165.length co184) : Value).ownBlock) (.slice Ao42 t123.length co42) t123) ∧ Aside0 (Kd.R k71 71 wc w.heap.size (fun k_ => some k_ ≠ ((.slice Ao13 t104.length co13) : Value).ownBlock ∧ some k_ ≠ ((.slice Ao18 t110.length co18) : Value).ownBlock ∧ some k_ ≠ ((.slice Ao35 t117.length co35) : Value).ownBlock ∧ some k_ ≠ ((.slice Ao42 t123.length co42) : Value).ownBlock ∧ some k_ ≠ ((.slice Ao74 t136.length co74) : Value).ownBlock ∧ some k_ ≠ ((.slice Ao149 t149.length co149) : Value).ownBlock ∧ some k_ ≠ ((.slice Ao157 t153.length co157) : Value).ownBlock ∧ some k_ ≠ ((.slice Ao169 t159.length co169) : Value).ownBlock ∧ some k_ ≠ ((.slice Ao184 t165.length co184) : Value).ownBlock) (.slice Ao65 t130.length co65) t130) ∧ Aside0 (Kd.R k71 71 wc w.heap.size (fun k_ => some k_ ≠ ((.slice Ao13 t104.length co13) : Value).ownBlock ∧ some k_ ≠ ((.slice Ao18 t110.length co18) : Value).ownBlock ∧ some k_ ≠ ((.slice Ao35 t117.length co35) : Value).ownBlock ∧ some k_ ≠ ((.slice Ao42 t123.length co42) : Value).ownBlock ∧ some k_ ≠ ((.slice Ao65 t130.length co65) : Value).ownBlock ∧ some k_ ≠ ((.slice Ao149 t149.length co149) : Value).ownBlock ∧ some k_ ≠ ((.slice Ao157 t153.length co157) : Value).ownBlock ∧ some k_ ≠ ((.slice Ao169 t159.length co169) : Value).ownBlock ∧ some k_ ≠ ((.slice Ao184 t165.length co184) : Value).ownBlock) (.slice Ao74 t136.length co74) t136) ∧ Aside0 (Kd.R k71 71 wc w.heap.size (fun k_ => some k_ ≠ ((.slice Ao13 t104.length co13) : Value).ownBlock ∧ some k_ ≠ ((.slice Ao18 t110.length co18) : Value).ownBlock ∧ some k_ ≠ ((.slice Ao35 t117.length co35) : Value).ownBlock ∧ some k_ ≠ ((.slice Ao42 t123.length co42) : Value).ownBlock ∧ some k_ ≠ ((.slice Ao65 t130.length co65) : Value).ownBlock ∧ some k_ ≠ ((.slice Ao74 t136.length co74) : Value).ownBlock ∧ some k_ ≠ ((.slice Ao157 t153.length co157) : Value).ownBlock ∧ some k_ ≠ ((.slice Ao169 t159.length co169) : Value).ownBlock ∧ some k_ ≠ ((.slice Ao184 t165.length co184) : Value).ownBlock) (.slice Ao149 t149.length co149) t149) ∧ Aside0 (Kd.R k71 71 wc w.heap.size (fun k_ => some k_ ≠ ((.slice Ao13 t104.length co13) : Value).ownBlock ∧ some k_ ≠ ((.slice Ao18 t110.length co18) : Value).ownBlock ∧ some k_ ≠ ((.slice Ao35 t117.length co35) : Value).ownBlock ∧ some k_ ≠ ((.slice Ao42 t123.length co42) : Value).ownBlock ∧ some k_ ≠ ((.slice Ao65 t130.length co65) : Value).ownBlock ∧ some k_ ≠ ((.slice Ao74 t136.length co74) : Value).ownBlock ∧ some k_ ≠ ((.slice Ao149 t149.length co149) : Value).ownBlock ∧ some k_ ≠ ((.slice Ao169 t159.length co169) : Value).ownBlock ∧ some k_ ≠ ((.slice Ao184 t165.length co184) : Value).ownBlock) (.slice Ao157 t153.length co157) t153) ∧ Aside0 (Kd.R k71 71 wc w.heap.size (fun k_ => some k_ ≠ ((.slice Ao13 t104.length co13) : Value).ownBlock ∧ some k_ ≠ ((.slice Ao18 t110.length co18) : Value).ownBlock ∧ some k_ ≠ ((.slice Ao35 t117.length co35) : Value).ownBlock ∧ some k_ ≠ ((.slice Ao42 t123.length co42) : Value).ownBlock ∧ some k_ ≠ ((.slice Ao65 t130.length co65) : Value).ownBlock ∧ some k_ ≠ ((.slice Ao74 t136.length co74) : Value).ownBlock ∧ some k_ ≠ ((.slice Ao149 t149.length co149) : Value).ownBlock ∧ some k_ ≠ ((.slice Ao157 t153.length co157) : Value).ownBlock ∧ some k_ ≠ ((.slice Ao184 t165.length co184) : Value).ownBlock) (.slice Ao169 t159.length co169) t159) ∧ Aside0 (Kd.R k71 71 wc w.heap.size (fun k_ => some k_ ≠ ((.slice Ao13 t104.length co13) : Value).ownBlock ∧ some k_ ≠ ((.slice Ao18 t110.length co18) : Value).ownBlock ∧ some k_ ≠ ((.slice Ao35 t117.length co35) : Value).ownBlock ∧ some k_ ≠ ((.slice Ao42 t123.length co42) : Value).ownBlock ∧ some k_ ≠ ((.slice Ao65 t130.length co65) : Value).ownBlock ∧ some k_ ≠ ((.slice Ao74 t136.length co74) : Value).ownBlock ∧ some k_ ≠ ((.slice Ao149 t149.length co149) : Value).ownBlock ∧ some k_ ≠ ((.slice Ao157 t153.length co157) : Value).ownBlock ∧ some k_ ≠ ((.slice Ao169 t159.length co169) : Value).ownBlock) (.slice Ao184 t165.length co184) t165) ∧ Aside0 (wc.heap[gb108]? = some (.cells #[.int .i64 t103, (.slice Ao13 t104.length co13)] 30 (0, 0))) ∧ Aside0 (wc.heap[gb114]? = some (.cells #[.int .i64 t109, (.slice Ao18 t110.length co18)] 30 (0, 0))) ∧ Aside0 (wc.heap[gb121]? = some (.cells #[.int .i64 t116, (.slice Ao35 t117.length co35)] 30 (0, 0))) ∧ Aside0 (wc.heap[gb127]? = some (.cells #[.int .i64 t122, (.slice Ao42 t123.length co42)] 30 (0, 0))) ∧ Aside0 (wc.heap[gb134]? = some (.cells #[.int .i64 t129, (.slice Ao65 t130.length co65)] 30 (0, 0))) ∧ Aside0 (wc.heap[gb140]? = some (.cells #[.int .i64 t135, (.slice Ao74 t136.length co74)] 30 (0, 0))) ∧ Aside0 (wc.heap[gb156]? = some (.cells #[.int .i64 t148, (.slice Ao149 t149.length co149)] 30 (0, 0))) ∧ Aside0 (wc.heap[gb157]? = some (.cells #[.int .i64 t152, (.slice Ao157 t153.length co157)] 30 (0, 0))) ∧ Aside0 (wc.heap[gb163]? = some (.cells #[.int .i64 t158, (.slice Ao169 t159.length co169)] 30 (0, 0))) ∧ Aside0 (wc.heap[gb169]? = some (.cells #[.int .i64 t164, (.slice Ao184 t165.length co184)] 30 (0, 0))) ∧ Aside0 (Below w.heap.size w wc))
                 case first => as_aux_lemma =>
                  have H := HC185.out; clear HC185
                  by_cases c186 : (t162 != t168) = true
                  ·rw [if_pos c186] at H
                   have c186b0 : (t162 != t168) = true := c186; (try (have c186b1 : decide (t162 = t168) = false := by simpa using c186)); (try (have c186b2 : (t162 == t168) = false := by simpa using c186)); (try (have c186b3 : ¬ (t162 = t168) := by simpa using c186)); (try (have c186b4 : (!(t162 == t168)) = true := by simpa using c186)); clear c186
                   (first | rw [c186b0] | (simp only [i64_w, i32_w]; rw [c186b0]) | rw [c186b4] | skip)
                   first | exact (laws_FnFamilies.j0_true H).elim | exact (laws_FnFamilies.j1_true H).elim | exact (laws_FnFamilies.j2_true H).elim | exact (laws_FnFamilies.j6_true H).elim
                  ·rw [if_neg c186] at H
                   have c186b0 : (t162 != t168) = false := by simpa using c186
                   (try (have c186b1 : decide (t162 = t168) = true := by simpa using c186)); (try (have c186b2 : (t162 == t168) = true := by simpa using c186)); (try (have c186b3 : (!(t162 == t168)) = false := by simpa using c186)); clear c186
                   (first | rw [c186b0] | (simp only [i64_w, i32_w]; rw [c186b0]) | rw [c186b3] | skip)
                   replace H := (ob H); obtain ⟨t170, A1870, H⟩ := H; (try dsimp only at H); have A187 := Aside0.mk A1870; clear A1870; have H' := Aside0.mk H; clear H; have hnb188 := NB163_108.out; have hnc188 := NB108_163.out; have hnb189 := NB163_114.out; have hnc189 := NB114_163.out; have hnb190 := NB163_121.out; have hnc190 := NB121_163.out; have hnb191 := NB163_127.out; have hnc191 := NB127_163.out; have hnb192 := NB163_134.out; have hnc192 := NB134_163.out; have hnb193 := NB163_140.out; have hnc193 := NB140_163.out; have hnb194 := NB163_156.out; have hnc194 := NB156_163.out; have hnb195 := NB163_157.out; have hnc195 := NB157_163.out; have hnb196 := NB163_169.out; have hnc196 := NB169_163.out; have hcz197_0 : w173.cell? ⟨gb163, 0, none⟩ = some (.int .i64 t158) := (blk_cell BK163.out 0).trans rfl; have hcz197_1 : w173.cell? ⟨gb163, 1, none⟩ = some (.slice Ao169 t159.length co169) := (blk_cell BK163.out 1).trans rfl; have hfz197_0 := blk_frozen BK163.out 0; have hfz197_1 := blk_frozen BK163.out 1; have hnb198 := NB169_108.out; have hnc198 := NB108_169.out; have hnb199 := NB169_114.out; have hnc199 := NB114_169.out; have hnb200 := NB169_121.out; have hnc200 := NB121_169.out; have hnb201 := NB169_127.out; have hnc201 := NB127_169.out; have hnb202 := NB169_134.out; have hnc202 := NB134_169.out; have hnb203 := NB169_140.out; have hnc203 := NB140_169.out; have hnb204 := NB169_156.out; have hnc204 := NB156_169.out; have hnb205 := NB169_157.out; have hnc205 := NB157_169.out; have hcz206_0 : w173.cell? ⟨gb169, 0, none⟩ = some (.int .i64 0) := (blk_cell BK169.out 0).trans rfl; have hcz206_1 : w173.cell? ⟨gb169, 1, none⟩ = some (.slice none 0 0) := (blk_cell BK169.out 1).trans rfl; have hfz206_0 := blk_frozen BK169.out 0; have hfz206_1 := blk_frozen BK169.out 1
                   go_wp2_with (first | (go_at_call 25; (with_reducible refine (laws_rGraph.calls kj120 t158 _ _ t159 t164 _ _ t165 t170 _ ?side1 ?side2 ?side3 ?side4 A187.out).mono ?_); (case side1 => refine (Kd.R_reads' (e := 71) (base := w.heap.size) (ok := fun k_ => (((((((((True ∧ some k_ ≠ (.slice Ao13 t104.length co13 : Value).ownBlock) ∧ some k_ ≠ (.slice Ao18 t110.length co18 : Value).ownBlock) ∧ some k_ ≠ (.slice Ao35 t117.length co35 : Value).ownBlock) ∧ some k_ ≠ (.slice Ao42 t123.length co42 : Value).ownBlock) ∧ some k_ ≠ (.slice Ao65 t130.length co65 : Value).ownBlock) ∧ some k_ ≠ (.slice Ao74 t136.length co74 : Value).ownBlock) ∧ some k_ ≠ (.slice Ao149 t149.length co149 : Value).ownBlock) ∧ some k_ ≠ (.slice Ao157 t153.length co157 : Value).ownBlock) ∧ some k_ ≠ (.slice Ao184 t165.length co184 : Value).ownBlock)) (n := t159.length) (c := co169) ?_).2.2; exact (Q41 HO161 BK169)); (case side2 => exact (Kd.R_reads' HO161.out).2.1); (case side3 => refine (Kd.R_reads' (e := 71) (base := w.heap.size) (ok := fun k_ => (((((((((True ∧ some k_ ≠ (.slice Ao13 t104.length co13 : Value).ownBlock) ∧ some k_ ≠ (.slice Ao18 t110.length co18 : Value).ownBlock) ∧ some k_ ≠ (.slice Ao35 t117.length co35 : Value).ownBlock) ∧ some k_ ≠ (.slice Ao42 t123.length co42 : Value).ownBlock) ∧ some k_ ≠ (.slice Ao65 t130.length co65 : Value).ownBlock) ∧ some k_ ≠ (.slice Ao74 t136.length co74 : Value).ownBlock) ∧ some k_ ≠ (.slice Ao149 t149.length co149 : Value).ownBlock) ∧ some k_ ≠ (.slice Ao157 t153.length co157 : Value).ownBlock) ∧ some k_ ≠ (.slice Ao169 t159.length co169 : Value).ownBlock)) (n := t165.length) (c := co184) ?_).2.2; exact (Q41 HO167 BK169)); (case side4 => exact (Kd.R_reads' HO167.out).2.1); rintro e w207 ⟨rfl, hb⟩; replace HO_109001 := am (Kd.R_below (by (with_reducible repeat (first | apply Kd.R_alloc | apply Kd.R_drewN | apply Kd.R_drew)); exact (Kd.R_mono (Kd.R_far (p := ⟨gb169, 1, none⟩) (Kd.R_far (p := ⟨gb169, 0, none⟩) (Kd.R_types HO_109001.out BK169.out (by decide)) (fun _ hk => hk.2) (.int .i64 t164)) (fun _ hk => hk.2) (.slice Ao184 t165.length co184)) (fun _ h_ => h_.1))) hb); replace HO_115001 := am (Kd.R_below (by (with_reducible repeat (first | apply Kd.R_alloc | apply Kd.R_drewN | apply Kd.R_drew)); exact (Kd.R_mono (Kd.R_far (p := ⟨gb169, 1, none⟩) (Kd.R_far (p := ⟨gb169, 0, none⟩) (Kd.R_types HO_115001.out BK169.out (by decide)) (fun _ hk => hk.2) (.int .i64 t164)) (fun _ hk => hk.2) (.slice Ao184 t165.length co184)) (fun _ h_ => h_.1))) hb); replace HO_122001 := am (Kd.R_below (by (with_reducible repeat (first | apply Kd.R_alloc | apply Kd.R_drewN | apply Kd.R_drew)); exact (Kd.R_mono (Kd.R_far (p := ⟨gb169, 1, none⟩) (Kd.R_far (p := ⟨gb169, 0, none⟩) (Kd.R_types HO_122001.out BK169.out (by decide)) (fun _ hk => hk.2) (.int .i64 t164)) (fun _ hk => hk.2) (.slice Ao184 t165.length co184)) (fun _ h_ => h_.1))) hb); replace HO_128001 := am (Kd.R_below (by (with_reducible repeat (first | apply Kd.R_alloc | apply Kd.R_drewN | apply Kd.R_drew)); exact (Kd.R_mono (Kd.R_far (p := ⟨gb169, 1, none⟩) (Kd.R_far (p := ⟨gb169, 0, none⟩) (Kd.R_types HO_128001.out BK169.out (by decide)) (fun _ hk => hk.2) (.int .i64 t164)) (fun _ hk => hk.2) (.slice Ao184 t165.length co184)) (fun _ h_ => h_.1))) hb); replace HO_135001 := am (Kd.R_below (by (with_reducible repeat (first | apply Kd.R_alloc | apply Kd.R_drewN | apply Kd.R_drew)); exact (Kd.R_mono (Kd.R_far (p := ⟨gb169, 1, none⟩) (Kd.R_far (p := ⟨gb169, 0, none⟩) (Kd.R_types HO_135001.out BK169.out (by decide)) (fun _ hk => hk.2) (.int .i64 t164)) (fun _ hk => hk.2) (.slice Ao184 t165.length co184)) (fun _ h_ => h_.1))) hb); replace HO_141001 := am (Kd.R_below (by (with_reducible repeat (first | apply Kd.R_alloc | apply Kd.R_drewN | apply Kd.R_drew)); exact (Kd.R_mono (Kd.R_far (p := ⟨gb169, 1, none⟩) (Kd.R_far (p := ⟨gb169, 0, none⟩) (Kd.R_types HO_141001.out BK169.out (by decide)) (fun _ hk => hk.2) (.int .i64 t164)) (fun _ hk => hk.2) (.slice Ao184 t165.length co184)) (fun _ h_ => h_.1))) hb); replace HO151 := am (Kd.R_below (Q41 HO151 BK169) hb); replace HO155 := am (Kd.R_below (Q41 HO155 BK169) hb); replace HO161 := am (Kd.R_below (Q41 HO161 BK169) hb); replace HO167 := am (Kd.R_below (Q41 HO167 BK169) hb); replace BK108 := am (blk_below (g := gb108) (o := .cells #[.int .i64 t103, .slice Ao13 t104.length co13] 30 (0, 0)) (Q2 NB108_169 BK108) hb); replace BK114 := am (blk_below (g := gb114) (o := .cells #[.int .i64 t109, .slice Ao18 t110.length co18] 30 (0, 0)) (Q2 NB114_169 BK114) hb); replace BK121 := am (blk_below (g := gb121) (o := .cells #[.int .i64 t116, .slice Ao35 t117.length co35] 30 (0, 0)) (Q2 NB121_169 BK121) hb); replace BK127 := am (blk_below (g := gb127) (o := .cells #[.int .i64 t122, .slice Ao42 t123.length co42] 30 (0, 0)) (Q2 NB127_169 BK127) hb); replace BK134 := am (blk_below (g := gb134) (o := .cells #[.int .i64 t129, .slice Ao65 t130.length co65] 30 (0, 0)) (Q2 NB134_169 BK134) hb); replace BK140 := am (blk_below (g := gb140) (o := .cells #[.int .i64 t135, .slice Ao74 t136.length co74] 30 (0, 0)) (Q2 NB140_169 BK140) hb); replace BK156 := am (blk_below (g := gb156) (o := .cells #[.int .i64 t148, .slice Ao149 t149.length co149] 30 (0, 0)) (Q2 NB156_169 BK156) hb); replace BK157 := am (blk_below (g := gb157) (o := .cells #[.int .i64 t152, .slice Ao157 t153.length co157] 30 (0, 0)) (Q2 NB157_169 BK157) hb); replace BK163 := am (blk_below (g := gb163) (o := .cells #[.int .i64 t158, .slice Ao169 t159.length co169] 30 (0, 0)) (Q2 NB163_169 BK163) hb); replace BK169 := am (blk_below (g := gb169) (o := .cells #[.int .i64 t164, .slice Ao184 t165.length co184] 30 (0, 0)) (by (with_reducible repeat (first | refine blk_drewN ?_ _ | refine blk_drew ?_ | refine blk_alloc ?_ _)); refine blk_put (cs := #[.int .i64 t164, .slice none 0 0]) ?_ 1 _ rfl; (with_reducible repeat (first | refine blk_drewN ?_ _ | refine blk_drew ?_ | refine blk_alloc ?_ _)); refine blk_put (cs := #[.int .i64 0, .slice none 0 0]) ?_ 0 _ rfl; (with_reducible repeat (first | refine blk_drewN ?_ _ | refine blk_drew ?_ | refine blk_alloc ?_ _)); exact BK169.out) hb); replace HB := am (below_step (Q5 HB GE169) hb); (try clear hb); (try clear hb2); (try clear hk); (try clear hi)))
                   go_meet
                   case rel => exact ⟨_, (!t170), Q11, H', ⟨by have := HJ18.out; have := HJ42.out; have := HJ74.out; have := HJ91.out; have := HJ93.out; have := HJ120.out; first | omega | exact Nat.le_refl _⟩, ⟨by (with_reducible repeat (first | apply Kd.R_alloc | apply Kd.R_drewN | apply Kd.R_drew)); exact Kd.R_mono HO_109001.out (fun _ hk => ⟨hk.1.1.1.1.1, ⟨hk.1.1.1.1.2.1, ⟨hk.1.1.1.1.2.2.1, ⟨hk.1.1.1.1.2.2.2.1, ⟨hk.1.1.1.1.2.2.2.2, ⟨hk.1.1.1.2, ⟨hk.1.1.2, ⟨hk.1.2, hk.2⟩⟩⟩⟩⟩⟩⟩⟩)⟩, ⟨by (with_reducible repeat (first | apply Kd.R_alloc | apply Kd.R_drewN | apply Kd.R_drew)); exact Kd.R_mono HO_115001.out (fun _ hk => ⟨hk.1.1.1.1.1, ⟨hk.1.1.1.1.2.1, ⟨hk.1.1.1.1.2.2.1, ⟨hk.1.1.1.1.2.2.2.1, ⟨hk.1.1.1.1.2.2.2.2, ⟨hk.1.1.1.2, ⟨hk.1.1.2, ⟨hk.1.2, hk.2⟩⟩⟩⟩⟩⟩⟩⟩)⟩, ⟨by (with_reducible repeat (first | apply Kd.R_alloc | apply Kd.R_drewN | apply Kd.R_drew)); exact Kd.R_mono HO_122001.out (fun _ hk => ⟨hk.1.1.1.1.1, ⟨hk.1.1.1.1.2.1, ⟨hk.1.1.1.1.2.2.1, ⟨hk.1.1.1.1.2.2.2.1, ⟨hk.1.1.1.1.2.2.2.2, ⟨hk.1.1.1.2, ⟨hk.1.1.2, ⟨hk.1.2, hk.2⟩⟩⟩⟩⟩⟩⟩⟩)⟩, ⟨by (with_reducible repeat (first | apply Kd.R_alloc | apply Kd.R_drewN | apply Kd.R_drew)); exact Kd.R_mono HO_128001.out (fun _ hk => ⟨hk.1.1.1.1.1, ⟨hk.1.1.1.1.2.1, ⟨hk.1.1.1.1.2.2.1, ⟨hk.1.1.1.1.2.2.2.1, ⟨hk.1.1.1.1.2.2.2.2, ⟨hk.1.1.1.2, ⟨hk.1.1.2, ⟨hk.1.2, hk.2⟩⟩⟩⟩⟩⟩⟩⟩)⟩, ⟨by (with_reducible repeat (first | apply Kd.R_alloc | apply Kd.R_drewN | apply Kd.R_drew)); exact Kd.R_mono HO_135001.out (fun _ hk => ⟨hk.1.1.1.1.1, ⟨hk.1.1.1.1.2.1, ⟨hk.1.1.1.1.2.2.1, ⟨hk.1.1.1.1.2.2.2.1, ⟨hk.1.1.1.1.2.2.2.2, ⟨hk.1.1.1.2, ⟨hk.1.1.2, ⟨hk.1.2, hk.2⟩⟩⟩⟩⟩⟩⟩⟩)⟩, ⟨by (with_reducible repeat (first | apply Kd.R_alloc | apply Kd.R_drewN | apply Kd.R_drew)); exact Kd.R_mono HO_141001.out (fun _ hk => ⟨hk.1.1.1.1.1, ⟨hk.1.1.1.1.2.1, ⟨hk.1.1.1.1.2.2.1, ⟨hk.1.1.1.1.2.2.2.1, ⟨hk.1.1.1.1.2.2.2.2, ⟨hk.1.1.1.2, ⟨hk.1.1.2, ⟨hk.1.2, hk.2⟩⟩⟩⟩⟩⟩⟩⟩)⟩, ⟨Q155 HO151⟩, ⟨Q155 HO155⟩, ⟨Q154 HO161⟩, ⟨Q154 HO167⟩, ⟨Q0 BK108⟩, ⟨Q0 BK114⟩, ⟨Q0 BK121⟩, ⟨Q0 BK127⟩, ⟨Q0 BK134⟩, ⟨Q0 BK140⟩, ⟨Q0 BK156⟩, ⟨Q0 BK157⟩, ⟨Q0 BK163⟩, ⟨Q0 BK169⟩, ⟨Q1 HB⟩⟩
                 case rest => as_aux_lemma =>
                  clear HC185
                  try clear c1
                  try clear c2
                  try clear p2
                  try clear c3
                  try clear c4
                  try clear c5
                  try clear c6
                  try clear p6
                  try clear c7
                  try clear c8
                  try clear c9
                  try clear c10
                  try clear c11
                  try clear c12
                  try clear c13
                  try clear c14
                  try clear c15
                  try clear c16
                  try clear c17
                  try clear c18
                  try clear c19
                  try clear c20
                  try clear c20b0
                  try clear c20b1
                  try clear c20b2
                  try clear c21
                  try clear c22
                  try clear c23
                  try clear c24
                  try clear c26
                  try clear c27
                  try clear c28
                  try clear c29
                  try clear c30
                  try clear c31
                  try clear c32
                  try clear c33
                  try clear c38
                  try clear c39
                  try clear c40
                  try clear c44
                  try clear c44b0
                  try clear c44b1
                  try clear c44b2
                  try clear c46
                  try clear c47
                  try clear c48
                  try clear c50
                  try clear c51
                  try clear c54
                  try clear c60
                  try clear c61
                  try clear c62
                  try clear c63
                  try clear p64
                  try clear c68
                  try clear c69
                  try clear c70
                  try clear c71
                  try clear c72
                  try clear c76
                  try clear c76b0
                  try clear c76b1
                  try clear c76b2
                  try clear c77
                  try clear c77b0
                  try clear c77b1
                  try clear c77b2
                  try clear c79
                  try clear c80
                  try clear c81
                  try clear c82
                  try clear c83
                  try clear c85
                  try clear c86
                  try clear c87
                  try clear c88
                  try clear c91
                  try clear c93
                  try clear c95
                  try clear c99
                  try clear c100
                  try clear c101
                  try clear c102
                  try clear c103
                  try clear c106
                  try clear c107
                  try clear c108
                  try clear c109
                  try clear c112
                  try clear c112b0
                  try clear c113
                  try clear c114
                  try clear c115
                  try clear c115b0
                  try clear c115b1
                  try clear c116
                  try clear c116b0
                  try clear c116b1
                  try clear c117
                  try clear c118
                  try clear c119
                  try clear c119b0
                  try clear c119b1
                  try clear c120
                  try clear c120b0
                  try clear c120b1
                  try clear c122
                  try clear c125
                  try clear c126
                  try clear c127
                  try clear c128
                  try clear c129
                  try clear c132
                  try clear c133
                  try clear c133b0
                  try clear c133b1
                  try clear c141
                  try clear c142
                  try clear c143
                  try clear c144
                  try clear c145
                  try clear c146
                  try clear c147
                  try clear c150
                  try clear c151
                  try clear c152
                  try clear c153
                  try clear c154
                  try clear c155
                  try clear c160
                  try clear c161
                  try clear c162
                  try clear c163
                  try clear c164
                  try clear c165
                  try clear c166
                  try clear c167
                  try clear c174
                  try clear c175
                  try clear c176
                  try clear c177
                  try clear c178
                  try clear c179
                  try clear c180
                  try clear c181
                  try clear c182
                  try clear c186
                  try clear c186b0
                  try clear c186b1
                  try clear c186b2
                  try clear c188
                  try clear c189
                  try clear c190
                  try clear c191
                  try clear c192
                  try clear c193
                  try clear c194
                  try clear c195
                  try clear c196
                  try clear c198
                  try clear c199
                  try clear c200
                  try clear c201
                  try clear c202
                  try clear c203
                  try clear c204
                  try clear c205
                  try clear hcz104_0
                  try clear hcz104_1
                  try clear hcz110_0
                  try clear hcz110_1
                  try clear hcz12_0
                  try clear hcz12_1
                  try clear hcz130_0
                  try clear hcz130_1
                  try clear hcz148_0
                  try clear hcz148_1
                  try clear hcz156_0
                  try clear hcz156_1
                  try clear hcz168_0
                  try clear hcz168_1
                  try clear hcz170_0
                  try clear hcz170_1
                  try clear hcz171_0
                  try clear hcz171_1
                  try clear hcz17_0
                  try clear hcz17_1
                  try clear hcz183_0
                  try clear hcz183_1
                  try clear hcz197_0
                  try clear hcz197_1
                  try clear hcz206_0
                  try clear hcz206_1
                  try clear hcz23_0
                  try clear hcz23_1
                  try clear hcz24_0
                  try clear hcz24_1
                  try clear hcz34_0
                  try clear hcz34_1
                  try clear hcz41_0
                  try clear hcz41_1
                  try clear hcz49_0
                  try clear hcz49_1
                  try clear hcz52_0
                  try clear hcz52_1
                  try clear hcz64_0
                  try clear hcz64_1
                  try clear hcz73_0
                  try clear hcz73_1
                  try clear hcz84_0
                  try clear hcz84_1
                  try clear hcz89_0
                  try clear hcz89_1
                  try clear hfz104_0
                  try clear hfz104_1
                  try clear hfz110_0
                  try clear hfz110_1
                  try clear hfz12_0
                  try clear hfz12_1
                  try clear hfz130_0
                  try clear hfz130_1
                  try clear hfz148_0
                  try clear hfz148_1
                  try clear hfz156_0
                  try clear hfz156_1
                  try clear hfz168_0
                  try clear hfz168_1
                  try clear hfz170_0
                  try clear hfz170_1
                  try clear hfz171_0
                  try clear hfz171_1
                  try clear hfz17_0
                  try clear hfz17_1
                  try clear hfz183_0
                  try clear hfz183_1
                  try clear hfz197_0
                  try clear hfz197_1
                  try clear hfz206_0
                  try clear hfz206_1
                  try clear hfz23_0
                  try clear hfz23_1
                  try clear hfz24_0
                  try clear hfz24_1
                  try clear hfz34_0
                  try clear hfz34_1
                  try clear hfz41_0
                  try clear hfz41_1
                  try clear hfz49_0
                  try clear hfz49_1
                  try clear hfz52_0
                  try clear hfz52_1
                  try clear hfz64_0
                  try clear hfz64_1
                  try clear hfz73_0
                  try clear hfz73_1
                  try clear hfz84_0
                  try clear hfz84_1
                  try clear hfz89_0
                  try clear hfz89_1
                  try clear p2
                  try clear p6
                  try clear p64
                  obtain ⟨kq, x178_184, rfl, HA, HJ184, HO_109001, HO_115001, HO_122001, HO_128001, HO_135001, HO_141001, HO_157001, HO_158001, HO_164001, HO_170001, BK108, BK114, BK121, BK127, BK134, BK140, BK156, BK157, BK163, BK169, HB⟩ := hcut
                  cases kq with
                  | zero => exact absurd HA.out (by simp [laws_FnFamilies.j6])
                  | succ kj184 =>
                   have H := HA.out; clear HA
                   simp only [laws_FnFamilies.j6] at H
                   by_cases c208 : x178_184 = true
                   ·subst c208
                    have H1 : (none) = some r := by rw [if_pos rfl] at H; exact H
                    clear H; have H := H1; clear H1; exact absurd H (by simp)
                   ·replace c208 := Bool.eq_false_iff.mpr c208
                    subst c208; have H1 : (if t162 = true then ((impl_PartsOf.f kj184 t148 t149).bind fun bt171 => ((impl_PartsOf.f kj184 t152 t153).bind fun bt175 => ((impl_PartsOf.f kj184 t158 t159).bind fun bt179 => ((impl_RemoveNode.f kj184 t158 t159 0).bind fun bt183 => ((spec_RemoveNode.f kj184 t158 t159 0).bind fun bt189 => (if (bt183.2.2 != bt189.2.2) = true then (none) else ((laws_rGraph.f kj184 bt183.1 bt183.2.1 bt189.1 bt189.2.1).bind fun t195 => (if t195 = true then (if (bt183.2.2 != (decide (t158 > 0))) = true then (none) else (if bt171.2 = true then (if bt175.2 = true then (if bt179.2 = true then (some ((bt179.1.length : Int) == (wrap64 ((bt171.1.length : Int) + (bt175.1.length : Int))))) else (none)) else (none)) else (none))) else (none))))))))) else (some true)) = some r := by rw [if_neg (show ¬ (false = true) by decide)] at H; exact H
                    clear H; have H := H1; clear H1
                    by_cases c209 : t162 = true
                    ·subst c209
                     have H1 : ((impl_PartsOf.f kj184 t148 t149).bind fun bt171 => ((impl_PartsOf.f kj184 t152 t153).bind fun bt175 => ((impl_PartsOf.f kj184 t158 t159).bind fun bt179 => ((impl_RemoveNode.f kj184 t158 t159 0).bind fun bt183 => ((spec_RemoveNode.f kj184 t158 t159 0).bind fun bt189 => (if (bt183.2.2 != bt189.2.2) = true then (none) else ((laws_rGraph.f kj184 bt183.1 bt183.2.1 bt189.1 bt189.2.1).bind fun t195 => (if t195 = true then (if (bt183.2.2 != (decide (t158 > 0))) = true then (none) else (if bt171.2 = true then (if bt175.2 = true then (if bt179.2 = true then (some ((bt179.1.length : Int) == (wrap64 ((bt171.1.length : Int) + (bt175.1.length : Int))))) else (none)) else (none)) else (none))) else (none))))))))) = some r := by rw [if_pos rfl] at H; exact H
                     clear H; have H := H1; clear H1; replace H := (ob H); obtain ⟨⟨t171, t174⟩, A2100, H⟩ := H; (try dsimp only at H); have A210 := Aside0.mk A2100; clear A2100; replace H := (ob H); obtain ⟨⟨t175, t178⟩, A2110, H⟩ := H; (try dsimp only at H); have A211 := Aside0.mk A2110; clear A2110; replace H := (ob H); obtain ⟨⟨t179, t182⟩, A2120, H⟩ := H; (try dsimp only at H); have A212 := Aside0.mk A2120; clear A2120; replace H := (ob H); obtain ⟨⟨t183, t184, t187⟩, A2130, H⟩ := H; (try dsimp only at H); have A213 := Aside0.mk A2130; clear A2130; replace H := (ob H); obtain ⟨⟨t189, t190, t193⟩, A2140, H⟩ := H; (try dsimp only at H); have A214 := Aside0.mk A2140; clear A2140; have HU215 := Aside0.mk H; clear H; have hnb216 := NB156_108.out; have hnc216 := NB108_156.out; have hnb217 := NB156_114.out; have hnc217 := NB114_156.out; have hnb218 := NB156_121.out; have hnc218 := NB121_156.out; have hnb219 := NB156_127.out; have hnc219 := NB127_156.out; have hnb220 := NB156_134.out; have hnc220 := NB134_156.out; have hnb221 := NB156_140.out; have hnc221 := NB140_156.out; have hnb222 := NB156_157.out; have hnc222 := NB157_156.out; have hnb223 := NB156_163.out; have hnc223 := NB163_156.out; have hnb224 := NB156_169.out; have hnc224 := NB169_156.out; have hcz225_0 : wc.cell? ⟨gb156, 0, none⟩ = some (.int .i64 t148) := (blk_cell BK156.out 0).trans rfl; have hcz225_1 : wc.cell? ⟨gb156, 1, none⟩ = some (.slice Ao149 t149.length co149) := (blk_cell BK156.out 1).trans rfl; have hfz225_0 := blk_frozen BK156.out 0; have hfz225_1 := blk_frozen BK156.out 1
                     go_upto_region 40 with (first | ((with_reducible refine gate_callee (f := 34) rfl ?_); refine goesL_ (some 183) rfl rfl Try.func34 (by kernel_rfl) rfl #[.agg #[.int .i64 t148, .slice Ao149 t149.length co149]] rfl Q3 ?_; (with_reducible refine (impl_PartsOf.calls kj184 t148 _ _ t149 t171 t174 _ ?side1 ?side2 A210.out).mono ?_); (case side1 => exact (by repeat (first | exact (Kd.R_reads' HO_157001.out).2.2 | (with_reducible refine Kd.C_alloc ?_ _) | (with_reducible refine Kd.C_drewN ?_ _) | (with_reducible refine Kd.C_drew ?_)))); (case side2 => exact (Kd.R_reads' HO_157001.out).2.1); rintro e w226 ⟨v172, rfl, ho0, hb⟩; refine ⟨_, rfl, ?_⟩; obtain ⟨NS227, hNS227⟩ : ∃ n_ : Nat, n_ = wc.heap.size := ⟨_, rfl⟩; replace HO_109001 := am (Kd.R_below Q15 hb); replace HO_115001 := am (Kd.R_below Q16 hb); replace HO_122001 := am (Kd.R_below Q19 hb); replace HO_128001 := am (Kd.R_below Q20 hb); replace HO_135001 := am (Kd.R_below Q23 hb); replace HO_141001 := am (Kd.R_below Q24 hb); replace HO_157001 := am (Kd.R_below Q71 hb); replace HO_158001 := am (Kd.R_below Q72 hb); replace HO_164001 := am (Kd.R_below Q73 hb); replace HO_170001 := am (Kd.R_below Q74 hb); have HO173 := am (Kd.S_lower (Kd.S_mono (Kd.S_bound ho0) (fun k_ h_ => (⟨h_.1, Nat.le_trans (by first | exact Nat.le_of_eq hNS227 | (rw [hNS227]; exact Nat.le_refl _) | (subst hNS227; simp [World.drewN, World.drew, World.alloc])) h_.2.1⟩ : _ ∧ NS227 ≤ k_))) (below_size (Q1 HB))); replace BK108 := am (blk_below (g := gb108) (o := .cells #[.int .i64 t103, .slice Ao13 t104.length co13] 30 (0, 0)) (Q0 BK108) hb); replace BK114 := am (blk_below (g := gb114) (o := .cells #[.int .i64 t109, .slice Ao18 t110.length co18] 30 (0, 0)) (Q0 BK114) hb); replace BK121 := am (blk_below (g := gb121) (o := .cells #[.int .i64 t116, .slice Ao35 t117.length co35] 30 (0, 0)) (Q0 BK121) hb); replace BK127 := am (blk_below (g := gb127) (o := .cells #[.int .i64 t122, .slice Ao42 t123.length co42] 30 (0, 0)) (Q0 BK127) hb); replace BK134 := am (blk_below (g := gb134) (o := .cells #[.int .i64 t129, .slice Ao65 t130.length co65] 30 (0, 0)) (Q0 BK134) hb); replace BK140 := am (blk_below (g := gb140) (o := .cells #[.int .i64 t135, .slice Ao74 t136.length co74] 30 (0, 0)) (Q0 BK140) hb); replace BK156 := am (blk_below (g := gb156) (o := .cells #[.int .i64 t148, .slice Ao149 t149.length co149] 30 (0, 0)) (Q0 BK156) hb); replace BK157 := am (blk_below (g := gb157) (o := .cells #[.int .i64 t152, .slice Ao157 t153.length co157] 30 (0, 0)) (Q0 BK157) hb); replace BK163 := am (blk_below (g := gb163) (o := .cells #[.int .i64 t158, .slice Ao169 t159.length co169] 30 (0, 0)) (Q0 BK163) hb); replace BK169 := am (blk_below (g := gb169) (o := .cells #[.int .i64 t164, .slice Ao184 t165.length co184] 30 (0, 0)) (Q0 BK169) hb); replace HB := am (below_step (Q1 HB) hb); (try clear hb); (try clear hb2); (try clear hk); (try clear hi); (try clear ho0); have hnb228 := NB157_108.out; have hnc228 := NB108_157.out; have hnb229 := NB157_114.out; have hnc229 := NB114_157.out; have hnb230 := NB157_121.out; have hnc230 := NB121_157.out; have hnb231 := NB157_127.out; have hnc231 := NB127_157.out; have hnb232 := NB157_134.out; have hnc232 := NB134_157.out; have hnb233 := NB157_140.out; have hnc233 := NB140_157.out; have hnb234 := NB157_163.out; have hnc234 := NB163_157.out; have hnb235 := NB157_169.out; have hnc235 := NB169_157.out; have hcz236_0 : w226.cell? ⟨gb157, 0, none⟩ = some (.int .i64 t152) := (blk_cell BK157.out 0).trans rfl; have hcz236_1 : w226.cell? ⟨gb157, 1, none⟩ = some (.slice Ao157 t153.length co157) := (blk_cell BK157.out 1).trans rfl; have hfz236_0 := blk_frozen BK157.out 0; have hfz236_1 := blk_frozen BK157.out 1) | ((with_reducible refine gate_callee (f := 34) rfl ?_); refine goesL_ (some 188) rfl rfl Try.func34 (by kernel_rfl) rfl #[.agg #[.int .i64 t152, .slice Ao157 t153.length co157]] rfl Q3 ?_; (with_reducible refine (impl_PartsOf.calls kj184 t152 _ _ t153 t175 t178 _ ?side1 ?side2 A211.out).mono ?_); (case side1 => exact (by repeat (first | exact (Kd.R_reads' HO_158001.out).2.2 | (with_reducible refine Kd.C_alloc ?_ _) | (with_reducible refine Kd.C_drewN ?_ _) | (with_reducible refine Kd.C_drew ?_)))); (case side2 => exact (Kd.R_reads' HO_158001.out).2.1); rintro e w237 ⟨v176, rfl, ho0, hb⟩; refine ⟨_, rfl, ?_⟩; obtain ⟨NS238, hNS238⟩ : ∃ n_ : Nat, n_ = w226.heap.size := ⟨_, rfl⟩; replace HO_109001 := am (Kd.R_below Q15 hb); replace HO_115001 := am (Kd.R_below Q16 hb); replace HO_122001 := am (Kd.R_below Q19 hb); replace HO_128001 := am (Kd.R_below Q20 hb); replace HO_135001 := am (Kd.R_below Q23 hb); replace HO_141001 := am (Kd.R_below Q24 hb); replace HO_157001 := am (Kd.R_below Q71 hb); replace HO_158001 := am (Kd.R_below Q72 hb); replace HO_164001 := am (Kd.R_below Q73 hb); replace HO_170001 := am (Kd.R_below Q74 hb); have HO177 := am (Kd.S_lower (Kd.S_mono (Kd.S_bound (Kd.S_new' ho0 (Kd.S_lt (Q44 HO173)))) (fun k_ h_ => (⟨h_.1, Nat.le_trans (by first | exact Nat.le_of_eq hNS238 | (rw [hNS238]; exact Nat.le_refl _) | (subst hNS238; simp [World.drewN, World.drew, World.alloc])) h_.2.1⟩ : _ ∧ NS238 ≤ k_))) (below_size (Q1 HB))); replace HO173 := am (Kd.S_mono (ok' := fun k_ => (((True ∧ NS227 ≤ k_) ∧ some k_ ≠ (v176 : Value).ownBlock)) ∧ k_ < NS238) (Kd.S_told (Kd.S_old (Q44 HO173) hb) (Kd.S_base ho0)) (fun k_ h_ => ⟨h_.1, Nat.lt_of_lt_of_le h_.2 (by first | exact Nat.le_of_eq hNS238.symm | (rw [hNS238]; exact Nat.le_refl _) | (subst hNS238; simp) | (subst hNS238; simp [World.drewN, World.drew, World.alloc]))⟩)); replace BK108 := am (blk_below (g := gb108) (o := .cells #[.int .i64 t103, .slice Ao13 t104.length co13] 30 (0, 0)) (Q0 BK108) hb); replace BK114 := am (blk_below (g := gb114) (o := .cells #[.int .i64 t109, .slice Ao18 t110.length co18] 30 (0, 0)) (Q0 BK114) hb); replace BK121 := am (blk_below (g := gb121) (o := .cells #[.int .i64 t116, .slice Ao35 t117.length co35] 30 (0, 0)) (Q0 BK121) hb); replace BK127 := am (blk_below (g := gb127) (o := .cells #[.int .i64 t122, .slice Ao42 t123.length co42] 30 (0, 0)) (Q0 BK127) hb); replace BK134 := am (blk_below (g := gb134) (o := .cells #[.int .i64 t129, .slice Ao65 t130.length co65] 30 (0, 0)) (Q0 BK134) hb); replace BK140 := am (blk_below (g := gb140) (o := .cells #[.int .i64 t135, .slice Ao74 t136.length co74] 30 (0, 0)) (Q0 BK140) hb); replace BK156 := am (blk_below (g := gb156) (o := .cells #[.int .i64 t148, .slice Ao149 t149.length co149] 30 (0, 0)) (Q0 BK156) hb); replace BK157 := am (blk_below (g := gb157) (o := .cells #[.int .i64 t152, .slice Ao157 t153.length co157] 30 (0, 0)) (Q0 BK157) hb); replace BK163 := am (blk_below (g := gb163) (o := .cells #[.int .i64 t158, .slice Ao169 t159.length co169] 30 (0, 0)) (Q0 BK163) hb); replace BK169 := am (blk_below (g := gb169) (o := .cells #[.int .i64 t164, .slice Ao184 t165.length co184] 30 (0, 0)) (Q0 BK169) hb); replace HB := am (below_step (Q1 HB) hb); (try clear hb); (try clear hb2); (try clear hk); (try clear hi); (try clear ho0); have hnb239 := NB163_108.out; have hnc239 := NB108_163.out; have hnb240 := NB163_114.out; have hnc240 := NB114_163.out; have hnb241 := NB163_121.out; have hnc241 := NB121_163.out; have hnb242 := NB163_127.out; have hnc242 := NB127_163.out; have hnb243 := NB163_134.out; have hnc243 := NB134_163.out; have hnb244 := NB163_140.out; have hnc244 := NB140_163.out; have hnb245 := NB163_169.out; have hnc245 := NB169_163.out; have hcz246_0 : w237.cell? ⟨gb163, 0, none⟩ = some (.int .i64 t158) := (blk_cell BK163.out 0).trans rfl; have hcz246_1 : w237.cell? ⟨gb163, 1, none⟩ = some (.slice Ao169 t159.length co169) := (blk_cell BK163.out 1).trans rfl; have hfz246_0 := blk_frozen BK163.out 0; have hfz246_1 := blk_frozen BK163.out 1) | ((with_reducible refine gate_callee (f := 34) rfl ?_); refine goesL_ (some 193) rfl rfl Try.func34 (by kernel_rfl) rfl #[.agg #[.int .i64 t158, .slice Ao169 t159.length co169]] rfl Q3 ?_; (with_reducible refine (impl_PartsOf.calls kj184 t158 _ _ t159 t179 t182 _ ?side1 ?side2 A212.out).mono ?_); (case side1 => exact Q169); (case side2 => exact (Kd.R_reads' HO_164001.out).2.1); rintro e w247 ⟨v180, rfl, ho0, hb⟩; refine ⟨_, rfl, ?_⟩; obtain ⟨NS248, hNS248⟩ : ∃ n_ : Nat, n_ = w237.heap.size := ⟨_, rfl⟩; replace HO_109001 := am (Kd.R_below Q15 hb); replace HO_115001 := am (Kd.R_below Q16 hb); replace HO_122001 := am (Kd.R_below Q19 hb); replace HO_128001 := am (Kd.R_below Q20 hb); replace HO_135001 := am (Kd.R_below Q23 hb); replace HO_141001 := am (Kd.R_below Q24 hb); replace HO_157001 := am (Kd.R_below Q71 hb); replace HO_158001 := am (Kd.R_below Q72 hb); replace HO_164001 := am (Kd.R_below Q73 hb); replace HO_170001 := am (Kd.R_below Q74 hb); have HO181 := am (Kd.S_lower (Kd.S_mono (Kd.S_bound (Kd.S_new' (Kd.S_new' ho0 (Kd.S_lt (Q44 HO173))) (Kd.S_lt (Q44 HO177)))) (fun k_ h_ => (⟨h_.1, Nat.le_trans (by first | exact Nat.le_of_eq hNS248 | (rw [hNS248]; exact Nat.le_refl _) | (subst hNS248; simp [World.drewN, World.drew, World.alloc])) h_.2.1⟩ : _ ∧ NS248 ≤ k_))) (below_size (Q1 HB))); replace HO173 := am (Kd.S_mono (ok' := fun k_ => (((((True ∧ NS227 ≤ k_) ∧ some k_ ≠ (v176 : Value).ownBlock) ∧ k_ < NS238) ∧ some k_ ≠ (v180 : Value).ownBlock)) ∧ k_ < NS248) (Kd.S_told (Kd.S_old (Q44 HO173) hb) (Kd.S_base ho0)) (fun k_ h_ => ⟨h_.1, Nat.lt_of_lt_of_le h_.2 Q173⟩)); replace HO177 := am (Kd.S_mono (ok' := fun k_ => ((((True ∧ some k_ ≠ (v172 : Value).ownBlock) ∧ NS238 ≤ k_) ∧ some k_ ≠ (v180 : Value).ownBlock)) ∧ k_ < NS248) (Kd.S_told (Kd.S_old (Q44 HO177) hb) (Kd.S_base ho0)) (fun k_ h_ => ⟨h_.1, Nat.lt_of_lt_of_le h_.2 Q173⟩)); replace BK108 := am (blk_below (g := gb108) (o := .cells #[.int .i64 t103, .slice Ao13 t104.length co13] 30 (0, 0)) (Q0 BK108) hb); replace BK114 := am (blk_below (g := gb114) (o := .cells #[.int .i64 t109, .slice Ao18 t110.length co18] 30 (0, 0)) (Q0 BK114) hb); replace BK121 := am (blk_below (g := gb121) (o := .cells #[.int .i64 t116, .slice Ao35 t117.length co35] 30 (0, 0)) (Q0 BK121) hb); replace BK127 := am (blk_below (g := gb127) (o := .cells #[.int .i64 t122, .slice Ao42 t123.length co42] 30 (0, 0)) (Q0 BK127) hb); replace BK134 := am (blk_below (g := gb134) (o := .cells #[.int .i64 t129, .slice Ao65 t130.length co65] 30 (0, 0)) (Q0 BK134) hb); replace BK140 := am (blk_below (g := gb140) (o := .cells #[.int .i64 t135, .slice Ao74 t136.length co74] 30 (0, 0)) (Q0 BK140) hb); replace BK156 := am (blk_below (g := gb156) (o := .cells #[.int .i64 t148, .slice Ao149 t149.length co149] 30 (0, 0)) (Q0 BK156) hb); replace BK157 := am (blk_below (g := gb157) (o := .cells #[.int .i64 t152, .slice Ao157 t153.length co157] 30 (0, 0)) (Q0 BK157) hb); replace BK163 := am (blk_below (g := gb163) (o := .cells #[.int .i64 t158, .slice Ao169 t159.length co169] 30 (0, 0)) (Q0 BK163) hb); replace BK169 := am (blk_below (g := gb169) (o := .cells #[.int .i64 t164, .slice Ao184 t165.length co184] 30 (0, 0)) (Q0 BK169) hb); replace HB := am (below_step (Q1 HB) hb); (try clear hb); (try clear hb2); (try clear hk); (try clear hi); (try clear ho0); have hcz249_0 : w247.cell? ⟨gb163, 0, none⟩ = some (.int .i64 t158) := (blk_cell BK163.out 0).trans rfl; have hcz249_1 : w247.cell? ⟨gb163, 1, none⟩ = some (.slice Ao169 t159.length co169) := (blk_cell BK163.out 1).trans rfl; have hfz249_0 := blk_frozen BK163.out 0; have hfz249_1 := blk_frozen BK163.out 1) | ((with_reducible refine gate_callee (f := 35) rfl ?_); refine goesL_ (some 198) rfl rfl Try.func35 (by kernel_rfl) rfl #[.agg #[.int .i64 t158, .slice Ao169 t159.length co169], .int .i64 0] rfl Q3 ?_; (with_reducible refine (impl_RemoveNode.calls kj184 t158 _ _ t159 0 t183 t184 t187 _ ?side1 ?side2 A213.out).mono ?_); (case side1 => exact Q169); (case side2 => exact (Kd.R_reads' HO_164001.out).2.1); rintro e w250 ⟨v185, rfl, ho0, hb⟩; refine ⟨_, rfl, ?_⟩; replace HO173 := am (Kd.S_below (Q44 HO173) hb); replace HO177 := am (Kd.S_below (Q44 HO177) hb); replace HO181 := am (Kd.S_below (Q44 HO181) hb); have HO186 := am (Kd.R_lower (Kd.R_new' (Kd.R_new' (Kd.R_new' (Kd.R_new' (Kd.R_new' (Kd.R_new' (Kd.R_new' (Kd.R_new' (Kd.R_new' (Kd.R_new' ho0 (Kd.R_lt Q15)) (Kd.R_lt Q16)) (Kd.R_lt Q19)) (Kd.R_lt Q20)) (Kd.R_lt Q23)) (Kd.R_lt Q24)) (Kd.R_lt Q71)) (Kd.R_lt Q72)) (Kd.R_lt Q73)) (Kd.R_lt Q74)) (below_size (Q1 HB))); replace HO_109001 := am (Kd.R_elder' Q15 (Kd.R_base ho0) hb); replace HO_115001 := am (Kd.R_elder' Q16 (Kd.R_base ho0) hb); replace HO_122001 := am (Kd.R_elder' Q19 (Kd.R_base ho0) hb); replace HO_128001 := am (Kd.R_elder' Q20 (Kd.R_base ho0) hb); replace HO_135001 := am (Kd.R_elder' Q23 (Kd.R_base ho0) hb); replace HO_141001 := am (Kd.R_elder' Q24 (Kd.R_base ho0) hb); replace HO_157001 := am (Kd.R_elder' Q71 (Kd.R_base ho0) hb); replace HO_158001 := am (Kd.R_elder' Q72 (Kd.R_base ho0) hb); replace HO_164001 := am (Kd.R_elder' Q73 (Kd.R_base ho0) hb); replace HO_170001 := am (Kd.R_elder' Q74 (Kd.R_base ho0) hb); replace BK108 := am (blk_below (g := gb108) (o := .cells #[.int .i64 t103, .slice Ao13 t104.length co13] 30 (0, 0)) (Q0 BK108) hb); replace BK114 := am (blk_below (g := gb114) (o := .cells #[.int .i64 t109, .slice Ao18 t110.length co18] 30 (0, 0)) (Q0 BK114) hb); replace BK121 := am (blk_below (g := gb121) (o := .cells #[.int .i64 t116, .slice Ao35 t117.length co35] 30 (0, 0)) (Q0 BK121) hb); replace BK127 := am (blk_below (g := gb127) (o := .cells #[.int .i64 t122, .slice Ao42 t123.length co42] 30 (0, 0)) (Q0 BK127) hb); replace BK134 := am (blk_below (g := gb134) (o := .cells #[.int .i64 t129, .slice Ao65 t130.length co65] 30 (0, 0)) (Q0 BK134) hb); replace BK140 := am (blk_below (g := gb140) (o := .cells #[.int .i64 t135, .slice Ao74 t136.length co74] 30 (0, 0)) (Q0 BK140) hb); replace BK156 := am (blk_below (g := gb156) (o := .cells #[.int .i64 t148, .slice Ao149 t149.length co149] 30 (0, 0)) (Q0 BK156) hb); replace BK157 := am (blk_below (g := gb157) (o := .cells #[.int .i64 t152, .slice Ao157 t153.length co157] 30 (0, 0)) (Q0 BK157) hb); replace BK163 := am (blk_below (g := gb163) (o := .cells #[.int .i64 t158, .slice Ao169 t159.length co169] 30 (0, 0)) (Q0 BK163) hb); replace BK169 := am (blk_below (g := gb169) (o := .cells #[.int .i64 t164, .slice Ao184 t165.length co184] 30 (0, 0)) (Q0 BK169) hb); replace HB := am (below_step (Q1 HB) hb); (try clear hb); (try clear hb2); (try clear hk); (try clear hi); (try clear ho0)) | ((with_reducible refine gate_dst (N := 35) rfl ?_); (try (refine gate_guard (by rfl) ?_; dsimp only)); refine box_event ?hg (N := 35) ?hd (cs := #[.int .i64 0, .slice none 0 0]) (t := 30) ?hr ?_; (case hd => rfl); (case hg => rfl); (case hr => first | (go_simp; done) | (go_simp; rfl)); intro gb188 hg w251 hbox hb; replace HO_109001 := am (Kd.R_below Q15 hb); replace HO_115001 := am (Kd.R_below Q16 hb); replace HO_122001 := am (Kd.R_below Q19 hb); replace HO_128001 := am (Kd.R_below Q20 hb); replace HO_135001 := am (Kd.R_below Q23 hb); replace HO_141001 := am (Kd.R_below Q24 hb); replace HO_157001 := am (Kd.R_below Q71 hb); replace HO_158001 := am (Kd.R_below Q72 hb); replace HO_164001 := am (Kd.R_below Q73 hb); replace HO_170001 := am (Kd.R_below Q74 hb); replace HO173 := am (Kd.S_below (Q44 HO173) hb); replace HO177 := am (Kd.S_below (Q44 HO177) hb); replace HO181 := am (Kd.S_below (Q44 HO181) hb); replace HO186 := am (Kd.R_below (Q6 HO186) hb); have BK188 := am (hbox); have GW188 := am ((Q25 : w.heap.size ≤ gb188)); have GE188 := am ((Q25 : w.heap.size ≤ gb188)); replace HB := am (below_step (Q1 HB) hb); have NB108_188 := am ((Q46 : gb108 ≠ gb188)); have NB188_108 := am ((Q47 : gb188 ≠ gb108)); replace BK108 := am (blk_below (g := gb108) (o := .cells #[.int .i64 t103, .slice Ao13 t104.length co13] 30 (0, 0)) (Q0 BK108) hb); have NB114_188 := am ((Q50 : gb114 ≠ gb188)); have NB188_114 := am ((Q51 : gb188 ≠ gb114)); replace BK114 := am (blk_below (g := gb114) (o := .cells #[.int .i64 t109, .slice Ao18 t110.length co18] 30 (0, 0)) (Q0 BK114) hb); have NB121_188 := am ((Q53 : gb121 ≠ gb188)); have NB188_121 := am ((Q54 : gb188 ≠ gb121)); replace BK121 := am (blk_below (g := gb121) (o := .cells #[.int .i64 t116, .slice Ao35 t117.length co35] 30 (0, 0)) (Q0 BK121) hb); have NB127_188 := am ((Q58 : gb127 ≠ gb188)); have NB188_127 := am ((Q59 : gb188 ≠ gb127)); replace BK127 := am (blk_below (g := gb127) (o := .cells #[.int .i64 t122, .slice Ao42 t123.length co42] 30 (0, 0)) (Q0 BK127) hb); have NB134_188 := am ((Q65 : gb134 ≠ gb188)); have NB188_134 := am ((Q66 : gb188 ≠ gb134)); replace BK134 := am (blk_below (g := gb134) (o := .cells #[.int .i64 t129, .slice Ao65 t130.length co65] 30 (0, 0)) (Q0 BK134) hb); have NB140_188 := am ((Q69 : gb140 ≠ gb188)); have NB188_140 := am ((Q70 : gb188 ≠ gb140)); replace BK140 := am (blk_below (g := gb140) (o := .cells #[.int .i64 t135, .slice Ao74 t136.length co74] 30 (0, 0)) (Q0 BK140) hb); have NB156_188 := am ((Q103 : gb156 ≠ gb188)); have NB188_156 := am ((Q104 : gb188 ≠ gb156)); replace BK156 := am (blk_below (g := gb156) (o := .cells #[.int .i64 t148, .slice Ao149 t149.length co149] 30 (0, 0)) (Q0 BK156) hb); have NB157_188 := am ((Q105 : gb157 ≠ gb188)); have NB188_157 := am ((Q106 : gb188 ≠ gb157)); replace BK157 := am (blk_below (g := gb157) (o := .cells #[.int .i64 t152, .slice Ao157 t153.length co157] 30 (0, 0)) (Q0 BK157) hb); have NB163_188 := am ((Q156 : gb163 ≠ gb188)); have NB188_163 := am ((Q157 : gb188 ≠ gb163)); replace BK163 := am (blk_below (g := gb163) (o := .cells #[.int .i64 t158, .slice Ao169 t159.length co169] 30 (0, 0)) (Q0 BK163) hb); have NB169_188 := am ((by rw [hg]; exact Nat.ne_of_lt (blk_lt (g := gb169) (o := .cells #[.int .i64 t164, .slice Ao184 t165.length co184] 30 (0, 0)) (Q0 BK169)) : gb169 ≠ gb188)); have NB188_169 := am ((by rw [hg]; exact Nat.ne_of_gt (blk_lt (g := gb169) (o := .cells #[.int .i64 t164, .slice Ao184 t165.length co184] 30 (0, 0)) (Q0 BK169)) : gb188 ≠ gb169)); replace BK169 := am (blk_below (g := gb169) (o := .cells #[.int .i64 t164, .slice Ao184 t165.length co184] 30 (0, 0)) (Q0 BK169) hb); clear hb hbox hg; have hnb252 := NB188_108.out; have hnc252 := NB108_188.out; have hnb253 := NB188_114.out; have hnc253 := NB114_188.out; have hnb254 := NB188_121.out; have hnc254 := NB121_188.out; have hnb255 := NB188_127.out; have hnc255 := NB127_188.out; have hnb256 := NB188_134.out; have hnc256 := NB134_188.out; have hnb257 := NB188_140.out; have hnc257 := NB140_188.out; have hnb258 := NB188_156.out; have hnc258 := NB156_188.out; have hnb259 := NB188_157.out; have hnc259 := NB157_188.out; have hnb260 := NB188_163.out; have hnc260 := NB163_188.out; have hnb261 := NB188_169.out; have hnc261 := NB169_188.out; have hcz262_0 : w251.cell? ⟨gb188, 0, none⟩ = some (.int .i64 0) := (blk_cell BK188.out 0).trans rfl; have hcz262_1 : w251.cell? ⟨gb188, 1, none⟩ = some (.slice none 0 0) := (blk_cell BK188.out 1).trans rfl; have hfz262_0 := blk_frozen BK188.out 0; have hfz262_1 := blk_frozen BK188.out 1; obtain ⟨Ao263, co263, eo263⟩ := Kd.R_slice HO186.out; subst eo263; have hcz264_0 : w251.cell? ⟨gb163, 0, none⟩ = some (.int .i64 t158) := (blk_cell BK163.out 0).trans rfl; have hcz264_1 : w251.cell? ⟨gb163, 1, none⟩ = some (.slice Ao169 t159.length co169) := (blk_cell BK163.out 1).trans rfl; have hfz264_0 := blk_frozen BK163.out 0; have hfz264_1 := blk_frozen BK163.out 1) | ((with_reducible refine gate_callee (f := 36) rfl ?_); refine goesL_ (some 203) rfl rfl Try.func36 (by kernel_rfl) rfl #[.agg #[.int .i64 t158, .slice Ao169 t159.length co169], .int .i64 0] rfl Q3 ?_; (with_reducible refine (spec_RemoveNode.calls kj184 t158 _ _ t159 0 t189 t190 t193 _ ?side1 ?side2 A214.out).mono ?_); (case side1 => refine (Kd.R_reads' (e := 71) (base := w.heap.size) (ok := fun k_ => ((some k_ ≠ (.slice Ao13 t104.length co13 : Value).ownBlock ∧ (some k_ ≠ (.slice Ao18 t110.length co18 : Value).ownBlock ∧ (some k_ ≠ (.slice Ao35 t117.length co35 : Value).ownBlock ∧ (some k_ ≠ (.slice Ao42 t123.length co42 : Value).ownBlock ∧ (some k_ ≠ (.slice Ao65 t130.length co65 : Value).ownBlock ∧ (some k_ ≠ (.slice Ao74 t136.length co74 : Value).ownBlock ∧ (some k_ ≠ (.slice Ao149 t149.length co149 : Value).ownBlock ∧ (some k_ ≠ (.slice Ao157 t153.length co157 : Value).ownBlock ∧ some k_ ≠ (.slice Ao184 t165.length co184 : Value).ownBlock)))))))) ∧ some k_ ≠ (.slice Ao263 t184.length co263 : Value).ownBlock)) (n := t159.length) (c := co169) ?_).2.2; exact (Q75 BK188)); (case side2 => exact (Kd.R_reads' HO_164001.out).2.1); rintro e w265 ⟨v191, rfl, ho0, hb⟩; refine ⟨_, rfl, ?_⟩; replace HO173 := am (Kd.S_below (Q76 HO173 BK188) hb); replace HO177 := am (Kd.S_below (Q76 HO177 BK188) hb); replace HO181 := am (Kd.S_below (Q76 HO181 BK188) hb); have HO192 := am (Kd.R_lower (Kd.R_new' (Kd.R_new' (Kd.R_new' (Kd.R_new' (Kd.R_new' (Kd.R_new' (Kd.R_new' (Kd.R_new' (Kd.R_new' (Kd.R_new' (Kd.R_new' ho0 (Kd.R_lt (Q120 BK188))) (Kd.R_lt (Q121 BK188))) (Kd.R_lt (Q122 BK188))) (Kd.R_lt (Q123 BK188))) (Kd.R_lt (Q124 BK188))) (Kd.R_lt (Q125 BK188))) (Kd.R_lt (Q126 BK188))) (Kd.R_lt (Q127 BK188))) (Kd.R_lt (Q75 BK188))) (Kd.R_lt (Q128 BK188))) (Kd.R_lt (Q148 HO186 BK188))) (below_size (Q5 HB GE188))); replace HO_109001 := am (Kd.R_elder' (Q120 BK188) (Kd.R_base ho0) hb); replace HO_115001 := am (Kd.R_elder' (Q121 BK188) (Kd.R_base ho0) hb); replace HO_122001 := am (Kd.R_elder' (Q122 BK188) (Kd.R_base ho0) hb); replace HO_128001 := am (Kd.R_elder' (Q123 BK188) (Kd.R_base ho0) hb); replace HO_135001 := am (Kd.R_elder' (Q124 BK188) (Kd.R_base ho0) hb); replace HO_141001 := am (Kd.R_elder' (Q125 BK188) (Kd.R_base ho0) hb); replace HO_157001 := am (Kd.R_elder' (Q126 BK188) (Kd.R_base ho0) hb); replace HO_158001 := am (Kd.R_elder' (Q127 BK188) (Kd.R_base ho0) hb); replace HO_164001 := am (Kd.R_elder' (Q75 BK188) (Kd.R_base ho0) hb); replace HO_170001 := am (Kd.R_elder' (Q128 BK188) (Kd.R_base ho0) hb); replace HO186 := am (Kd.R_elder' (Q148 HO186 BK188) (Kd.R_base ho0) hb); replace BK108 := am (blk_below (g := gb108) (o := .cells #[.int .i64 t103, .slice Ao13 t104.length co13] 30 (0, 0)) (Q2 NB108_188 BK108) hb); replace BK114 := am (blk_below (g := gb114) (o := .cells #[.int .i64 t109, .slice Ao18 t110.length co18] 30 (0, 0)) (Q2 NB114_188 BK114) hb); replace BK121 := am (blk_below (g := gb121) (o := .cells #[.int .i64 t116, .slice Ao35 t117.length co35] 30 (0, 0)) (Q2 NB121_188 BK121) hb); replace BK127 := am (blk_below (g := gb127) (o := .cells #[.int .i64 t122, .slice Ao42 t123.length co42] 30 (0, 0)) (Q2 NB127_188 BK127) hb); replace BK134 := am (blk_below (g := gb134) (o := .cells #[.int .i64 t129, .slice Ao65 t130.length co65] 30 (0, 0)) (Q2 NB134_188 BK134) hb); replace BK140 := am (blk_below (g := gb140) (o := .cells #[.int .i64 t135, .slice Ao74 t136.length co74] 30 (0, 0)) (Q2 NB140_188 BK140) hb); replace BK156 := am (blk_below (g := gb156) (o := .cells #[.int .i64 t148, .slice Ao149 t149.length co149] 30 (0, 0)) (Q2 NB156_188 BK156) hb); replace BK157 := am (blk_below (g := gb157) (o := .cells #[.int .i64 t152, .slice Ao157 t153.length co157] 30 (0, 0)) (Q2 NB157_188 BK157) hb); replace BK163 := am (blk_below (g := gb163) (o := .cells #[.int .i64 t158, .slice Ao169 t159.length co169] 30 (0, 0)) (Q2 NB163_188 BK163) hb); replace BK169 := am (blk_below (g := gb169) (o := .cells #[.int .i64 t164, .slice Ao184 t165.length co184] 30 (0, 0)) (Q2 NB169_188 BK169) hb); replace BK188 := am (blk_below (g := gb188) (o := .cells #[.int .i64 t183, .slice Ao263 t184.length co263] 30 (0, 0)) (by (with_reducible repeat (first | refine blk_drewN ?_ _ | refine blk_drew ?_ | refine blk_alloc ?_ _)); refine blk_put (cs := #[.int .i64 t183, .slice none 0 0]) ?_ 1 _ rfl; (with_reducible repeat (first | refine blk_drewN ?_ _ | refine blk_drew ?_ | refine blk_alloc ?_ _)); refine blk_put (cs := #[.int .i64 0, .slice none 0 0]) ?_ 0 _ rfl; (with_reducible repeat (first | refine blk_drewN ?_ _ | refine blk_drew ?_ | refine blk_alloc ?_ _)); exact BK188.out) hb); replace HB := am (below_step (Q5 HB GE188) hb); (try clear hb); (try clear hb2); (try clear hk); (try clear hi); (try clear ho0)) | ((with_reducible refine gate_dst (N := 37) rfl ?_); (try (refine gate_guard (by rfl) ?_; dsimp only)); refine box_event ?hg (N := 37) ?hd (cs := #[.int .i64 0, .slice none 0 0]) (t := 30) ?hr ?_; (case hd => rfl); (case hg => rfl); (case hr => first | (go_simp; done) | (go_simp; rfl)); intro gb194 hg w266 hbox hb; replace HO_109001 := am (Kd.R_below Q15 hb); replace HO_115001 := am (Kd.R_below Q16 hb); replace HO_122001 := am (Kd.R_below Q19 hb); replace HO_128001 := am (Kd.R_below Q20 hb); replace HO_135001 := am (Kd.R_below Q23 hb); replace HO_141001 := am (Kd.R_below Q24 hb); replace HO_157001 := am (Kd.R_below Q71 hb); replace HO_158001 := am (Kd.R_below Q72 hb); replace HO_164001 := am (Kd.R_below Q73 hb); replace HO_170001 := am (Kd.R_below Q74 hb); replace HO173 := am (Kd.S_below (Q44 HO173) hb); replace HO177 := am (Kd.S_below (Q44 HO177) hb); replace HO181 := am (Kd.S_below (Q44 HO181) hb); replace HO186 := am (Kd.R_below (Q6 HO186) hb); replace HO192 := am (Kd.R_below (Q6 HO192) hb); have BK194 := am (hbox); have GW194 := am ((Q25 : w.heap.size ≤ gb194)); have GE194 := am ((Q25 : w.heap.size ≤ gb194)); replace HB := am (below_step (Q1 HB) hb); have NB108_194 := am ((Q46 : gb108 ≠ gb194)); have NB194_108 := am ((Q47 : gb194 ≠ gb108)); replace BK108 := am (blk_below (g := gb108) (o := .cells #[.int .i64 t103, .slice Ao13 t104.length co13] 30 (0, 0)) (Q0 BK108) hb); have NB114_194 := am ((Q50 : gb114 ≠ gb194)); have NB194_114 := am ((Q51 : gb194 ≠ gb114)); replace BK114 := am (blk_below (g := gb114) (o := .cells #[.int .i64 t109, .slice Ao18 t110.length co18] 30 (0, 0)) (Q0 BK114) hb); have NB121_194 := am ((Q53 : gb121 ≠ gb194)); have NB194_121 := am ((Q54 : gb194 ≠ gb121)); replace BK121 := am (blk_below (g := gb121) (o := .cells #[.int .i64 t116, .slice Ao35 t117.length co35] 30 (0, 0)) (Q0 BK121) hb); have NB127_194 := am ((Q58 : gb127 ≠ gb194)); have NB194_127 := am ((Q59 : gb194 ≠ gb127)); replace BK127 := am (blk_below (g := gb127) (o := .cells #[.int .i64 t122, .slice Ao42 t123.length co42] 30 (0, 0)) (Q0 BK127) hb); have NB134_194 := am ((Q65 : gb134 ≠ gb194)); have NB194_134 := am ((Q66 : gb194 ≠ gb134)); replace BK134 := am (blk_below (g := gb134) (o := .cells #[.int .i64 t129, .slice Ao65 t130.length co65] 30 (0, 0)) (Q0 BK134) hb); have NB140_194 := am ((Q69 : gb140 ≠ gb194)); have NB194_140 := am ((Q70 : gb194 ≠ gb140)); replace BK140 := am (blk_below (g := gb140) (o := .cells #[.int .i64 t135, .slice Ao74 t136.length co74] 30 (0, 0)) (Q0 BK140) hb); have NB156_194 := am ((Q103 : gb156 ≠ gb194)); have NB194_156 := am ((Q104 : gb194 ≠ gb156)); replace BK156 := am (blk_below (g := gb156) (o := .cells #[.int .i64 t148, .slice Ao149 t149.length co149] 30 (0, 0)) (Q0 BK156) hb); have NB157_194 := am ((Q105 : gb157 ≠ gb194)); have NB194_157 := am ((Q106 : gb194 ≠ gb157)); replace BK157 := am (blk_below (g := gb157) (o := .cells #[.int .i64 t152, .slice Ao157 t153.length co157] 30 (0, 0)) (Q0 BK157) hb); have NB163_194 := am ((Q156 : gb163 ≠ gb194)); have NB194_163 := am ((Q157 : gb194 ≠ gb163)); replace BK163 := am (blk_below (g := gb163) (o := .cells #[.int .i64 t158, .slice Ao169 t159.length co169] 30 (0, 0)) (Q0 BK163) hb); have NB169_194 := am ((by rw [hg]; exact Nat.ne_of_lt (blk_lt (g := gb169) (o := .cells #[.int .i64 t164, .slice Ao184 t165.length co184] 30 (0, 0)) (Q0 BK169)) : gb169 ≠ gb194)); have NB194_169 := am ((by rw [hg]; exact Nat.ne_of_gt (blk_lt (g := gb169) (o := .cells #[.int .i64 t164, .slice Ao184 t165.length co184] 30 (0, 0)) (Q0 BK169)) : gb194 ≠ gb169)); replace BK169 := am (blk_below (g := gb169) (o := .cells #[.int .i64 t164, .slice Ao184 t165.length co184] 30 (0, 0)) (Q0 BK169) hb); have NB188_194 := am ((by rw [hg]; exact Nat.ne_of_lt (blk_lt (g := gb188) (o := .cells #[.int .i64 t183, .slice Ao263 t184.length co263] 30 (0, 0)) (Q0 BK188)) : gb188 ≠ gb194)); have NB194_188 := am ((by rw [hg]; exact Nat.ne_of_gt (blk_lt (g := gb188) (o := .cells #[.int .i64 t183, .slice Ao263 t184.length co263] 30 (0, 0)) (Q0 BK188)) : gb194 ≠ gb188)); replace BK188 := am (blk_below (g := gb188) (o := .cells #[.int .i64 t183, .slice Ao263 t184.length co263] 30 (0, 0)) (Q0 BK188) hb); clear hb hbox hg; have hnb267 := NB194_108.out; have hnc267 := NB108_194.out; have hnb268 := NB194_114.out; have hnc268 := NB114_194.out; have hnb269 := NB194_121.out; have hnc269 := NB121_194.out; have hnb270 := NB194_127.out; have hnc270 := NB127_194.out; have hnb271 := NB194_134.out; have hnc271 := NB134_194.out; have hnb272 := NB194_140.out; have hnc272 := NB140_194.out; have hnb273 := NB194_156.out; have hnc273 := NB156_194.out; have hnb274 := NB194_157.out; have hnc274 := NB157_194.out; have hnb275 := NB194_163.out; have hnc275 := NB163_194.out; have hnb276 := NB194_169.out; have hnc276 := NB169_194.out; have hnb277 := NB194_188.out; have hnc277 := NB188_194.out; have hcz278_0 : w266.cell? ⟨gb194, 0, none⟩ = some (.int .i64 0) := (blk_cell BK194.out 0).trans rfl; have hcz278_1 : w266.cell? ⟨gb194, 1, none⟩ = some (.slice none 0 0) := (blk_cell BK194.out 1).trans rfl; have hfz278_0 := blk_frozen BK194.out 0; have hfz278_1 := blk_frozen BK194.out 1; obtain ⟨Ao279, co279, eo279⟩ := Kd.R_slice HO192.out; subst eo279))
                     (try simp only [Act.put, List.setIfInBounds_toArray, List.set_cons_zero, List.set_cons_succ]); have H := HU215.out; clear HU215
                     by_cases c280 : (t187 != t193) = true
                     ·rw [if_pos c280] at H
                      have c280b0 : (t187 != t193) = true := c280; (try (have c280b1 : decide (t187 = t193) = false := by simpa using c280)); (try (have c280b2 : (t187 == t193) = false := by simpa using c280)); (try (have c280b3 : ¬ (t187 = t193) := by simpa using c280)); (try (have c280b4 : (!(t187 == t193)) = true := by simpa using c280)); clear c280; exact absurd H (by simp)
                     ·rw [if_neg c280] at H
                      have c280b0 : (t187 != t193) = false := by simpa using c280
                      (try (have c280b1 : decide (t187 = t193) = true := by simpa using c280)); (try (have c280b2 : (t187 == t193) = true := by simpa using c280)); (try (have c280b3 : (!(t187 == t193)) = false := by simpa using c280)); clear c280; replace H := (ob H); obtain ⟨t195, A2810, H⟩ := H; (try dsimp only at H); have A281 := Aside0.mk A2810; clear A2810
                      by_cases c282 : t195 = true
                      ·subst c282
                       have H1 : (if (t187 != (decide (t158 > 0))) = true then (none) else (if t174 = true then (if t178 = true then (if t182 = true then (some ((t179.length : Int) == (wrap64 ((t171.length : Int) + (t175.length : Int))))) else (none)) else (none)) else (none))) = some r := by rw [if_pos rfl] at H; exact H
                       clear H; have H := H1; clear H1; have HU283 := Aside0.mk H; clear H; have hnb284 := NB188_108.out; have hnc284 := NB108_188.out; have hnb285 := NB188_114.out; have hnc285 := NB114_188.out; have hnb286 := NB188_121.out; have hnc286 := NB121_188.out; have hnb287 := NB188_127.out; have hnc287 := NB127_188.out; have hnb288 := NB188_134.out; have hnc288 := NB134_188.out; have hnb289 := NB188_140.out; have hnc289 := NB140_188.out; have hnb290 := NB188_156.out; have hnc290 := NB156_188.out; have hnb291 := NB188_157.out; have hnc291 := NB157_188.out; have hnb292 := NB188_163.out; have hnc292 := NB163_188.out; have hnb293 := NB188_169.out; have hnc293 := NB169_188.out; have hnb294 := NB188_194.out; have hnc294 := NB194_188.out; have hcz295_0 : w266.cell? ⟨gb188, 0, none⟩ = some (.int .i64 t183) := (blk_cell BK188.out 0).trans rfl; have hcz295_1 : w266.cell? ⟨gb188, 1, none⟩ = some (.slice Ao263 t184.length co263) := (blk_cell BK188.out 1).trans rfl; have hfz295_0 := blk_frozen BK188.out 0; have hfz295_1 := blk_frozen BK188.out 1; have hnb296 := NB194_108.out; have hnc296 := NB108_194.out; have hnb297 := NB194_114.out; have hnc297 := NB114_194.out; have hnb298 := NB194_121.out; have hnc298 := NB121_194.out; have hnb299 := NB194_127.out; have hnc299 := NB127_194.out; have hnb300 := NB194_134.out; have hnc300 := NB134_194.out; have hnb301 := NB194_140.out; have hnc301 := NB140_194.out; have hnb302 := NB194_156.out; have hnc302 := NB156_194.out; have hnb303 := NB194_157.out; have hnc303 := NB157_194.out; have hnb304 := NB194_163.out; have hnc304 := NB163_194.out; have hnb305 := NB194_169.out; have hnc305 := NB169_194.out; have hcz306_0 : w266.cell? ⟨gb194, 0, none⟩ = some (.int .i64 0) := (blk_cell BK194.out 0).trans rfl; have hcz306_1 : w266.cell? ⟨gb194, 1, none⟩ = some (.slice none 0 0) := (blk_cell BK194.out 1).trans rfl; have hfz306_0 := blk_frozen BK194.out 0; have hfz306_1 := blk_frozen BK194.out 1
                       go_upto_if 221 with (first | (go_at_call 25; (with_reducible refine (laws_rGraph.calls kj184 t183 _ _ t184 t189 _ _ t190 true _ ?side1 ?side2 ?side3 ?side4 A281.out).mono ?_); (case side1 => refine (Kd.R_reads' (e := 71) (base := w.heap.size) (ok := fun k_ => (((((((((((True ∧ some k_ ≠ (.slice Ao13 t104.length co13 : Value).ownBlock) ∧ some k_ ≠ (.slice Ao18 t110.length co18 : Value).ownBlock) ∧ some k_ ≠ (.slice Ao35 t117.length co35 : Value).ownBlock) ∧ some k_ ≠ (.slice Ao42 t123.length co42 : Value).ownBlock) ∧ some k_ ≠ (.slice Ao65 t130.length co65 : Value).ownBlock) ∧ some k_ ≠ (.slice Ao74 t136.length co74 : Value).ownBlock) ∧ some k_ ≠ (.slice Ao149 t149.length co149 : Value).ownBlock) ∧ some k_ ≠ (.slice Ao157 t153.length co157 : Value).ownBlock) ∧ some k_ ≠ (.slice Ao169 t159.length co169 : Value).ownBlock) ∧ some k_ ≠ (.slice Ao184 t165.length co184 : Value).ownBlock) ∧ some k_ ≠ (.slice Ao279 t190.length co279 : Value).ownBlock)) (n := t184.length) (c := co263) ?_).2.2; exact (Q34 HO186 BK194)); (case side2 => exact (Kd.R_reads' HO186.out).2.1); (case side3 => refine (Kd.R_reads' (e := 71) (base := w.heap.size) (ok := fun k_ => (((((((((((True ∧ some k_ ≠ (.slice Ao13 t104.length co13 : Value).ownBlock) ∧ some k_ ≠ (.slice Ao18 t110.length co18 : Value).ownBlock) ∧ some k_ ≠ (.slice Ao35 t117.length co35 : Value).ownBlock) ∧ some k_ ≠ (.slice Ao42 t123.length co42 : Value).ownBlock) ∧ some k_ ≠ (.slice Ao65 t130.length co65 : Value).ownBlock) ∧ some k_ ≠ (.slice Ao74 t136.length co74 : Value).ownBlock) ∧ some k_ ≠ (.slice Ao149 t149.length co149 : Value).ownBlock) ∧ some k_ ≠ (.slice Ao157 t153.length co157 : Value).ownBlock) ∧ some k_ ≠ (.slice Ao169 t159.length co169 : Value).ownBlock) ∧ some k_ ≠ (.slice Ao184 t165.length co184 : Value).ownBlock) ∧ some k_ ≠ (.slice Ao263 t184.length co263 : Value).ownBlock)) (n := t190.length) (c := co279) ?_).2.2; exact (Q34 HO192 BK194)); (case side4 => exact (Kd.R_reads' HO192.out).2.1); rintro e w307 ⟨rfl, hb⟩; replace HO_109001 := am (Kd.R_below (Q129 BK194) hb); replace HO_115001 := am (Kd.R_below (Q130 BK194) hb); replace HO_122001 := am (Kd.R_below (Q131 BK194) hb); replace HO_128001 := am (Kd.R_below (Q132 BK194) hb); replace HO_135001 := am (Kd.R_below (Q133 BK194) hb); replace HO_141001 := am (Kd.R_below (Q134 BK194) hb); replace HO_157001 := am (Kd.R_below (Q135 BK194) hb); replace HO_158001 := am (Kd.R_below (Q136 BK194) hb); replace HO_164001 := am (Kd.R_below (Q137 BK194) hb); replace HO_170001 := am (Kd.R_below (Q138 BK194) hb); replace HO173 := am (Kd.S_below (Q42 HO173 BK194) hb); replace HO177 := am (Kd.S_below (Q42 HO177 BK194) hb); replace HO181 := am (Kd.S_below (Q42 HO181 BK194) hb); replace HO186 := am (Kd.R_below (Q34 HO186 BK194) hb); replace HO192 := am (Kd.R_below (Q34 HO192 BK194) hb); replace BK108 := am (blk_below (g := gb108) (o := .cells #[.int .i64 t103, .slice Ao13 t104.length co13] 30 (0, 0)) (Q2 NB108_194 BK108) hb); replace BK114 := am (blk_below (g := gb114) (o := .cells #[.int .i64 t109, .slice Ao18 t110.length co18] 30 (0, 0)) (Q2 NB114_194 BK114) hb); replace BK121 := am (blk_below (g := gb121) (o := .cells #[.int .i64 t116, .slice Ao35 t117.length co35] 30 (0, 0)) (Q2 NB121_194 BK121) hb); replace BK127 := am (blk_below (g := gb127) (o := .cells #[.int .i64 t122, .slice Ao42 t123.length co42] 30 (0, 0)) (Q2 NB127_194 BK127) hb); replace BK134 := am (blk_below (g := gb134) (o := .cells #[.int .i64 t129, .slice Ao65 t130.length co65] 30 (0, 0)) (Q2 NB134_194 BK134) hb); replace BK140 := am (blk_below (g := gb140) (o := .cells #[.int .i64 t135, .slice Ao74 t136.length co74] 30 (0, 0)) (Q2 NB140_194 BK140) hb); replace BK156 := am (blk_below (g := gb156) (o := .cells #[.int .i64 t148, .slice Ao149 t149.length co149] 30 (0, 0)) (Q2 NB156_194 BK156) hb); replace BK157 := am (blk_below (g := gb157) (o := .cells #[.int .i64 t152, .slice Ao157 t153.length co157] 30 (0, 0)) (Q2 NB157_194 BK157) hb); replace BK163 := am (blk_below (g := gb163) (o := .cells #[.int .i64 t158, .slice Ao169 t159.length co169] 30 (0, 0)) (Q2 NB163_194 BK163) hb); replace BK169 := am (blk_below (g := gb169) (o := .cells #[.int .i64 t164, .slice Ao184 t165.length co184] 30 (0, 0)) (Q2 NB169_194 BK169) hb); replace BK188 := am (blk_below (g := gb188) (o := .cells #[.int .i64 t183, .slice Ao263 t184.length co263] 30 (0, 0)) (Q2 NB188_194 BK188) hb); replace BK194 := am (blk_below (g := gb194) (o := .cells #[.int .i64 t189, .slice Ao279 t190.length co279] 30 (0, 0)) (Q102 BK194) hb); replace HB := am (below_step (Q5 HB GE194) hb); (try clear hb); (try clear hb2); (try clear hk); (try clear hi); have hnb308 := NB163_108.out; have hnc308 := NB108_163.out; have hnb309 := NB163_114.out; have hnc309 := NB114_163.out; have hnb310 := NB163_121.out; have hnc310 := NB121_163.out; have hnb311 := NB163_127.out; have hnc311 := NB127_163.out; have hnb312 := NB163_134.out; have hnc312 := NB134_163.out; have hnb313 := NB163_140.out; have hnc313 := NB140_163.out; have hnb314 := NB163_156.out; have hnc314 := NB156_163.out; have hnb315 := NB163_157.out; have hnc315 := NB157_163.out; have hnb316 := NB163_169.out; have hnc316 := NB169_163.out; have hcz317_0 : w307.cell? ⟨gb163, 0, none⟩ = some (.int .i64 t158) := (blk_cell BK163.out 0).trans rfl; have hcz317_1 : w307.cell? ⟨gb163, 1, none⟩ = some (.slice Ao169 t159.length co169) := (blk_cell BK163.out 1).trans rfl; have hfz317_0 := blk_frozen BK163.out 0; have hfz317_1 := blk_frozen BK163.out 1))
                       (try simp only [Act.put, List.setIfInBounds_toArray, List.set_cons_zero, List.set_cons_succ]); have H := HU283.out; clear HU283
                       by_cases c318 : (t187 != (decide (t158 > 0))) = true
                       ·rw [if_pos c318] at H
                        exact absurd H (by simp)
                       ·rw [if_neg c318] at H
                        have c318b0 : (t187 != (decide (t158 > 0))) = false := by simpa using c318
                        (try (have c318b1 : decide (t187 = (decide (t158 > 0))) = true := by simpa using c318)); (try (have c318b2 : (t187 == (decide (t158 > 0))) = true := by simpa using c318)); (try (have c318b3 : (!(t187 == (decide (t158 > 0)))) = false := by simpa using c318)); clear c318
                        (first | rw [c318b0] | (simp only [i64_w, i32_w]; rw [c318b0]) | rw [c318b3] | skip)
                        by_cases c319 : t174 = true
                        ·subst c319
                         have H1 : (if t178 = true then (if t182 = true then (some ((t179.length : Int) == (wrap64 ((t171.length : Int) + (t175.length : Int))))) else (none)) else (none)) = some r := by rw [if_pos rfl] at H; exact H
                         clear H; have H := H1; clear H1
                         by_cases c320 : t178 = true
                         ·subst c320
                          have H1 : (if t182 = true then (some ((t179.length : Int) == (wrap64 ((t171.length : Int) + (t175.length : Int))))) else (none)) = some r := by rw [if_pos rfl] at H; exact H
                          clear H; have H := H1; clear H1
                          by_cases c321 : t182 = true
                          ·subst c321
                           have H1 : (some ((t179.length : Int) == (wrap64 ((t171.length : Int) + (t175.length : Int))))) = some r := by rw [if_pos rfl] at H; exact H
                           clear H; have H := H1; clear H1; obtain rfl := Option.some.inj H; obtain ⟨Ao322, co322, eo322⟩ := Kd.S_slice HO181.out; subst eo322; obtain ⟨Ao323, co323, eo323⟩ := Kd.S_slice HO173.out; subst eo323; obtain ⟨Ao324, co324, eo324⟩ := Kd.S_slice HO177.out; subst eo324
                           go_wp2
                           go_ret
                           exact ⟨Q10, Q1 HB⟩
                          ·replace c321 := Bool.eq_false_iff.mpr c321
                           subst c321; have H1 : (none) = some r := by rw [if_neg (show ¬ (false = true) by decide)] at H; exact H
                           clear H; have H := H1; clear H1; exact absurd H (by simp)
                         ·replace c320 := Bool.eq_false_iff.mpr c320
                          subst c320; have H1 : (none) = some r := by rw [if_neg (show ¬ (false = true) by decide)] at H; exact H
                          clear H; have H := H1; clear H1; exact absurd H (by simp)
                        ·replace c319 := Bool.eq_false_iff.mpr c319
                         subst c319; have H1 : (none) = some r := by rw [if_neg (show ¬ (false = true) by decide)] at H; exact H
                         clear H; have H := H1; clear H1; exact absurd H (by simp)
                      ·replace c282 := Bool.eq_false_iff.mpr c282
                       subst c282; have H1 : (none) = some r := by rw [if_neg (show ¬ (false = true) by decide)] at H; exact H
                       clear H; have H := H1; clear H1; have HU325 := Aside0.mk H; clear H; have hnb326 := NB188_108.out; have hnc326 := NB108_188.out; have hnb327 := NB188_114.out; have hnc327 := NB114_188.out; have hnb328 := NB188_121.out; have hnc328 := NB121_188.out; have hnb329 := NB188_127.out; have hnc329 := NB127_188.out; have hnb330 := NB188_134.out; have hnc330 := NB134_188.out; have hnb331 := NB188_140.out; have hnc331 := NB140_188.out; have hnb332 := NB188_156.out; have hnc332 := NB156_188.out; have hnb333 := NB188_157.out; have hnc333 := NB157_188.out; have hnb334 := NB188_163.out; have hnc334 := NB163_188.out; have hnb335 := NB188_169.out; have hnc335 := NB169_188.out; have hnb336 := NB188_194.out; have hnc336 := NB194_188.out; have hcz337_0 : w266.cell? ⟨gb188, 0, none⟩ = some (.int .i64 t183) := (blk_cell BK188.out 0).trans rfl; have hcz337_1 : w266.cell? ⟨gb188, 1, none⟩ = some (.slice Ao263 t184.length co263) := (blk_cell BK188.out 1).trans rfl; have hfz337_0 := blk_frozen BK188.out 0; have hfz337_1 := blk_frozen BK188.out 1; have hnb338 := NB194_108.out; have hnc338 := NB108_194.out; have hnb339 := NB194_114.out; have hnc339 := NB114_194.out; have hnb340 := NB194_121.out; have hnc340 := NB121_194.out; have hnb341 := NB194_127.out; have hnc341 := NB127_194.out; have hnb342 := NB194_134.out; have hnc342 := NB134_194.out; have hnb343 := NB194_140.out; have hnc343 := NB140_194.out; have hnb344 := NB194_156.out; have hnc344 := NB156_194.out; have hnb345 := NB194_157.out; have hnc345 := NB157_194.out; have hnb346 := NB194_163.out; have hnc346 := NB163_194.out; have hnb347 := NB194_169.out; have hnc347 := NB169_194.out; have hcz348_0 : w266.cell? ⟨gb194, 0, none⟩ = some (.int .i64 0) := (blk_cell BK194.out 0).trans rfl; have hcz348_1 : w266.cell? ⟨gb194, 1, none⟩ = some (.slice none 0 0) := (blk_cell BK194.out 1).trans rfl; have hfz348_0 := blk_frozen BK194.out 0; have hfz348_1 := blk_frozen BK194.out 1
                       go_upto_if 221 with (first | (go_at_call 25; (with_reducible refine (laws_rGraph.calls kj184 t183 _ _ t184 t189 _ _ t190 false _ ?side1 ?side2 ?side3 ?side4 A281.out).mono ?_); (case side1 => refine (Kd.R_reads' (e := 71) (base := w.heap.size) (ok := fun k_ => (((((((((((True ∧ some k_ ≠ (.slice Ao13 t104.length co13 : Value).ownBlock) ∧ some k_ ≠ (.slice Ao18 t110.length co18 : Value).ownBlock) ∧ some k_ ≠ (.slice Ao35 t117.length co35 : Value).ownBlock) ∧ some k_ ≠ (.slice Ao42 t123.length co42 : Value).ownBlock) ∧ some k_ ≠ (.slice Ao65 t130.length co65 : Value).ownBlock) ∧ some k_ ≠ (.slice Ao74 t136.length co74 : Value).ownBlock) ∧ some k_ ≠ (.slice Ao149 t149.length co149 : Value).ownBlock) ∧ some k_ ≠ (.slice Ao157 t153.length co157 : Value).ownBlock) ∧ some k_ ≠ (.slice Ao169 t159.length co169 : Value).ownBlock) ∧ some k_ ≠ (.slice Ao184 t165.length co184 : Value).ownBlock) ∧ some k_ ≠ (.slice Ao279 t190.length co279 : Value).ownBlock)) (n := t184.length) (c := co263) ?_).2.2; exact (Q34 HO186 BK194)); (case side2 => exact (Kd.R_reads' HO186.out).2.1); (case side3 => refine (Kd.R_reads' (e := 71) (base := w.heap.size) (ok := fun k_ => (((((((((((True ∧ some k_ ≠ (.slice Ao13 t104.length co13 : Value).ownBlock) ∧ some k_ ≠ (.slice Ao18 t110.length co18 : Value).ownBlock) ∧ some k_ ≠ (.slice Ao35 t117.length co35 : Value).ownBlock) ∧ some k_ ≠ (.slice Ao42 t123.length co42 : Value).ownBlock) ∧ some k_ ≠ (.slice Ao65 t130.length co65 : Value).ownBlock) ∧ some k_ ≠ (.slice Ao74 t136.length co74 : Value).ownBlock) ∧ some k_ ≠ (.slice Ao149 t149.length co149 : Value).ownBlock) ∧ some k_ ≠ (.slice Ao157 t153.length co157 : Value).ownBlock) ∧ some k_ ≠ (.slice Ao169 t159.length co169 : Value).ownBlock) ∧ some k_ ≠ (.slice Ao184 t165.length co184 : Value).ownBlock) ∧ some k_ ≠ (.slice Ao263 t184.length co263 : Value).ownBlock)) (n := t190.length) (c := co279) ?_).2.2; exact (Q34 HO192 BK194)); (case side4 => exact (Kd.R_reads' HO192.out).2.1); rintro e w349 ⟨rfl, hb⟩; replace HO_109001 := am (Kd.R_below (Q129 BK194) hb); replace HO_115001 := am (Kd.R_below (Q130 BK194) hb); replace HO_122001 := am (Kd.R_below (Q131 BK194) hb); replace HO_128001 := am (Kd.R_below (Q132 BK194) hb); replace HO_135001 := am (Kd.R_below (Q133 BK194) hb); replace HO_141001 := am (Kd.R_below (Q134 BK194) hb); replace HO_157001 := am (Kd.R_below (Q135 BK194) hb); replace HO_158001 := am (Kd.R_below (Q136 BK194) hb); replace HO_164001 := am (Kd.R_below (Q137 BK194) hb); replace HO_170001 := am (Kd.R_below (Q138 BK194) hb); replace HO173 := am (Kd.S_below (Q42 HO173 BK194) hb); replace HO177 := am (Kd.S_below (Q42 HO177 BK194) hb); replace HO181 := am (Kd.S_below (Q42 HO181 BK194) hb); replace HO186 := am (Kd.R_below (Q34 HO186 BK194) hb); replace HO192 := am (Kd.R_below (Q34 HO192 BK194) hb); replace BK108 := am (blk_below (g := gb108) (o := .cells #[.int .i64 t103, .slice Ao13 t104.length co13] 30 (0, 0)) (Q2 NB108_194 BK108) hb); replace BK114 := am (blk_below (g := gb114) (o := .cells #[.int .i64 t109, .slice Ao18 t110.length co18] 30 (0, 0)) (Q2 NB114_194 BK114) hb); replace BK121 := am (blk_below (g := gb121) (o := .cells #[.int .i64 t116, .slice Ao35 t117.length co35] 30 (0, 0)) (Q2 NB121_194 BK121) hb); replace BK127 := am (blk_below (g := gb127) (o := .cells #[.int .i64 t122, .slice Ao42 t123.length co42] 30 (0, 0)) (Q2 NB127_194 BK127) hb); replace BK134 := am (blk_below (g := gb134) (o := .cells #[.int .i64 t129, .slice Ao65 t130.length co65] 30 (0, 0)) (Q2 NB134_194 BK134) hb); replace BK140 := am (blk_below (g := gb140) (o := .cells #[.int .i64 t135, .slice Ao74 t136.length co74] 30 (0, 0)) (Q2 NB140_194 BK140) hb); replace BK156 := am (blk_below (g := gb156) (o := .cells #[.int .i64 t148, .slice Ao149 t149.length co149] 30 (0, 0)) (Q2 NB156_194 BK156) hb); replace BK157 := am (blk_below (g := gb157) (o := .cells #[.int .i64 t152, .slice Ao157 t153.length co157] 30 (0, 0)) (Q2 NB157_194 BK157) hb); replace BK163 := am (blk_below (g := gb163) (o := .cells #[.int .i64 t158, .slice Ao169 t159.length co169] 30 (0, 0)) (Q2 NB163_194 BK163) hb); replace BK169 := am (blk_below (g := gb169) (o := .cells #[.int .i64 t164, .slice Ao184 t165.length co184] 30 (0, 0)) (Q2 NB169_194 BK169) hb); replace BK188 := am (blk_below (g := gb188) (o := .cells #[.int .i64 t183, .slice Ao263 t184.length co263] 30 (0, 0)) (Q2 NB188_194 BK188) hb); replace BK194 := am (blk_below (g := gb194) (o := .cells #[.int .i64 t189, .slice Ao279 t190.length co279] 30 (0, 0)) (Q102 BK194) hb); replace HB := am (below_step (Q5 HB GE194) hb); (try clear hb); (try clear hb2); (try clear hk); (try clear hi)))
                       (try simp only [Act.put, List.setIfInBounds_toArray, List.set_cons_zero, List.set_cons_succ]); have H := HU325.out; clear HU325; exact absurd H (by simp)
                    ·replace c209 := Bool.eq_false_iff.mpr c209
                     subst c209; have H1 : (some true) = some r := by rw [if_neg (show ¬ (false = true) by decide)] at H; exact H
                     clear H; have H := H1; clear H1; obtain rfl := Option.some.inj H
                     go_wp2
                     go_ret
                     exact ⟨Q10, Q1 HB⟩
def laws_FnFamilies.Pure : Prop := ∀ (l0 : List Int), l0.length ≤ maxLen → (∀ x ∈ l0, (Lit.int .u8 x).wf = true) → ∃ k, laws_FnFamilies.f k l0 = some true
end Go.Proofs.Ytcjddikalgnhpaa.P
