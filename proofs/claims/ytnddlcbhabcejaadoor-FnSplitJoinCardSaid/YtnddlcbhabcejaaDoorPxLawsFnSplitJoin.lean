/- Functions of the program as Lean functions, and that each call comes to what they say; written by a program of this session; no conditions beyond those that each theorem names. -/
import Derived.Test.YtnddlcbhabcejaaDoorPx0
import Derived.Test.YtnddlcbhabcejaaDoorPxImplJoinStrings
import Derived.Test.YtnddlcbhabcejaaDoorPxImplLessString
import Derived.Test.YtnddlcbhabcejaaDoorPxImplSplitString
import Derived.Test.YtnddlcbhabcejaaDoorPxLawsVBig
import Derived.Test.YtnddlcbhabcejaaDoorPxSpecDrawJoinStrings
import Derived.Test.YtnddlcbhabcejaaDoorPxSpecDrawLessString
import Derived.Test.YtnddlcbhabcejaaDoorPxSpecDrawSplitString
import Derived.Test.YtnddlcbhabcejaaDoorPxSpecJoinStrings
import Derived.Test.YtnddlcbhabcejaaDoorPxSpecLessString
namespace Go.Proofs.YtnddlcbhabcejaaDoor.P
open Go.RowKit Go.Proofs.YtnddlcbhabcejaaDoorW.PrintWords Go.Proofs.YtnddlcbhabcejaaDoorW.PrintLast Go.Proofs.YtnddlcbhabcejaaDoorW.PrintMore
attribute [local go_sem] max2_int min2_int max_two min_two max_three min_three max_four min_four   -- for this text's walks alone
set_option linter.unusedVariables false
set_option linter.unusedSimpArgs false

/-! ### laws_FnSplitJoin: function 8 -/
def laws_FnSplitJoin.j0 : Nat → ByteArray → ByteArray → List ByteArray → Bool → Bool → Option (Bool)
 | 0, _, _, _, _, _ => none
 | k + 1, x3, x4, x5, x6, x78 => if x78 = true then (none) else (if (x4.size : Int) = 1 then ((impl_JoinStrings.f k x5 x4).bind fun bt122 => (if x6 = true then (if bt122.2 = true then (some (bt122.1.toList == x3.toList)) else (none)) else (none))) else (if x6 = true then (none) else (some ((x5.length : Int) == 0))))
def laws_FnSplitJoin.f (k : Nat) (l0 : List Int) : Option (Bool) := (laws_vBig.f l0).bind fun t101 => (if t101 = true then (some true) else ((spec_DrawSplitString.f l0).bind fun bt102 => ((impl_SplitString.f bt102.1 bt102.2).bind fun bt104 => ((spec_DrawJoinStrings.f k l0).bind fun bt108 => ((impl_JoinStrings.f k bt108.1 bt108.2).bind fun bt112 => ((spec_JoinStrings.f k bt108.1 bt108.2).bind fun bt114 => ((spec_DrawLessString.f l0).bind fun bt116 => (if bt112.1.toList = bt114.1.toList then (if (bt112.2 != bt114.2) = true then (laws_FnSplitJoin.j0 k bt102.1 bt102.2 bt104.1 bt104.2 true) else ((impl_LessString.f bt116.1 bt116.2).bind fun t118 => ((spec_LessString.f bt116.1 bt116.2).bind fun t119 => (if (t118 != t119) = true then (laws_FnSplitJoin.j0 k bt102.1 bt102.2 bt104.1 bt104.2 true) else ((impl_LessString.f bt116.1 bt116.2).bind fun t120 => (if t120 = true then ((impl_LessString.f bt116.2 bt116.1).bind fun t121 => (laws_FnSplitJoin.j0 k bt102.1 bt102.2 bt104.1 bt104.2 t121)) else (laws_FnSplitJoin.j0 k bt102.1 bt102.2 bt104.1 bt104.2 false))))))) else (laws_FnSplitJoin.j0 k bt102.1 bt102.2 bt104.1 bt104.2 true)))))))))
theorem laws_FnSplitJoin.mono_l : ∀ k, (∀ y0 y1 y2 y3 y4, LeO (laws_FnSplitJoin.j0 k y0 y1 y2 y3 y4) (laws_FnSplitJoin.j0 (k + 1) y0 y1 y2 y3 y4))
 | 0 => fun _ _ _ _ _ r h => by simp [laws_FnSplitJoin.j0] at h
 | k + 1 => by
  have ih0 := laws_FnSplitJoin.mono_l k
  all_goals
   intros
   first | unfold laws_FnSplitJoin.j0
   repeat' first | (with_reducible first | exact ih0 _ _ _ _ _ | exact impl_JoinStrings.mono _ _ _ | exact spec_DrawJoinStrings.mono _ _ | exact spec_JoinStrings.mono _ _ _ | exact LeO.refl _ | exact LeO.none _ | refine LeO.ite ?_ ?_ | refine LeO.bind ?_ (fun _ => ?_)) | exact ih0 _ _ _ _ _ | exact impl_JoinStrings.mono _ _ _ | exact spec_DrawJoinStrings.mono _ _ | exact spec_JoinStrings.mono _ _ _ | exact LeO.none _ | refine LeO.ite ?_ ?_ | refine LeO.bind ?_ (fun _ => ?_)
theorem laws_FnSplitJoin.mono : ∀ a0 k, LeO (laws_FnSplitJoin.f k a0) (laws_FnSplitJoin.f (k + 1) a0) := by
 intro a0 k
 have ih0 := laws_FnSplitJoin.mono_l k
 unfold laws_FnSplitJoin.f
 repeat' first | (with_reducible first | exact ih0 _ _ _ _ _ | exact impl_JoinStrings.mono _ _ _ | exact spec_DrawJoinStrings.mono _ _ | exact spec_JoinStrings.mono _ _ _ | exact LeO.refl _ | exact LeO.none _ | refine LeO.ite ?_ ?_ | refine LeO.bind ?_ (fun _ => ?_)) | exact ih0 _ _ _ _ _ | exact impl_JoinStrings.mono _ _ _ | exact spec_DrawJoinStrings.mono _ _ | exact spec_JoinStrings.mono _ _ _ | exact LeO.none _ | refine LeO.ite ?_ ?_ | refine LeO.bind ?_ (fun _ => ?_)
set_option maxHeartbeats 8000000 in
set_option maxRecDepth 100000 in
theorem laws_FnSplitJoin.calls (k : Nat) (A0 : Option Addr) (c0 : Nat) (l0 : List Int) (r : Bool) (w : World) (hr0 : Kd.C (Kd.int .u8) w A0 l0.length l0) (hc0 : l0.length ≤ c0) (h : laws_FnSplitJoin.f k l0 = some r) (hVm : VarM w) :
  Calls Tryd.prog 8 #[.slice A0 l0.length c0] w fun e w' => e = .returned (.bool r) ∧ Below w.heap.size w w' := by
 have HVm := Aside0.mk hVm
 clear hVm
 have HR0 := Aside0.mk hr0
 have HC0 := Aside0.mk hc0
 clear hr0 hc0
 have HB := Aside0.mk (Below.refl w.heap.size w)
 have H : ((laws_vBig.f l0).bind fun t101 => (if t101 = true then (some true) else ((spec_DrawSplitString.f l0).bind fun bt102 => ((impl_SplitString.f bt102.1 bt102.2).bind fun bt104 => ((spec_DrawJoinStrings.f k l0).bind fun bt108 => ((impl_JoinStrings.f k bt108.1 bt108.2).bind fun bt112 => ((spec_JoinStrings.f k bt108.1 bt108.2).bind fun bt114 => ((spec_DrawLessString.f l0).bind fun bt116 => (if bt112.1.toList = bt114.1.toList then (if (bt112.2 != bt114.2) = true then (laws_FnSplitJoin.j0 k bt102.1 bt102.2 bt104.1 bt104.2 true) else ((impl_LessString.f bt116.1 bt116.2).bind fun t118 => ((spec_LessString.f bt116.1 bt116.2).bind fun t119 => (if (t118 != t119) = true then (laws_FnSplitJoin.j0 k bt102.1 bt102.2 bt104.1 bt104.2 true) else ((impl_LessString.f bt116.1 bt116.2).bind fun t120 => (if t120 = true then ((impl_LessString.f bt116.2 bt116.1).bind fun t121 => (laws_FnSplitJoin.j0 k bt102.1 bt102.2 bt104.1 bt104.2 t121)) else (laws_FnSplitJoin.j0 k bt102.1 bt102.2 bt104.1 bt104.2 false))))))) else (laws_FnSplitJoin.j0 k bt102.1 bt102.2 bt104.1 bt104.2 true)))))))))) = some r := h
 clear h
 replace H := Option.bind_eq_some_iff.mp H
 obtain ⟨t101, A20, H⟩ := H
 replace H : (if t101 = true then (some true) else ((spec_DrawSplitString.f l0).bind fun bt102 => ((impl_SplitString.f bt102.1 bt102.2).bind fun bt104 => ((spec_DrawJoinStrings.f k l0).bind fun bt108 => ((impl_JoinStrings.f k bt108.1 bt108.2).bind fun bt112 => ((spec_JoinStrings.f k bt108.1 bt108.2).bind fun bt114 => ((spec_DrawLessString.f l0).bind fun bt116 => (if bt112.1.toList = bt114.1.toList then (if (bt112.2 != bt114.2) = true then (laws_FnSplitJoin.j0 k bt102.1 bt102.2 bt104.1 bt104.2 true) else ((impl_LessString.f bt116.1 bt116.2).bind fun t118 => ((spec_LessString.f bt116.1 bt116.2).bind fun t119 => (if (t118 != t119) = true then (laws_FnSplitJoin.j0 k bt102.1 bt102.2 bt104.1 bt104.2 true) else ((impl_LessString.f bt116.1 bt116.2).bind fun t120 => (if t120 = true then ((impl_LessString.f bt116.2 bt116.1).bind fun t121 => (laws_FnSplitJoin.j0 k bt102.1 bt102.2 bt104.1 bt104.2 t121)) else (laws_FnSplitJoin.j0 k bt102.1 bt102.2 bt104.1 bt104.2 false))))))) else (laws_FnSplitJoin.j0 k bt102.1 bt102.2 bt104.1 bt104.2 true))))))))) = some r := H
 have A2 := Aside0.mk A20
 clear A20
 have HU3 := Aside0.mk H
 clear H
 go_enter Tryd.func8, Tryd.ntmps8
 go_upto_if 18 with (first | ((with_reducible refine gate_callee (f := 25) rfl ?_); refine goesL_ (some 18) rfl rfl Tryd.func25 (by kernel_rfl) rfl #[.slice A0 l0.length c0] rfl (by (try simp only [List.map_toArray, List.map_cons, List.map_nil]); first | done | rfl | (simp only [List.length_drop, List.length_take]; rfl)) ?_; (with_reducible refine (laws_vBig.calls _ _ l0 t101 _ ?side1 ?side2 A2.out).mono ?_); (case side1 => repeat (first | exact HR0.out | (with_reducible refine Kd.C_alloc ?_ _) | (with_reducible refine Kd.C_drewN ?_ _) | (with_reducible refine Kd.C_drew ?_))); (case side2 => exact HC0.out); rintro e w' ⟨rfl, ⟨nd, rfl⟩⟩; refine ⟨_, rfl, ?_⟩))
 (try simp only [Act.put, List.setIfInBounds_toArray, List.set_cons_zero, List.set_cons_succ])
 have H := HU3.out
 clear HU3
 by_cases c4 : t101 = true
 ·subst c4
  have H1 : (some true) = some r := by rw [if_pos rfl] at H; exact H
  clear H
  have H := H1
  clear H1
  obtain rfl := Option.some.inj H
  go_wp2
  go_ret
  exact ⟨by first | rfl | (simp [errW_none, errW_some] <;> rfl) | (simp [*, errW_none, errW_some] <;> rfl), by repeat (first | (with_reducible first | exact HB.out | apply below_alloc | apply pw_below_drewN | apply below_drew1) | exact HB.out)⟩
 ·replace c4 := Bool.eq_false_iff.mpr c4
  subst c4
  have H1 : ((spec_DrawSplitString.f l0).bind fun bt102 => ((impl_SplitString.f bt102.1 bt102.2).bind fun bt104 => ((spec_DrawJoinStrings.f k l0).bind fun bt108 => ((impl_JoinStrings.f k bt108.1 bt108.2).bind fun bt112 => ((spec_JoinStrings.f k bt108.1 bt108.2).bind fun bt114 => ((spec_DrawLessString.f l0).bind fun bt116 => (if bt112.1.toList = bt114.1.toList then (if (bt112.2 != bt114.2) = true then (laws_FnSplitJoin.j0 k bt102.1 bt102.2 bt104.1 bt104.2 true) else ((impl_LessString.f bt116.1 bt116.2).bind fun t118 => ((spec_LessString.f bt116.1 bt116.2).bind fun t119 => (if (t118 != t119) = true then (laws_FnSplitJoin.j0 k bt102.1 bt102.2 bt104.1 bt104.2 true) else ((impl_LessString.f bt116.1 bt116.2).bind fun t120 => (if t120 = true then ((impl_LessString.f bt116.2 bt116.1).bind fun t121 => (laws_FnSplitJoin.j0 k bt102.1 bt102.2 bt104.1 bt104.2 t121)) else (laws_FnSplitJoin.j0 k bt102.1 bt102.2 bt104.1 bt104.2 false))))))) else (laws_FnSplitJoin.j0 k bt102.1 bt102.2 bt104.1 bt104.2 true)))))))) = some r := by rw [if_neg (show ¬ (false = true) by decide)] at H; exact H
  clear H
  have H := H1
  clear H1
  replace H := Option.bind_eq_some_iff.mp H
  obtain ⟨⟨t102, t103⟩, A50, H⟩ := H
  replace H : ((impl_SplitString.f t102 t103).bind fun bt104 => ((spec_DrawJoinStrings.f k l0).bind fun bt108 => ((impl_JoinStrings.f k bt108.1 bt108.2).bind fun bt112 => ((spec_JoinStrings.f k bt108.1 bt108.2).bind fun bt114 => ((spec_DrawLessString.f l0).bind fun bt116 => (if bt112.1.toList = bt114.1.toList then (if (bt112.2 != bt114.2) = true then (laws_FnSplitJoin.j0 k t102 t103 bt104.1 bt104.2 true) else ((impl_LessString.f bt116.1 bt116.2).bind fun t118 => ((spec_LessString.f bt116.1 bt116.2).bind fun t119 => (if (t118 != t119) = true then (laws_FnSplitJoin.j0 k t102 t103 bt104.1 bt104.2 true) else ((impl_LessString.f bt116.1 bt116.2).bind fun t120 => (if t120 = true then ((impl_LessString.f bt116.2 bt116.1).bind fun t121 => (laws_FnSplitJoin.j0 k t102 t103 bt104.1 bt104.2 t121)) else (laws_FnSplitJoin.j0 k t102 t103 bt104.1 bt104.2 false))))))) else (laws_FnSplitJoin.j0 k t102 t103 bt104.1 bt104.2 true))))))) = some r := H
  have A5 := Aside0.mk A50
  clear A50
  replace H := Option.bind_eq_some_iff.mp H
  obtain ⟨⟨t104, t105⟩, A60, H⟩ := H
  replace H : ((spec_DrawJoinStrings.f k l0).bind fun bt108 => ((impl_JoinStrings.f k bt108.1 bt108.2).bind fun bt112 => ((spec_JoinStrings.f k bt108.1 bt108.2).bind fun bt114 => ((spec_DrawLessString.f l0).bind fun bt116 => (if bt112.1.toList = bt114.1.toList then (if (bt112.2 != bt114.2) = true then (laws_FnSplitJoin.j0 k t102 t103 t104 t105 true) else ((impl_LessString.f bt116.1 bt116.2).bind fun t118 => ((spec_LessString.f bt116.1 bt116.2).bind fun t119 => (if (t118 != t119) = true then (laws_FnSplitJoin.j0 k t102 t103 t104 t105 true) else ((impl_LessString.f bt116.1 bt116.2).bind fun t120 => (if t120 = true then ((impl_LessString.f bt116.2 bt116.1).bind fun t121 => (laws_FnSplitJoin.j0 k t102 t103 t104 t105 t121)) else (laws_FnSplitJoin.j0 k t102 t103 t104 t105 false))))))) else (laws_FnSplitJoin.j0 k t102 t103 t104 t105 true)))))) = some r := H
  have A6 := Aside0.mk A60
  clear A60
  replace H := Option.bind_eq_some_iff.mp H
  obtain ⟨⟨t108, t109⟩, A70, H⟩ := H
  replace H : ((impl_JoinStrings.f k t108 t109).bind fun bt112 => ((spec_JoinStrings.f k t108 t109).bind fun bt114 => ((spec_DrawLessString.f l0).bind fun bt116 => (if bt112.1.toList = bt114.1.toList then (if (bt112.2 != bt114.2) = true then (laws_FnSplitJoin.j0 k t102 t103 t104 t105 true) else ((impl_LessString.f bt116.1 bt116.2).bind fun t118 => ((spec_LessString.f bt116.1 bt116.2).bind fun t119 => (if (t118 != t119) = true then (laws_FnSplitJoin.j0 k t102 t103 t104 t105 true) else ((impl_LessString.f bt116.1 bt116.2).bind fun t120 => (if t120 = true then ((impl_LessString.f bt116.2 bt116.1).bind fun t121 => (laws_FnSplitJoin.j0 k t102 t103 t104 t105 t121)) else (laws_FnSplitJoin.j0 k t102 t103 t104 t105 false))))))) else (laws_FnSplitJoin.j0 k t102 t103 t104 t105 true))))) = some r := H
  have A7 := Aside0.mk A70
  clear A70
  replace H := Option.bind_eq_some_iff.mp H
  obtain ⟨⟨t112, t113⟩, A80, H⟩ := H
  replace H : ((spec_JoinStrings.f k t108 t109).bind fun bt114 => ((spec_DrawLessString.f l0).bind fun bt116 => (if t112.toList = bt114.1.toList then (if (t113 != bt114.2) = true then (laws_FnSplitJoin.j0 k t102 t103 t104 t105 true) else ((impl_LessString.f bt116.1 bt116.2).bind fun t118 => ((spec_LessString.f bt116.1 bt116.2).bind fun t119 => (if (t118 != t119) = true then (laws_FnSplitJoin.j0 k t102 t103 t104 t105 true) else ((impl_LessString.f bt116.1 bt116.2).bind fun t120 => (if t120 = true then ((impl_LessString.f bt116.2 bt116.1).bind fun t121 => (laws_FnSplitJoin.j0 k t102 t103 t104 t105 t121)) else (laws_FnSplitJoin.j0 k t102 t103 t104 t105 false))))))) else (laws_FnSplitJoin.j0 k t102 t103 t104 t105 true)))) = some r := H
  have A8 := Aside0.mk A80
  clear A80
  replace H := Option.bind_eq_some_iff.mp H
  obtain ⟨⟨t114, t115⟩, A90, H⟩ := H
  replace H : ((spec_DrawLessString.f l0).bind fun bt116 => (if t112.toList = t114.toList then (if (t113 != t115) = true then (laws_FnSplitJoin.j0 k t102 t103 t104 t105 true) else ((impl_LessString.f bt116.1 bt116.2).bind fun t118 => ((spec_LessString.f bt116.1 bt116.2).bind fun t119 => (if (t118 != t119) = true then (laws_FnSplitJoin.j0 k t102 t103 t104 t105 true) else ((impl_LessString.f bt116.1 bt116.2).bind fun t120 => (if t120 = true then ((impl_LessString.f bt116.2 bt116.1).bind fun t121 => (laws_FnSplitJoin.j0 k t102 t103 t104 t105 t121)) else (laws_FnSplitJoin.j0 k t102 t103 t104 t105 false))))))) else (laws_FnSplitJoin.j0 k t102 t103 t104 t105 true))) = some r := H
  have A9 := Aside0.mk A90
  clear A90
  replace H := Option.bind_eq_some_iff.mp H
  obtain ⟨⟨t116, t117⟩, A100, H⟩ := H
  replace H : (if t112.toList = t114.toList then (if (t113 != t115) = true then (laws_FnSplitJoin.j0 k t102 t103 t104 t105 true) else ((impl_LessString.f t116 t117).bind fun t118 => ((spec_LessString.f t116 t117).bind fun t119 => (if (t118 != t119) = true then (laws_FnSplitJoin.j0 k t102 t103 t104 t105 true) else ((impl_LessString.f t116 t117).bind fun t120 => (if t120 = true then ((impl_LessString.f t117 t116).bind fun t121 => (laws_FnSplitJoin.j0 k t102 t103 t104 t105 t121)) else (laws_FnSplitJoin.j0 k t102 t103 t104 t105 false))))))) else (laws_FnSplitJoin.j0 k t102 t103 t104 t105 true)) = some r := H
  have A10 := Aside0.mk A100
  clear A100
  have HU11 := Aside0.mk H
  clear H
  go_upto_region 9 with (first | ((with_reducible refine gate_callee (f := 26) rfl ?_); refine goesL_ (some 21) rfl rfl Tryd.func26 (by kernel_rfl) rfl #[.slice A0 l0.length c0] rfl (by (try simp only [List.map_toArray, List.map_cons, List.map_nil]); first | done | rfl | (simp only [List.length_drop, List.length_take]; rfl)) ?_; (with_reducible refine (spec_DrawSplitString.calls _ _ l0 t102 t103 _ ?side1 ?side2 A5.out).mono ?_); (case side1 => repeat (first | exact (Kd.C_below HR0.out (by repeat (first | (with_reducible first | exact HB.out | apply below_alloc | apply pw_below_drewN | apply below_drew1) | exact HB.out))) | (with_reducible refine Kd.C_alloc ?_ _) | (with_reducible refine Kd.C_drewN ?_ _) | (with_reducible refine Kd.C_drew ?_))); (case side2 => exact HC0.out); rintro e w12 ⟨rfl, hb⟩; refine ⟨_, rfl, ?_⟩; have n0_ := Aside0.mk (below_step (by repeat (first | (with_reducible first | exact HB.out | apply below_alloc | apply pw_below_drewN | apply below_drew1) | exact HB.out)) hb); clear HB; have HB := n0_; clear n0_; (try clear hb); (try clear hb2); (try clear hk); (try clear hi)) | ((with_reducible refine gate_callee (f := 15) rfl ?_); refine goesL_ (some 27) rfl rfl Tryd.func15 (by kernel_rfl) rfl #[.string t102, .string t103] rfl (by (try simp only [List.map_toArray, List.map_cons, List.map_nil]); first | done | rfl | (simp only [List.length_drop, List.length_take]; rfl)) ?_; (with_reducible refine (impl_SplitString.calls t102 t103 t104 t105 _ A6.out (HVm.out.on (by repeat (first | (with_reducible first | exact HB.out | apply below_alloc | apply pw_below_drewN | apply below_drew1) | exact HB.out | refine below_set ?_ (Aside0.out (by assumption)))))).mono ?_); rintro e w13 ⟨v106, rfl, ho0, hb⟩; refine ⟨_, rfl, ?_⟩; have n0_ := Aside0.mk (Kd.R_lower ho0 (below_size (by repeat (first | (with_reducible first | exact HB.out | apply below_alloc | apply pw_below_drewN | apply below_drew1) | exact HB.out)))); have n1_ := Aside0.mk (below_step (by repeat (first | (with_reducible first | exact HB.out | apply below_alloc | apply pw_below_drewN | apply below_drew1) | exact HB.out)) hb); clear HB; have HO107 := n0_; have HB := n1_; clear n0_ n1_; (try clear hb); (try clear hb2); (try clear hk); (try clear hi); (try clear ho0)) | ((with_reducible refine gate_callee (f := 27) rfl ?_); refine goesL_ (some 32) rfl rfl Tryd.func27 (by kernel_rfl) rfl #[.slice A0 l0.length c0] rfl (by (try simp only [List.map_toArray, List.map_cons, List.map_nil]); first | done | rfl | (simp only [List.length_drop, List.length_take]; rfl)) ?_; (with_reducible refine (spec_DrawJoinStrings.calls k _ _ l0 t108 t109 _ ?side1 ?side2 A7.out).mono ?_); (case side1 => repeat (first | exact (Kd.C_below HR0.out HB.out) | (with_reducible refine Kd.C_alloc ?_ _) | (with_reducible refine Kd.C_drewN ?_ _) | (with_reducible refine Kd.C_drew ?_))); (case side2 => exact HC0.out); rintro e w14 ⟨v110, rfl, ho0, hb⟩; refine ⟨_, rfl, ?_⟩; have n0_ := Aside0.mk (Kd.R_elder' (by (with_reducible repeat (first | apply Kd.R_alloc | apply Kd.R_drewN | apply Kd.R_drew)); exact HO107.out) (Kd.R_base ho0) hb); have n1_ := Aside0.mk (Kd.R_lower (Kd.R_new' ho0 (Kd.R_lt (by (with_reducible repeat (first | apply Kd.R_alloc | apply Kd.R_drewN | apply Kd.R_drew)); exact HO107.out))) (below_size (by repeat (first | (with_reducible first | exact HB.out | apply below_alloc | apply pw_below_drewN | apply below_drew1) | exact HB.out)))); have n2_ := Aside0.mk (below_step (by repeat (first | (with_reducible first | exact HB.out | apply below_alloc | apply pw_below_drewN | apply below_drew1) | exact HB.out)) hb); clear HO107; clear HB; have HO107 := n0_; have HO111 := n1_; have HB := n2_; clear n0_ n1_ n2_; (try clear hb); (try clear hb2); (try clear hk); (try clear hi); (try clear ho0); obtain ⟨Ao15, co15, eo15⟩ := Kd.R_slice HO111.out; subst eo15) | ((with_reducible refine gate_callee (f := 28) rfl ?_); refine goesL_ (some 38) rfl rfl Tryd.func28 (by kernel_rfl) rfl #[.slice Ao15 t108.length co15, .string t109] rfl (by (try simp only [List.map_toArray, List.map_cons, List.map_nil]); first | done | rfl | (simp only [List.length_drop, List.length_take]; rfl)) ?_; (with_reducible refine (impl_JoinStrings.calls k _ _ t108 t109 t112 t113 _ ?side1 ?side2 A8.out).mono ?_); (case side1 => repeat (first | exact (Kd.R_reads' HO111.out).2.2 | (with_reducible refine Kd.C_alloc ?_ _) | (with_reducible refine Kd.C_drewN ?_ _) | (with_reducible refine Kd.C_drew ?_))); (case side2 => exact (Kd.R_reads' HO111.out).2.1); rintro e w16 ⟨rfl, hb⟩; refine ⟨_, rfl, ?_⟩; have n0_ := Aside0.mk (Kd.R_below (by (with_reducible repeat (first | apply Kd.R_alloc | apply Kd.R_drewN | apply Kd.R_drew)); exact HO107.out) hb); have n1_ := Aside0.mk (Kd.R_below (by (with_reducible repeat (first | apply Kd.R_alloc | apply Kd.R_drewN | apply Kd.R_drew)); exact HO111.out) hb); have n2_ := Aside0.mk (below_step (by repeat (first | (with_reducible first | exact HB.out | apply below_alloc | apply pw_below_drewN | apply below_drew1) | exact HB.out)) hb); clear HO107; clear HO111; clear HB; have HO107 := n0_; have HO111 := n1_; have HB := n2_; clear n0_ n1_ n2_; (try clear hb); (try clear hb2); (try clear hk); (try clear hi)) | ((with_reducible refine gate_callee (f := 29) rfl ?_); refine goesL_ (some 44) rfl rfl Tryd.func29 (by kernel_rfl) rfl #[.slice Ao15 t108.length co15, .string t109] rfl (by (try simp only [List.map_toArray, List.map_cons, List.map_nil]); first | done | rfl | (simp only [List.length_drop, List.length_take]; rfl)) ?_; (with_reducible refine (spec_JoinStrings.calls k _ _ t108 t109 t114 t115 _ ?side1 ?side2 A9.out).mono ?_); (case side1 => repeat (first | exact (Kd.R_reads' HO111.out).2.2 | (with_reducible refine Kd.C_alloc ?_ _) | (with_reducible refine Kd.C_drewN ?_ _) | (with_reducible refine Kd.C_drew ?_))); (case side2 => exact (Kd.R_reads' HO111.out).2.1); rintro e w' ⟨rfl, ⟨nd, rfl⟩⟩; refine ⟨_, rfl, ?_⟩) | ((with_reducible refine gate_callee (f := 30) rfl ?_); refine goesL_ (some 49) rfl rfl Tryd.func30 (by kernel_rfl) rfl #[.slice A0 l0.length c0] rfl (by (try simp only [List.map_toArray, List.map_cons, List.map_nil]); first | done | rfl | (simp only [List.length_drop, List.length_take]; rfl)) ?_; (with_reducible refine (spec_DrawLessString.calls _ _ l0 t116 t117 _ ?side1 ?side2 A10.out).mono ?_); (case side1 => repeat (first | exact (Kd.C_below HR0.out (by repeat (first | (with_reducible first | exact HB.out | apply below_alloc | apply pw_below_drewN | apply below_drew1) | exact HB.out))) | (with_reducible refine Kd.C_alloc ?_ _) | (with_reducible refine Kd.C_drewN ?_ _) | (with_reducible refine Kd.C_drew ?_))); (case side2 => exact HC0.out); rintro e w17 ⟨rfl, hb⟩; refine ⟨_, rfl, ?_⟩; have n0_ := Aside0.mk (Kd.R_below (by (with_reducible repeat (first | apply Kd.R_alloc | apply Kd.R_drewN | apply Kd.R_drew)); exact HO107.out) hb); have n1_ := Aside0.mk (Kd.R_below (by (with_reducible repeat (first | apply Kd.R_alloc | apply Kd.R_drewN | apply Kd.R_drew)); exact HO111.out) hb); have n2_ := Aside0.mk (below_step (by repeat (first | (with_reducible first | exact HB.out | apply below_alloc | apply pw_below_drewN | apply below_drew1) | exact HB.out)) hb); clear HO107; clear HO111; clear HB; have HO107 := n0_; have HO111 := n1_; have HB := n2_; clear n0_ n1_ n2_; (try clear hb); (try clear hb2); (try clear hk); (try clear hi)))
  (try simp only [Act.put, List.setIfInBounds_toArray, List.set_cons_zero, List.set_cons_succ])
  have H := HU11.out
  clear HU11
  have HC18 := Aside0.mk H
  clear H
  go_upto_region 9 with (fail)
  go_cut [78] (fun v78 wc => ∃ (kq : Nat) (x78_17 : Bool), v78 = .bool x78_17 ∧ Aside0 (laws_FnSplitJoin.j0 kq t102 t103 t104 t105 x78_17 = some r) ∧ Aside0 (kq ≤ k) ∧ Aside0 (Kd.R Kd.string 9 wc w.heap.size (fun _ => True) v106 t104) ∧ Aside0 (Below w.heap.size w wc))
  case first =>
   have H := HC18.out
   clear HC18
   by_cases c19 : t112.toList = t114.toList
   ·rw [if_pos c19] at H
    have c19b0 : (t112.toList == t114.toList) = true := beq_iff_eq.mpr c19
    have c19b1 : (t112.toList != t114.toList) = false := bne_eq_false_iff_eq.mpr c19
    clear c19
    (first | rw [c19b0] | (simp only [i64_w, i32_w]; rw [c19b0]) | rw [c19b1] | skip)
    by_cases c20 : (t113 != t115) = true
    ·rw [if_pos c20] at H
     have c20b0 : (t113 != t115) = true := c20
     (try (have c20b1 : decide (t113 = t115) = false := by simpa using c20))
     (try (have c20b2 : (t113 == t115) = false := by simpa using c20))
     (try (have c20b3 : ¬ (t113 = t115) := by simpa using c20))
     (try (have c20b4 : (!(t113 == t115)) = true := by simpa using c20))
     clear c20
     have H' := Aside0.mk H
     clear H
     go_wp2
     go_meet
     case rel => exact ⟨_, (true), (by first | rfl | (simp; done) | (simp [*]; done)), H', ⟨by first | omega | exact Nat.le_refl _⟩, ⟨by (with_reducible repeat (first | apply Kd.R_alloc | apply Kd.R_drewN | apply Kd.R_drew)); exact Kd.R_mono HO107.out (fun _ hk => trivial)⟩, ⟨by repeat (first | (with_reducible first | exact HB.out | apply below_alloc | apply pw_below_drewN | apply below_drew1) | exact HB.out)⟩⟩
    ·rw [if_neg c20] at H
     have c20b0 : (t113 != t115) = false := by simpa using c20
     (try (have c20b1 : decide (t113 = t115) = true := by simpa using c20))
     (try (have c20b2 : (t113 == t115) = true := by simpa using c20))
     (try (have c20b3 : (!(t113 == t115)) = false := by simpa using c20))
     clear c20
     replace H := Option.bind_eq_some_iff.mp H
     obtain ⟨t118, A210, H⟩ := H
     replace H : ((spec_LessString.f t116 t117).bind fun t119 => (if (t118 != t119) = true then (laws_FnSplitJoin.j0 k t102 t103 t104 t105 true) else ((impl_LessString.f t116 t117).bind fun t120 => (if t120 = true then ((impl_LessString.f t117 t116).bind fun t121 => (laws_FnSplitJoin.j0 k t102 t103 t104 t105 t121)) else (laws_FnSplitJoin.j0 k t102 t103 t104 t105 false))))) = some r := H
     have A21 := Aside0.mk A210
     clear A210
     replace H := Option.bind_eq_some_iff.mp H
     obtain ⟨t119, A220, H⟩ := H
     replace H : (if (t118 != t119) = true then (laws_FnSplitJoin.j0 k t102 t103 t104 t105 true) else ((impl_LessString.f t116 t117).bind fun t120 => (if t120 = true then ((impl_LessString.f t117 t116).bind fun t121 => (laws_FnSplitJoin.j0 k t102 t103 t104 t105 t121)) else (laws_FnSplitJoin.j0 k t102 t103 t104 t105 false)))) = some r := H
     have A22 := Aside0.mk A220
     clear A220
     by_cases c23 : (t118 != t119) = true
     ·rw [if_pos c23] at H
      have c23b0 : (t118 != t119) = true := c23
      (try (have c23b1 : decide (t118 = t119) = false := by simpa using c23))
      (try (have c23b2 : (t118 == t119) = false := by simpa using c23))
      (try (have c23b3 : ¬ (t118 = t119) := by simpa using c23))
      (try (have c23b4 : (!(t118 == t119)) = true := by simpa using c23))
      clear c23
      have H' := Aside0.mk H
      clear H
      go_wp2_with (first | (go_at_call 31; (with_reducible refine (impl_LessString.calls t116 t117 t118 _ A21.out).mono ?_); rintro e w' ⟨rfl, ⟨nd, rfl⟩⟩) | (go_at_call 32; (with_reducible refine (spec_LessString.calls t116 t117 t119 _ A22.out).mono ?_); rintro e w' ⟨rfl, ⟨nd, rfl⟩⟩))
      go_meet
      case rel => exact ⟨_, (true), (by first | rfl | (simp; done) | (simp [*]; done)), H', ⟨by first | omega | exact Nat.le_refl _⟩, ⟨by (with_reducible repeat (first | apply Kd.R_alloc | apply Kd.R_drewN | apply Kd.R_drew)); exact Kd.R_mono HO107.out (fun _ hk => trivial)⟩, ⟨by repeat (first | (with_reducible first | exact HB.out | apply below_alloc | apply pw_below_drewN | apply below_drew1) | exact HB.out)⟩⟩
     ·rw [if_neg c23] at H
      have c23b0 : (t118 != t119) = false := by simpa using c23
      (try (have c23b1 : decide (t118 = t119) = true := by simpa using c23))
      (try (have c23b2 : (t118 == t119) = true := by simpa using c23))
      (try (have c23b3 : (!(t118 == t119)) = false := by simpa using c23))
      clear c23
      replace H := Option.bind_eq_some_iff.mp H
      obtain ⟨t120, A240, H⟩ := H
      replace H : (if t120 = true then ((impl_LessString.f t117 t116).bind fun t121 => (laws_FnSplitJoin.j0 k t102 t103 t104 t105 t121)) else (laws_FnSplitJoin.j0 k t102 t103 t104 t105 false)) = some r := H
      have A24 := Aside0.mk A240
      clear A240
      have e24 : t120 = t118 := Option.some.inj (A24.out.symm.trans A21.out)
      subst e24
      by_cases c25 : t120 = true
      ·subst c25
       have H1 : ((impl_LessString.f t117 t116).bind fun t121 => (laws_FnSplitJoin.j0 k t102 t103 t104 t105 t121)) = some r := by rw [if_pos rfl] at H; exact H
       clear H
       have H := H1
       clear H1
       replace H := Option.bind_eq_some_iff.mp H
       obtain ⟨t121, A260, H⟩ := H
       replace H : (laws_FnSplitJoin.j0 k t102 t103 t104 t105 t121) = some r := H
       have A26 := Aside0.mk A260
       clear A260
       have H' := Aside0.mk H
       clear H
       go_wp2_with (first | (go_at_call 31; (with_reducible refine (impl_LessString.calls t116 t117 t120 _ A21.out).mono ?_); rintro e w' ⟨rfl, ⟨nd, rfl⟩⟩) | (go_at_call 32; (with_reducible refine (spec_LessString.calls t116 t117 t119 _ A22.out).mono ?_); rintro e w' ⟨rfl, ⟨nd, rfl⟩⟩) | (go_at_call 31; (with_reducible refine (impl_LessString.calls t116 t117 true _ A24.out).mono ?_); rintro e w' ⟨rfl, ⟨nd, rfl⟩⟩) | (go_at_call 31; (with_reducible refine (impl_LessString.calls t117 t116 t121 _ A26.out).mono ?_); rintro e w' ⟨rfl, ⟨nd, rfl⟩⟩))
       go_meet
       case rel => exact ⟨_, (t121), (by first | rfl | (simp; done) | (simp [*]; done)), H', ⟨by first | omega | exact Nat.le_refl _⟩, ⟨by (with_reducible repeat (first | apply Kd.R_alloc | apply Kd.R_drewN | apply Kd.R_drew)); exact Kd.R_mono HO107.out (fun _ hk => trivial)⟩, ⟨by repeat (first | (with_reducible first | exact HB.out | apply below_alloc | apply pw_below_drewN | apply below_drew1) | exact HB.out)⟩⟩
      ·replace c25 := Bool.eq_false_iff.mpr c25
       subst c25
       have H1 : (laws_FnSplitJoin.j0 k t102 t103 t104 t105 false) = some r := by rw [if_neg (show ¬ (false = true) by decide)] at H; exact H
       clear H
       have H := H1
       clear H1
       have H' := Aside0.mk H
       clear H
       go_wp2_with (first | (go_at_call 31; (with_reducible refine (impl_LessString.calls t116 t117 t120 _ A21.out).mono ?_); rintro e w' ⟨rfl, ⟨nd, rfl⟩⟩) | (go_at_call 32; (with_reducible refine (spec_LessString.calls t116 t117 t119 _ A22.out).mono ?_); rintro e w' ⟨rfl, ⟨nd, rfl⟩⟩) | (go_at_call 31; (with_reducible refine (impl_LessString.calls t116 t117 false _ A24.out).mono ?_); rintro e w' ⟨rfl, ⟨nd, rfl⟩⟩))
       go_meet
       case rel => exact ⟨_, (false), (by first | rfl | (simp; done) | (simp [*]; done)), H', ⟨by first | omega | exact Nat.le_refl _⟩, ⟨by (with_reducible repeat (first | apply Kd.R_alloc | apply Kd.R_drewN | apply Kd.R_drew)); exact Kd.R_mono HO107.out (fun _ hk => trivial)⟩, ⟨by repeat (first | (with_reducible first | exact HB.out | apply below_alloc | apply pw_below_drewN | apply below_drew1) | exact HB.out)⟩⟩
   ·rw [if_neg c19] at H
    have c19b0 : (t112.toList == t114.toList) = false := beq_eq_false_iff_ne.mpr c19
    have c19b1 : (t112.toList != t114.toList) = true := bne_iff_ne.mpr c19
    (first | rw [c19b0] | (simp only [i64_w, i32_w]; rw [c19b0]) | rw [c19b1] | skip)
    have H' := Aside0.mk H
    clear H
    go_wp2
    go_meet
    case rel => exact ⟨_, (true), (by first | rfl | (simp; done) | (simp [*]; done)), H', ⟨by first | omega | exact Nat.le_refl _⟩, ⟨by (with_reducible repeat (first | apply Kd.R_alloc | apply Kd.R_drewN | apply Kd.R_drew)); exact Kd.R_mono HO107.out (fun _ hk => trivial)⟩, ⟨by repeat (first | (with_reducible first | exact HB.out | apply below_alloc | apply pw_below_drewN | apply below_drew1) | exact HB.out)⟩⟩
  case rest =>
   clear HC18
   try clear c1
   try clear c2
   try clear p2
   try clear c3
   try clear c4
   try clear c8
   try clear c15
   try clear c19
   try clear c19b0
   try clear c19b1
   try clear c20
   try clear c20b0
   try clear c20b1
   try clear c20b2
   try clear c23
   try clear c23b0
   try clear c23b1
   try clear c23b2
   try clear c25
   try clear c26
   obtain ⟨kq, x78_17, rfl, HA, HJ17, HO_5, HB⟩ := hcut
   cases kq with
   | zero => exact absurd HA.out (by simp [laws_FnSplitJoin.j0])
   | succ kj17 =>
    have H := HA.out
    clear HA
    simp only [laws_FnSplitJoin.j0] at H
    by_cases c27 : x78_17 = true
    ·subst c27
     have H1 : (none) = some r := by rw [if_pos rfl] at H; exact H
     clear H
     have H := H1
     clear H1
     exact absurd H (by simp)
    ·replace c27 := Bool.eq_false_iff.mpr c27
     subst c27
     have H1 : (if (t103.size : Int) = 1 then ((impl_JoinStrings.f kj17 t104 t103).bind fun bt122 => (if t105 = true then (if bt122.2 = true then (some (bt122.1.toList == t102.toList)) else (none)) else (none))) else (if t105 = true then (none) else (some ((t104.length : Int) == 0)))) = some r := by rw [if_neg (show ¬ (false = true) by decide)] at H; exact H
     clear H
     have H := H1
     clear H1
     by_cases c28 : (t103.size : Int) = 1
     ·rw [if_pos c28] at H
      have c28b0 : ((t103.size : Int) == 1) = true := beq_iff_eq.mpr c28
      have c28b1 : ((t103.size : Int) != 1) = false := bne_eq_false_iff_eq.mpr c28
      clear c28
      replace H := Option.bind_eq_some_iff.mp H
      obtain ⟨⟨t122, t123⟩, A290, H⟩ := H
      replace H : (if t105 = true then (if t123 = true then (some (t122.toList == t102.toList)) else (none)) else (none)) = some r := H
      have A29 := Aside0.mk A290
      clear A290
      have HU30 := Aside0.mk H
      clear H
      obtain ⟨Ao31, co31, eo31⟩ := Kd.R_slice HO_5.out
      subst eo31
      go_upto_region 14 with (first | ((with_reducible refine gate_callee (f := 28) rfl ?_); refine goesL_ (some 92) rfl rfl Tryd.func28 (by kernel_rfl) rfl #[.slice Ao31 t104.length co31, .string t103] rfl (by (try simp only [List.map_toArray, List.map_cons, List.map_nil]); first | done | rfl | (simp only [List.length_drop, List.length_take]; rfl)) ?_; (with_reducible refine (impl_JoinStrings.calls kj17 _ _ t104 t103 t122 t123 _ ?side1 ?side2 A29.out).mono ?_); (case side1 => repeat (first | exact (Kd.R_reads' HO_5.out).2.2 | (with_reducible refine Kd.C_alloc ?_ _) | (with_reducible refine Kd.C_drewN ?_ _) | (with_reducible refine Kd.C_drew ?_))); (case side2 => exact (Kd.R_reads' HO_5.out).2.1); rintro e w32 ⟨rfl, hb⟩; refine ⟨_, rfl, ?_⟩; have n0_ := Aside0.mk (Kd.R_below (by (with_reducible repeat (first | apply Kd.R_alloc | apply Kd.R_drewN | apply Kd.R_drew)); exact HO_5.out) hb); have n1_ := Aside0.mk (below_step (by repeat (first | (with_reducible first | exact HB.out | apply below_alloc | apply pw_below_drewN | apply below_drew1) | exact HB.out)) hb); clear HO_5; clear HB; have HO_5 := n0_; have HB := n1_; clear n0_ n1_; (try clear hb); (try clear hb2); (try clear hk); (try clear hi)))
      (try simp only [Act.put, List.setIfInBounds_toArray, List.set_cons_zero, List.set_cons_succ])
      have H := HU30.out
      clear HU30
      by_cases c33 : t105 = true
      ·subst c33
       have H1 : (if t123 = true then (some (t122.toList == t102.toList)) else (none)) = some r := by rw [if_pos rfl] at H; exact H
       clear H
       have H := H1
       clear H1
       by_cases c34 : t123 = true
       ·subst c34
        have H1 : (some (t122.toList == t102.toList)) = some r := by rw [if_pos rfl] at H; exact H
        clear H
        have H := H1
        clear H1
        obtain rfl := Option.some.inj H
        go_wp2
        go_ret
        exact ⟨by first | rfl | (simp [errW_none, errW_some] <;> rfl) | (simp [*, errW_none, errW_some] <;> rfl), by repeat (first | (with_reducible first | exact HB.out | apply below_alloc | apply pw_below_drewN | apply below_drew1) | exact HB.out)⟩
       ·replace c34 := Bool.eq_false_iff.mpr c34
        subst c34
        have H1 : (none) = some r := by rw [if_neg (show ¬ (false = true) by decide)] at H; exact H
        clear H
        have H := H1
        clear H1
        exact absurd H (by simp)
      ·replace c33 := Bool.eq_false_iff.mpr c33
       subst c33
       have H1 : (none) = some r := by rw [if_neg (show ¬ (false = true) by decide)] at H; exact H
       clear H
       have H := H1
       clear H1
       exact absurd H (by simp)
     ·rw [if_neg c28] at H
      have c28b0 : ((t103.size : Int) == 1) = false := beq_eq_false_iff_ne.mpr c28
      have c28b1 : ((t103.size : Int) != 1) = true := bne_iff_ne.mpr c28
      by_cases c35 : t105 = true
      ·subst c35
       have H1 : (none) = some r := by rw [if_pos rfl] at H; exact H
       clear H
       have H := H1
       clear H1
       exact absurd H (by simp)
      ·replace c35 := Bool.eq_false_iff.mpr c35
       subst c35
       have H1 : (some ((t104.length : Int) == 0)) = some r := by rw [if_neg (show ¬ (false = true) by decide)] at H; exact H
       clear H
       have H := H1
       clear H1
       obtain rfl := Option.some.inj H
       obtain ⟨Ao36, co36, eo36⟩ := Kd.R_slice HO_5.out
       subst eo36
       go_wp2
       go_ret
       exact ⟨by first | rfl | (simp [errW_none, errW_some] <;> rfl) | (simp [*, errW_none, errW_some] <;> rfl), by repeat (first | (with_reducible first | exact HB.out | apply below_alloc | apply pw_below_drewN | apply below_drew1) | exact HB.out)⟩
def laws_FnSplitJoin.Pure : Prop := ∀ (l0 : List Int), l0.length ≤ maxLen → (∀ x ∈ l0, (Lit.int .u8 x).wf = true) → ∃ k, laws_FnSplitJoin.f k l0 = some true

end Go.Proofs.YtnddlcbhabcejaaDoor.P
