/- Functions of the program as Lean functions, that each call comes to what they say, and what holds of them; part 7 of 8; no conditions beyond those that each theorem names. -/
import Derived.Test.YtcjddikalgnhpaaK1
import Derived.Test.YtcjddikalgnhpaaK2
import Derived.Test.YtcjddikalgnhpaaK3
import Derived.Test.YtcjddikalgnhpaaK4
import Derived.Test.YtcjddikalgnhpaaK5
import Derived.Test.YtcjddikalgnhpaaK6
namespace Go.Proofs.Ytcjddikalgnhpaa.P
open Go.RowKit Go.Proofs.YtcjddikalgnhpaaW.PrintWords Go.Proofs.YtcjddikalgnhpaaW.PrintLast Go.Proofs.YtcjddikalgnhpaaW.PrintMore
attribute [local go_sem] max2_int min2_int max_two min_two max_three min_three max_four min_four   -- for this text's walks alone
set_option linter.unusedVariables false
set_option linter.unusedSimpArgs false
/-! ### laws_FnCorners: function 6 -/
mutual
def laws_FnCorners.j0 : Nat → Int → Bool → Bool → List Int → Bool → List (S71) → Bool → List Int → Bool → Int → List (S71) → Option (Bool)
 | 0, _, _, _, _, _, _, _, _, _, _, _ => none
 | k + 1, x5, x6, x7, x10, x11, x20, x21, x24, x159, x111000, x111001 => if x159 = true then (none) else (if x7 = true then (if x11 = true then ((laws_vHas.f k x10 x5).bind fun t160 => (laws_FnCorners.j1 k x20 x21 x24 (x6 != t160) x111000 x111001)) else (laws_FnCorners.j1 k x20 x21 x24 true x111000 x111001)) else (laws_FnCorners.j1 k x20 x21 x24 false x111000 x111001))
def laws_FnCorners.j1 : Nat → List (S71) → Bool → List Int → Bool → Int → List (S71) → Option (Bool)
 | 0, _, _, _, _, _, _ => none
 | k + 1, x20, x21, x24, x171, x111000, x111001 => if x171 = true then (none) else (if x21 = true then (if 0 ≤ x111000 then ((laws_vBits.f k x111000 (wrap64 ((shl .i64 1 x111000) - 1))).bind fun t161 => (laws_FnCorners.l0 k x20 x24 t161 0 x111000 x111001)) else (none)) else (some true))
def laws_FnCorners.l0 : Nat → List (S71) → List Int → List Int → Int → Int → List (S71) → Option (Bool)
 | 0, _, _, _, _, _, _ => none
 | k + 1, x20, x24, x28, x29, x111000, x111001 => if x29 < (x20.length : Int) then ((impl_CornersOf.f k x111000 x111001 x28).bind fun bt169 => (if (bt169.1.length : Int) = 0 then (laws_FnCorners.j3 k x20 x24 x28 x29 true x111000 x111001) else (if 0 < (bt169.1.length : Int) then (if 0 ≤ x29 then (if (rd bt169.1 0) = ((rd_T71 x20 x29).f0) then ((laws_vHas.f k x28 ((rd_T71 x20 x29).f1)).bind fun t176 => (if t176 = true then ((laws_vNear.f k x111000 x111001 ((rd_T71 x20 x29).f0) ((rd_T71 x20 x29).f1)).bind fun t179 => (laws_FnCorners.j3 k x20 x24 x28 x29 (!t179) x111000 x111001)) else (laws_FnCorners.j3 k x20 x24 x28 x29 true x111000 x111001))) else (laws_FnCorners.j3 k x20 x24 x28 x29 true x111000 x111001)) else (none)) else (none)))) else ((impl_CornersOf.f k x111000 x111001 x28).bind fun bt164 => ((laws_vInts.f k x28 x24).bind fun t168 => (if t168 = true then (some ((bt164.1.length : Int) == 0)) else (none))))
def laws_FnCorners.j3 : Nat → List (S71) → List Int → List Int → Int → Bool → Int → List (S71) → Option (Bool)
 | 0, _, _, _, _, _, _, _ => none
 | k + 1, x20, x24, x28, x29, x231, x111000, x111001 => if x231 = true then (none) else (laws_FnCorners.l1 k x20 x24 x28 x29 (([] : List Int)) 0 x111000 x111001)
def laws_FnCorners.l1 : Nat → List (S71) → List Int → List Int → Int → List Int → Int → Int → List (S71) → Option (Bool)
 | 0, _, _, _, _, _, _, _, _ => none
 | k + 1, x20, x24, x28, x29, x32, x33, x111000, x111001 => if x33 < (x28.length : Int) then (if 0 ≤ x33 then (if 0 ≤ x29 then (if x29 < (x20.length : Int) then (if (rd x28 x33) = ((rd_T71 x20 x29).f0) then (laws_FnCorners.l1 k x20 x24 x28 x29 x32 (wrap64 (x33 + 1)) x111000 x111001) else (if x32.length < 17592186044416 then (laws_FnCorners.l1 k x20 x24 x28 x29 (x32 ++ [rd x28 x33]) (wrap64 (x33 + 1)) x111000 x111001) else (none))) else (none)) else (none)) else (none)) else (laws_FnCorners.l0 k x20 x24 x32 (wrap64 (x29 + 1)) x111000 x111001)
end
def laws_FnCorners.f (k : Nat) (l0 : List Int) : Option (Bool) := (laws_vBig.f l0).bind fun t101 => (if t101 = true then (some true) else ((spec_DrawIsCorner.f k l0).bind fun bt102 => ((impl_IsCorner.f k bt102.1 bt102.2.1 bt102.2.2.1 bt102.2.2.2).bind fun bt111 => ((spec_IsCorner.f k bt102.1 bt102.2.1 bt102.2.2.1 bt102.2.2.2).bind fun bt113 => ((impl_CornersOf.f k bt102.1 bt102.2.1 bt102.2.2.1).bind fun bt115 => ((spec_CornersOf.f k bt102.1 bt102.2.1 bt102.2.2.1).bind fun bt119 => ((laws_vCut.f l0 1).bind fun t123 => ((spec_DrawCoversOf.f k t123).bind fun bt126 => ((impl_CoversOf.f k bt126.1 bt126.2.1 bt126.2.2).bind fun bt132 => ((spec_CoversOf.f k bt126.1 bt126.2.1 bt126.2.2).bind fun bt136 => ((impl_StrippingOf.f k bt102.1 bt102.2.1).bind fun bt140 => ((spec_StrippingOf.f k bt102.1 bt102.2.1).bind fun bt144 => ((impl_CoreOf.f k bt102.1 bt102.2.1).bind fun bt148 => ((spec_CoreOf.f k bt102.1 bt102.2.1).bind fun bt152 => (if (bt111.1 != bt113.1) = true then (laws_FnCorners.j0 k bt102.2.2.2 bt111.1 bt111.2 bt115.1 bt115.2 bt140.1 bt140.2 bt148.1 true bt102.1 bt102.2.1) else (if (bt111.2 != bt113.2) = true then (laws_FnCorners.j0 k bt102.2.2.2 bt111.1 bt111.2 bt115.1 bt115.2 bt140.1 bt140.2 bt148.1 true bt102.1 bt102.2.1) else (if (bt115.2 != bt119.2) = true then (laws_FnCorners.j0 k bt102.2.2.2 bt111.1 bt111.2 bt115.1 bt115.2 bt140.1 bt140.2 bt148.1 true bt102.1 bt102.2.1) else ((laws_vInts.f k bt115.1 bt119.1).bind fun t156 => (if t156 = true then (if (bt132.2 != bt136.2) = true then (laws_FnCorners.j0 k bt102.2.2.2 bt111.1 bt111.2 bt115.1 bt115.2 bt140.1 bt140.2 bt148.1 true bt102.1 bt102.2.1) else ((laws_vInts.f k bt132.1 bt136.1).bind fun t157 => (if t157 = true then (if (bt140.2 != bt144.2) = true then (laws_FnCorners.j0 k bt102.2.2.2 bt111.1 bt111.2 bt115.1 bt115.2 bt140.1 bt140.2 bt148.1 true bt102.1 bt102.2.1) else ((laws_vPairs.f k bt140.1 bt144.1).bind fun t158 => (if t158 = true then (if (bt148.2 != bt152.2) = true then (laws_FnCorners.j0 k bt102.2.2.2 bt111.1 bt111.2 bt115.1 bt115.2 bt140.1 bt140.2 bt148.1 true bt102.1 bt102.2.1) else ((laws_vInts.f k bt148.1 bt152.1).bind fun t159 => (laws_FnCorners.j0 k bt102.2.2.2 bt111.1 bt111.2 bt115.1 bt115.2 bt140.1 bt140.2 bt148.1 (!t159) bt102.1 bt102.2.1))) else (laws_FnCorners.j0 k bt102.2.2.2 bt111.1 bt111.2 bt115.1 bt115.2 bt140.1 bt140.2 bt148.1 true bt102.1 bt102.2.1)))) else (laws_FnCorners.j0 k bt102.2.2.2 bt111.1 bt111.2 bt115.1 bt115.2 bt140.1 bt140.2 bt148.1 true bt102.1 bt102.2.1)))) else (laws_FnCorners.j0 k bt102.2.2.2 bt111.1 bt111.2 bt115.1 bt115.2 bt140.1 bt140.2 bt148.1 true bt102.1 bt102.2.1))))))))))))))))))))
theorem laws_FnCorners.mono_l : ∀ k, (∀ y0 y1 y2 y3 y4 y5 y6 y7 y8 y9 y10, LeO (laws_FnCorners.j0 k y0 y1 y2 y3 y4 y5 y6 y7 y8 y9 y10) (laws_FnCorners.j0 (k + 1) y0 y1 y2 y3 y4 y5 y6 y7 y8 y9 y10)) ∧ (∀ y0 y1 y2 y3 y4 y5, LeO (laws_FnCorners.j1 k y0 y1 y2 y3 y4 y5) (laws_FnCorners.j1 (k + 1) y0 y1 y2 y3 y4 y5)) ∧ (∀ y0 y1 y2 y3 y4 y5, LeO (laws_FnCorners.l0 k y0 y1 y2 y3 y4 y5) (laws_FnCorners.l0 (k + 1) y0 y1 y2 y3 y4 y5)) ∧ (∀ y0 y1 y2 y3 y4 y5 y6, LeO (laws_FnCorners.j3 k y0 y1 y2 y3 y4 y5 y6) (laws_FnCorners.j3 (k + 1) y0 y1 y2 y3 y4 y5 y6)) ∧ (∀ y0 y1 y2 y3 y4 y5 y6 y7, LeO (laws_FnCorners.l1 k y0 y1 y2 y3 y4 y5 y6 y7) (laws_FnCorners.l1 (k + 1) y0 y1 y2 y3 y4 y5 y6 y7))
 | 0 => ⟨fun _ _ _ _ _ _ _ _ _ _ _ r h => by simp [laws_FnCorners.j0] at h, fun _ _ _ _ _ _ r h => by simp [laws_FnCorners.j1] at h, fun _ _ _ _ _ _ r h => by simp [laws_FnCorners.l0] at h, fun _ _ _ _ _ _ _ r h => by simp [laws_FnCorners.j3] at h, fun _ _ _ _ _ _ _ _ r h => by simp [laws_FnCorners.l1] at h⟩
 | k + 1 => by
  obtain ⟨ih0, ih1, ih2, ih3, ih4⟩ := laws_FnCorners.mono_l k; refine ⟨?_, ?_, ?_, ?_, ?_⟩
  all_goals
   intros
   first | unfold laws_FnCorners.j0 | unfold laws_FnCorners.j1 | unfold laws_FnCorners.l0 | unfold laws_FnCorners.j3 | unfold laws_FnCorners.l1
   repeat' first | (with_reducible first | exact ih0 _ _ _ _ _ _ _ _ _ _ _ | exact ih1 _ _ _ _ _ _ | exact ih2 _ _ _ _ _ _ | exact ih3 _ _ _ _ _ _ _ | exact ih4 _ _ _ _ _ _ _ _ | exact impl_CoreOf.mono _ _ _ | exact impl_CornersOf.mono _ _ _ _ | exact impl_CoversOf.mono _ _ _ _ | exact impl_IsCorner.mono _ _ _ _ _ | exact impl_StrippingOf.mono _ _ _ | exact laws_vBits.mono _ _ _ | exact laws_vHas.mono _ _ _ | exact laws_vInts.mono _ _ _ | exact laws_vNear.mono _ _ _ _ _ | exact laws_vPairs.mono _ _ _ | exact spec_CoreOf.mono _ _ _ | exact spec_CornersOf.mono _ _ _ _ | exact spec_CoversOf.mono _ _ _ _ | exact spec_DrawCoversOf.mono _ _ | exact spec_DrawIsCorner.mono _ _ | exact spec_IsCorner.mono _ _ _ _ _ | exact spec_StrippingOf.mono _ _ _ | exact LeO.refl _ | exact LeO.none _ | refine LeO.ite ?_ ?_ | refine LeO.bind ?_ (fun _ => ?_))
theorem laws_FnCorners.mono : ∀ a0 k, LeO (laws_FnCorners.f k a0) (laws_FnCorners.f (k + 1) a0) := by
 intro a0 k
 obtain ⟨ih0, ih1, ih2, ih3, ih4⟩ := laws_FnCorners.mono_l k
 unfold laws_FnCorners.f
 repeat' first | (with_reducible first | exact ih0 _ _ _ _ _ _ _ _ _ _ _ | exact ih1 _ _ _ _ _ _ | exact ih2 _ _ _ _ _ _ | exact ih3 _ _ _ _ _ _ _ | exact ih4 _ _ _ _ _ _ _ _ | exact impl_CoreOf.mono _ _ _ | exact impl_CornersOf.mono _ _ _ _ | exact impl_CoversOf.mono _ _ _ _ | exact impl_IsCorner.mono _ _ _ _ _ | exact impl_StrippingOf.mono _ _ _ | exact laws_vBits.mono _ _ _ | exact laws_vHas.mono _ _ _ | exact laws_vInts.mono _ _ _ | exact laws_vNear.mono _ _ _ _ _ | exact laws_vPairs.mono _ _ _ | exact spec_CoreOf.mono _ _ _ | exact spec_CornersOf.mono _ _ _ _ | exact spec_CoversOf.mono _ _ _ _ | exact spec_DrawCoversOf.mono _ _ | exact spec_DrawIsCorner.mono _ _ | exact spec_IsCorner.mono _ _ _ _ _ | exact spec_StrippingOf.mono _ _ _ | exact LeO.refl _ | exact LeO.none _ | refine LeO.ite ?_ ?_ | refine LeO.bind ?_ (fun _ => ?_))
def laws_FnCorners.T21 : Bool × List (List Nat × List Nat) := (true, [([], []), ([0], [0]), ([], []), ([2], [2]), ([3], [3]), ([4], [4]), ([1, 5], [1, 5]), ([6, 6, 0, 1, 2, 3, 4, 5, 6], [6])])
def laws_FnCorners.B21 : List Nat := [0, 1, 0, 4, 12, 28, 63, 127]
theorem laws_FnCorners.tab21 : rtab .any (opsOf Try.f6 21) = laws_FnCorners.T21 := by kernel_rfl
theorem laws_FnCorners.bits21 : waitsOk laws_FnCorners.T21.2 laws_FnCorners.B21 = true := by kernel_rfl
def laws_FnCorners.T26 : Bool × List (List Nat × List Nat) := (true, [([], []), ([0], [0]), ([1], [1]), ([2], [2]), ([3], [3]), ([4, 3], [3, 4]), ([5, 3], [3, 5]), ([3], [3]), ([3], [3]), ([7, 8, 3], [3, 7, 8]), ([9, 3], [3, 9]), ([10, 3], [3, 10]), ([6, 11, 3], [3, 6, 11]), ([3, 12], [3, 12]), ([13, 3], [13]), ([14], [14]), ([14], [14]), ([14], [14]), ([16, 17, 14], [14, 16, 17]), ([18, 14], [14, 18]), ([19, 14], [14, 19]), ([15, 20, 14, 14], [14, 15, 20]), ([21, 14], [14, 21]), ([14, 22], [14, 22]), ([23, 21], [23]), ([24], [24]), ([24], [24]), ([24], [24]), ([26, 27, 24], [24, 26, 27]), ([28, 24], [24, 28]), ([29, 24], [24, 29]), ([24], [24]), ([24], [24]), ([31, 32, 24], [24, 31, 32]), ([33, 24], [24, 33]), ([34, 24], [24, 34]), ([25, 30, 35, 24, 24], [24, 25, 30, 35]), ([36, 24], [24, 36]), ([24, 37], [24, 37])])
def laws_FnCorners.B26 : List Nat := [0, 1, 3, 7, 15, 31, 63, 15, 15, 399, 911, 1935, 4095, 8191, 16383, 32767, 32767, 32767, 229375, 491519, 1015807, 2097151, 4194303, 8388607, 16777215, 33554431, 33554431, 33554431, 234881023, 503316479, 1040187391, 33554431, 33554431, 6476005375, 15065939967, 32245809151, 68719476735, 137438953471, 274877906943]
theorem laws_FnCorners.tab26 : rtab .any (opsOf Try.f6 26) = laws_FnCorners.T26 := by kernel_rfl
theorem laws_FnCorners.bits26 : waitsOk laws_FnCorners.T26.2 laws_FnCorners.B26 = true := by kernel_rfl
def laws_FnCorners.T32 : Bool × List (List Nat × List Nat) := (true, [([], []), ([], []), ([0, 1], [0, 1]), ([2], [2]), ([], []), ([], []), ([4, 5], [4, 5]), ([6], [6]), ([7], [7]), ([3, 8], [3, 8])])
def laws_FnCorners.B32 : List Nat := [0, 0, 3, 7, 0, 0, 48, 112, 240, 511]
theorem laws_FnCorners.tab32 : rtab .any (opsOf Try.f6 32) = laws_FnCorners.T32 := by kernel_rfl
theorem laws_FnCorners.bits32 : waitsOk laws_FnCorners.T32.2 laws_FnCorners.B32 = true := by kernel_rfl
theorem laws_FnCorners.j0_true {k : Nat} {x5 x6 x7 x10 x11 x20 x21 x24 x111000 x111001} {r : Bool} (h : laws_FnCorners.j0 k x5 x6 x7 x10 x11 x20 x21 x24 true x111000 x111001 = some r) : False := by cases k <;> simp [laws_FnCorners.j0] at h
theorem laws_FnCorners.j1_true {k : Nat} {x20 x21 x24 x111000 x111001} {r : Bool} (h : laws_FnCorners.j1 k x20 x21 x24 true x111000 x111001 = some r) : False := by cases k <;> simp [laws_FnCorners.j1] at h
theorem laws_FnCorners.j3_true {k : Nat} {x20 x24 x28 x29 x111000 x111001} {r : Bool} (h : laws_FnCorners.j3 k x20 x24 x28 x29 true x111000 x111001 = some r) : False := by cases k <;> simp [laws_FnCorners.j3] at h
set_option maxHeartbeats 8000000 in
set_option maxRecDepth 100000 in
theorem laws_FnCorners.calls (k : Nat) (A0 : Option Addr) (c0 : Nat) (l0 : List Int) (r : Bool) (w : World) (hr0 : Kd.C (Kd.int .u8) w A0 l0.length l0) (hc0 : l0.length ≤ c0) (h : laws_FnCorners.f k l0 = some r) :
  Calls Try.prog 6 #[.slice A0 l0.length c0] w fun e w' => e = .returned (.bool r) ∧ Below w.heap.size w w' := by
 have hu30 := Try.underlying30
 have HR0 := Aside0.mk hr0
 have HC0 := Aside0.mk hc0
 clear hr0 hc0
 have HB := am (Below.refl w.heap.size w)
 have H : ((laws_vBig.f l0).bind fun t101 => (if t101 = true then (some true) else ((spec_DrawIsCorner.f k l0).bind fun bt102 => ((impl_IsCorner.f k bt102.1 bt102.2.1 bt102.2.2.1 bt102.2.2.2).bind fun bt111 => ((spec_IsCorner.f k bt102.1 bt102.2.1 bt102.2.2.1 bt102.2.2.2).bind fun bt113 => ((impl_CornersOf.f k bt102.1 bt102.2.1 bt102.2.2.1).bind fun bt115 => ((spec_CornersOf.f k bt102.1 bt102.2.1 bt102.2.2.1).bind fun bt119 => ((laws_vCut.f l0 1).bind fun t123 => ((spec_DrawCoversOf.f k t123).bind fun bt126 => ((impl_CoversOf.f k bt126.1 bt126.2.1 bt126.2.2).bind fun bt132 => ((spec_CoversOf.f k bt126.1 bt126.2.1 bt126.2.2).bind fun bt136 => ((impl_StrippingOf.f k bt102.1 bt102.2.1).bind fun bt140 => ((spec_StrippingOf.f k bt102.1 bt102.2.1).bind fun bt144 => ((impl_CoreOf.f k bt102.1 bt102.2.1).bind fun bt148 => ((spec_CoreOf.f k bt102.1 bt102.2.1).bind fun bt152 => (if (bt111.1 != bt113.1) = true then (laws_FnCorners.j0 k bt102.2.2.2 bt111.1 bt111.2 bt115.1 bt115.2 bt140.1 bt140.2 bt148.1 true bt102.1 bt102.2.1) else (if (bt111.2 != bt113.2) = true then (laws_FnCorners.j0 k bt102.2.2.2 bt111.1 bt111.2 bt115.1 bt115.2 bt140.1 bt140.2 bt148.1 true bt102.1 bt102.2.1) else (if (bt115.2 != bt119.2) = true then (laws_FnCorners.j0 k bt102.2.2.2 bt111.1 bt111.2 bt115.1 bt115.2 bt140.1 bt140.2 bt148.1 true bt102.1 bt102.2.1) else ((laws_vInts.f k bt115.1 bt119.1).bind fun t156 => (if t156 = true then (if (bt132.2 != bt136.2) = true then (laws_FnCorners.j0 k bt102.2.2.2 bt111.1 bt111.2 bt115.1 bt115.2 bt140.1 bt140.2 bt148.1 true bt102.1 bt102.2.1) else ((laws_vInts.f k bt132.1 bt136.1).bind fun t157 => (if t157 = true then (if (bt140.2 != bt144.2) = true then (laws_FnCorners.j0 k bt102.2.2.2 bt111.1 bt111.2 bt115.1 bt115.2 bt140.1 bt140.2 bt148.1 true bt102.1 bt102.2.1) else ((laws_vPairs.f k bt140.1 bt144.1).bind fun t158 => (if t158 = true then (if (bt148.2 != bt152.2) = true then (laws_FnCorners.j0 k bt102.2.2.2 bt111.1 bt111.2 bt115.1 bt115.2 bt140.1 bt140.2 bt148.1 true bt102.1 bt102.2.1) else ((laws_vInts.f k bt148.1 bt152.1).bind fun t159 => (laws_FnCorners.j0 k bt102.2.2.2 bt111.1 bt111.2 bt115.1 bt115.2 bt140.1 bt140.2 bt148.1 (!t159) bt102.1 bt102.2.1))) else (laws_FnCorners.j0 k bt102.2.2.2 bt111.1 bt111.2 bt115.1 bt115.2 bt140.1 bt140.2 bt148.1 true bt102.1 bt102.2.1)))) else (laws_FnCorners.j0 k bt102.2.2.2 bt111.1 bt111.2 bt115.1 bt115.2 bt140.1 bt140.2 bt148.1 true bt102.1 bt102.2.1)))) else (laws_FnCorners.j0 k bt102.2.2.2 bt111.1 bt111.2 bt115.1 bt115.2 bt140.1 bt140.2 bt148.1 true bt102.1 bt102.2.1))))))))))))))))))))) = some r := h
 clear h
 replace H := (ob H)
 obtain ⟨t101, A20, H⟩ := H
 (try dsimp only at H)
 have A2 := Aside0.mk A20
 clear A20
 have HU3 := Aside0.mk H
 clear H
 go_enter Try.func6, Try.ntmps6
 go_upto_if 37 with (first | ((with_reducible refine gate_callee (f := 47) rfl ?_); refine goesL_ (some 37) rfl rfl Try.func47 (by kernel_rfl) rfl #[.slice A0 l0.length c0] rfl Q3 ?_; (with_reducible refine (laws_vBig.calls _ _ l0 t101 _ ?side1 ?side2 A2.out).mono ?_); (case side1 => exact (Q87 HR0)); (case side2 => exact HC0.out); rintro e w' ⟨rfl, ⟨nd, rfl⟩⟩; refine ⟨_, rfl, ?_⟩))
 (try simp only [Act.put, List.setIfInBounds_toArray, List.set_cons_zero, List.set_cons_succ])
 have H := HU3.out
 clear HU3
 by_cases c4 : t101 = true
 ·subst c4
  have H1 : (some true) = some r := by rw [if_pos rfl] at H; exact H
  clear H; have H := H1; clear H1; obtain rfl := Option.some.inj H
  go_wp2
  go_ret
  exact ⟨Q11, Q0 HB⟩
 ·replace c4 := Bool.eq_false_iff.mpr c4
  subst c4; have H1 : ((spec_DrawIsCorner.f k l0).bind fun bt102 => ((impl_IsCorner.f k bt102.1 bt102.2.1 bt102.2.2.1 bt102.2.2.2).bind fun bt111 => ((spec_IsCorner.f k bt102.1 bt102.2.1 bt102.2.2.1 bt102.2.2.2).bind fun bt113 => ((impl_CornersOf.f k bt102.1 bt102.2.1 bt102.2.2.1).bind fun bt115 => ((spec_CornersOf.f k bt102.1 bt102.2.1 bt102.2.2.1).bind fun bt119 => ((laws_vCut.f l0 1).bind fun t123 => ((spec_DrawCoversOf.f k t123).bind fun bt126 => ((impl_CoversOf.f k bt126.1 bt126.2.1 bt126.2.2).bind fun bt132 => ((spec_CoversOf.f k bt126.1 bt126.2.1 bt126.2.2).bind fun bt136 => ((impl_StrippingOf.f k bt102.1 bt102.2.1).bind fun bt140 => ((spec_StrippingOf.f k bt102.1 bt102.2.1).bind fun bt144 => ((impl_CoreOf.f k bt102.1 bt102.2.1).bind fun bt148 => ((spec_CoreOf.f k bt102.1 bt102.2.1).bind fun bt152 => (if (bt111.1 != bt113.1) = true then (laws_FnCorners.j0 k bt102.2.2.2 bt111.1 bt111.2 bt115.1 bt115.2 bt140.1 bt140.2 bt148.1 true bt102.1 bt102.2.1) else (if (bt111.2 != bt113.2) = true then (laws_FnCorners.j0 k bt102.2.2.2 bt111.1 bt111.2 bt115.1 bt115.2 bt140.1 bt140.2 bt148.1 true bt102.1 bt102.2.1) else (if (bt115.2 != bt119.2) = true then (laws_FnCorners.j0 k bt102.2.2.2 bt111.1 bt111.2 bt115.1 bt115.2 bt140.1 bt140.2 bt148.1 true bt102.1 bt102.2.1) else ((laws_vInts.f k bt115.1 bt119.1).bind fun t156 => (if t156 = true then (if (bt132.2 != bt136.2) = true then (laws_FnCorners.j0 k bt102.2.2.2 bt111.1 bt111.2 bt115.1 bt115.2 bt140.1 bt140.2 bt148.1 true bt102.1 bt102.2.1) else ((laws_vInts.f k bt132.1 bt136.1).bind fun t157 => (if t157 = true then (if (bt140.2 != bt144.2) = true then (laws_FnCorners.j0 k bt102.2.2.2 bt111.1 bt111.2 bt115.1 bt115.2 bt140.1 bt140.2 bt148.1 true bt102.1 bt102.2.1) else ((laws_vPairs.f k bt140.1 bt144.1).bind fun t158 => (if t158 = true then (if (bt148.2 != bt152.2) = true then (laws_FnCorners.j0 k bt102.2.2.2 bt111.1 bt111.2 bt115.1 bt115.2 bt140.1 bt140.2 bt148.1 true bt102.1 bt102.2.1) else ((laws_vInts.f k bt148.1 bt152.1).bind fun t159 => (laws_FnCorners.j0 k bt102.2.2.2 bt111.1 bt111.2 bt115.1 bt115.2 bt140.1 bt140.2 bt148.1 (!t159) bt102.1 bt102.2.1))) else (laws_FnCorners.j0 k bt102.2.2.2 bt111.1 bt111.2 bt115.1 bt115.2 bt140.1 bt140.2 bt148.1 true bt102.1 bt102.2.1)))) else (laws_FnCorners.j0 k bt102.2.2.2 bt111.1 bt111.2 bt115.1 bt115.2 bt140.1 bt140.2 bt148.1 true bt102.1 bt102.2.1)))) else (laws_FnCorners.j0 k bt102.2.2.2 bt111.1 bt111.2 bt115.1 bt115.2 bt140.1 bt140.2 bt148.1 true bt102.1 bt102.2.1))))))))))))))))))) = some r := by rw [if_neg (show ¬ (false = true) by decide)] at H; exact H
  clear H; have H := H1; clear H1; replace H := (ob H); obtain ⟨⟨t102, t103, t106, t109⟩, A50, H⟩ := H; (try dsimp only at H); have A5 := Aside0.mk A50; clear A50; replace H := (ob H); obtain ⟨⟨t111, t112⟩, A60, H⟩ := H; (try dsimp only at H); have A6 := Aside0.mk A60; clear A60; replace H := (ob H); obtain ⟨⟨t113, t114⟩, A70, H⟩ := H; (try dsimp only at H); have A7 := Aside0.mk A70; clear A70; replace H := (ob H); obtain ⟨⟨t115, t118⟩, A80, H⟩ := H; (try dsimp only at H); have A8 := Aside0.mk A80; clear A80; replace H := (ob H); obtain ⟨⟨t119, t122⟩, A90, H⟩ := H; (try dsimp only at H); have A9 := Aside0.mk A90; clear A90; replace H := (ob H); obtain ⟨t123, A100, H⟩ := H; (try dsimp only at H); have A10 := Aside0.mk A100; clear A100; replace H := (ob H); obtain ⟨⟨t126, t127, t130⟩, A110, H⟩ := H; (try dsimp only at H); have A11 := Aside0.mk A110; clear A110; replace H := (ob H); obtain ⟨⟨t132, t135⟩, A120, H⟩ := H; (try dsimp only at H); have A12 := Aside0.mk A120; clear A120; replace H := (ob H); obtain ⟨⟨t136, t139⟩, A130, H⟩ := H; (try dsimp only at H); have A13 := Aside0.mk A130; clear A130; replace H := (ob H); obtain ⟨⟨t140, t143⟩, A140, H⟩ := H; (try dsimp only at H); have A14 := Aside0.mk A140; clear A140; replace H := (ob H); obtain ⟨⟨t144, t147⟩, A150, H⟩ := H; (try dsimp only at H); have A15 := Aside0.mk A150; clear A150; replace H := (ob H); obtain ⟨⟨t148, t151⟩, A160, H⟩ := H; (try dsimp only at H); have A16 := Aside0.mk A160; clear A160; replace H := (ob H); obtain ⟨⟨t152, t155⟩, A170, H⟩ := H; (try dsimp only at H); have A17 := Aside0.mk A170; clear A170; have HU18 := Aside0.mk H; clear H
  go_upto_region 15 with (first | ((with_reducible refine gate_callee (f := 48) rfl ?_); refine goesL_ (some 40) rfl rfl Try.func48 (by kernel_rfl) rfl #[.slice A0 l0.length c0] rfl Q3 ?_; (with_reducible refine (spec_DrawIsCorner.calls k _ _ l0 t102 t103 t106 t109 _ ?side1 ?side2 A5.out).mono ?_); (case side1 => exact (Q65 HR0)); (case side2 => exact HC0.out); rintro e w19 ⟨v104, v107, rfl, ho0, ho1, hb⟩; refine ⟨_, rfl, ?_⟩; have HO105 := am (Kd.R_lower ho0 (below_size (Q0 HB))); have HO108 := am (Kd.R_lower ho1 (below_size (Q0 HB))); replace HB := am (below_step (Q0 HB) hb); (try clear hb); (try clear hb2); (try clear hk); (try clear hi); (try clear ho0); (try clear ho1)) | ((with_reducible refine gate_dst (N := 3) rfl ?_); (try (refine gate_guard (by rfl) ?_; dsimp only)); refine box_event ?hg (N := 3) ?hd (cs := #[.int .i64 0, .slice none 0 0]) (t := 30) ?hr ?_; (case hd => rfl); (case hg => rfl); (case hr => first | (go_simp; done) | (go_simp; rfl)); intro gb110 hg w20 hbox hb; replace HO105 := am (Kd.R_below (Q2 HO105) hb); replace HO108 := am (Kd.R_below (Q2 HO108) hb); have BK110 := am (hbox); have GW110 := am ((Q25 : w.heap.size ≤ gb110)); have GE110 := am ((Q25 : w.heap.size ≤ gb110)); replace HB := am (below_step (Q0 HB) hb); clear hb hbox hg; have hcz21_0 : w20.cell? ⟨gb110, 0, none⟩ = some (.int .i64 0) := (blk_cell BK110.out 0).trans rfl; have hcz21_1 : w20.cell? ⟨gb110, 1, none⟩ = some (.slice none 0 0) := (blk_cell BK110.out 1).trans rfl; have hfz21_0 := blk_frozen BK110.out 0; have hfz21_1 := blk_frozen BK110.out 1; obtain ⟨Ao22, co22, eo22⟩ := Kd.R_slice HO105.out; subst eo22; obtain ⟨Ao23, co23, eo23⟩ := Kd.R_slice HO108.out; subst eo23) | ((with_reducible refine gate_callee (f := 49) rfl ?_); refine goesL_ (some 48) rfl rfl Try.func49 (by kernel_rfl) rfl #[.agg #[.int .i64 t102, .slice Ao22 t103.length co22], .slice Ao23 t106.length co23, .int .i64 t109] rfl Q3 ?_; (with_reducible refine (impl_IsCorner.calls k t102 _ _ t103 _ _ t106 t109 t111 t112 _ ?side1 ?side2 ?side3 ?side4 A6.out).mono ?_); (case side1 => refine (Kd.R_reads' (e := 71) (base := w.heap.size) (ok := fun k_ => True) (n := t103.length) (c := co22) ?_).2.2; exact (Q48 HO105 BK110)); (case side2 => exact (Kd.R_reads' HO105.out).2.1); (case side3 => refine (Kd.R_reads' (e := 3) (base := w.heap.size) (ok := fun k_ => True) (n := t106.length) (c := co23) ?_).2.2; exact (Q48 HO108 BK110)); (case side4 => exact (Kd.R_reads' HO108.out).2.1); rintro e w24 ⟨rfl, hb⟩; refine ⟨_, rfl, ?_⟩; replace HO105 := am (Kd.R_below (Q48 HO105 BK110) hb); replace HO108 := am (Kd.R_below (Q48 HO108 BK110) hb); replace BK110 := am (blk_below (g := gb110) (o := .cells #[.int .i64 t102, .slice Ao22 t103.length co22] 30 (0, 0)) (Q27 BK110) hb); replace HB := am (below_step (Q16 HB GE110) hb); (try clear hb); (try clear hb2); (try clear hk); (try clear hi); have hcz25_0 : w24.cell? ⟨gb110, 0, none⟩ = some (.int .i64 t102) := (blk_cell BK110.out 0).trans rfl; have hcz25_1 : w24.cell? ⟨gb110, 1, none⟩ = some (.slice Ao22 t103.length co22) := (blk_cell BK110.out 1).trans rfl; have hfz25_0 := blk_frozen BK110.out 0; have hfz25_1 := blk_frozen BK110.out 1) | ((with_reducible refine gate_callee (f := 50) rfl ?_); refine goesL_ (some 55) rfl rfl Try.func50 (by kernel_rfl) rfl #[.agg #[.int .i64 t102, .slice Ao22 t103.length co22], .slice Ao23 t106.length co23, .int .i64 t109] rfl Q3 ?_; (with_reducible refine (spec_IsCorner.calls k t102 _ _ t103 _ _ t106 t109 t113 t114 _ ?side1 ?side2 ?side3 ?side4 A7.out).mono ?_); (case side1 => exact (Q14 HO105)); (case side2 => exact (Kd.R_reads' HO105.out).2.1); (case side3 => exact (Q14 HO108)); (case side4 => exact (Kd.R_reads' HO108.out).2.1); rintro e w26 ⟨rfl, hb⟩; refine ⟨_, rfl, ?_⟩; replace HO105 := am (Kd.R_below (Q2 HO105) hb); replace HO108 := am (Kd.R_below (Q2 HO108) hb); replace BK110 := am (blk_below (g := gb110) (o := .cells #[.int .i64 t102, .slice Ao22 t103.length co22] 30 (0, 0)) (Q1 BK110) hb); replace HB := am (below_step (Q0 HB) hb); (try clear hb); (try clear hb2); (try clear hk); (try clear hi); have hcz27_0 : w26.cell? ⟨gb110, 0, none⟩ = some (.int .i64 t102) := (blk_cell BK110.out 0).trans rfl; have hcz27_1 : w26.cell? ⟨gb110, 1, none⟩ = some (.slice Ao22 t103.length co22) := (blk_cell BK110.out 1).trans rfl; have hfz27_0 := blk_frozen BK110.out 0; have hfz27_1 := blk_frozen BK110.out 1) | ((with_reducible refine gate_callee (f := 51) rfl ?_); refine goesL_ (some 61) rfl rfl Try.func51 (by kernel_rfl) rfl #[.agg #[.int .i64 t102, .slice Ao22 t103.length co22], .slice Ao23 t106.length co23] rfl Q3 ?_; (with_reducible refine (impl_CornersOf.calls k t102 _ _ t103 _ _ t106 t115 t118 _ ?side1 ?side2 ?side3 ?side4 A8.out).mono ?_); (case side1 => exact (Q14 HO105)); (case side2 => exact (Kd.R_reads' HO105.out).2.1); (case side3 => exact (Q14 HO108)); (case side4 => exact (Kd.R_reads' HO108.out).2.1); rintro e w28 ⟨v116, rfl, ho0, hb⟩; refine ⟨_, rfl, ?_⟩; replace HO105 := am (Kd.R_below (Q2 HO105) hb); have HO117 := am (Kd.R_lower (Kd.R_new' ho0 (Kd.R_lt (Q2 HO108))) (below_size (Q0 HB))); replace HO108 := am (Kd.R_elder' (Q2 HO108) (Kd.R_base ho0) hb); replace BK110 := am (blk_below (g := gb110) (o := .cells #[.int .i64 t102, .slice Ao22 t103.length co22] 30 (0, 0)) (Q1 BK110) hb); replace HB := am (below_step (Q0 HB) hb); (try clear hb); (try clear hb2); (try clear hk); (try clear hi); (try clear ho0); have hcz29_0 : w28.cell? ⟨gb110, 0, none⟩ = some (.int .i64 t102) := (blk_cell BK110.out 0).trans rfl; have hcz29_1 : w28.cell? ⟨gb110, 1, none⟩ = some (.slice Ao22 t103.length co22) := (blk_cell BK110.out 1).trans rfl; have hfz29_0 := blk_frozen BK110.out 0; have hfz29_1 := blk_frozen BK110.out 1) | ((with_reducible refine gate_callee (f := 52) rfl ?_); refine goesL_ (some 67) rfl rfl Try.func52 (by kernel_rfl) rfl #[.agg #[.int .i64 t102, .slice Ao22 t103.length co22], .slice Ao23 t106.length co23] rfl Q3 ?_; (with_reducible refine (spec_CornersOf.calls k t102 _ _ t103 _ _ t106 t119 t122 _ ?side1 ?side2 ?side3 ?side4 A9.out).mono ?_); (case side1 => exact (Q14 HO105)); (case side2 => exact (Kd.R_reads' HO105.out).2.1); (case side3 => exact (Q14 HO108)); (case side4 => exact (Kd.R_reads' HO108.out).2.1); rintro e w30 ⟨v120, rfl, ho0, hb⟩; refine ⟨_, rfl, ?_⟩; replace HO105 := am (Kd.R_below (Q2 HO105) hb); have HO121 := am (Kd.R_lower (Kd.R_new' (Kd.R_new' ho0 (Kd.R_lt (Q2 HO108))) (Kd.R_lt (Q2 HO117))) (below_size (Q0 HB))); replace HO108 := am (Kd.R_elder' (Q2 HO108) (Kd.R_base ho0) hb); replace HO117 := am (Kd.R_elder' (Q2 HO117) (Kd.R_base ho0) hb); replace BK110 := am (blk_below (g := gb110) (o := .cells #[.int .i64 t102, .slice Ao22 t103.length co22] 30 (0, 0)) (Q1 BK110) hb); replace HB := am (below_step (Q0 HB) hb); (try clear hb); (try clear hb2); (try clear hk); (try clear hi); (try clear ho0)) | ((with_reducible refine gate_callee (f := 54) rfl ?_); refine goesL_ (some 72) rfl rfl Try.func54 (by kernel_rfl) rfl #[.slice A0 l0.length c0, .int .i64 1] rfl Q3 ?_; (with_reducible refine (laws_vCut.calls _ _ l0 1 t123 _ ?side1 ?side2 A10.out).mono ?_); (case side1 => exact (Q7 HR0 HB)); (case side2 => exact HC0.out); rintro e w31 ⟨v124, rfl, ho0, hb⟩; refine ⟨_, rfl, ?_⟩; replace HO105 := am (Kd.R_below (Q2 HO105) hb); replace HO108 := am (Kd.R_below (Q2 HO108) hb); replace HO117 := am (Kd.R_below (Q2 HO117) hb); replace HO121 := am (Kd.R_below (Q2 HO121) hb); have HO125 := am (Kd.R_lower ho0 (below_size (Q0 HB))); replace BK110 := am (blk_below (g := gb110) (o := .cells #[.int .i64 t102, .slice Ao22 t103.length co22] 30 (0, 0)) (Q1 BK110) hb); replace HB := am (below_step (Q0 HB) hb); (try clear hb); (try clear hb2); (try clear hk); (try clear hi); (try clear ho0); obtain ⟨Ao32, co32, eo32⟩ := Kd.R_slice HO125.out; subst eo32) | ((with_reducible refine gate_callee (f := 53) rfl ?_); refine goesL_ (some 73) rfl rfl Try.func53 (by kernel_rfl) rfl #[.slice Ao32 t123.length co32] rfl Q3 ?_; (with_reducible refine (spec_DrawCoversOf.calls k _ _ t123 t126 t127 t130 _ ?side1 ?side2 A11.out).mono ?_); (case side1 => exact (Q14 HO125)); (case side2 => exact (Kd.R_reads' HO125.out).2.1); rintro e w33 ⟨v128, rfl, ho0, hb⟩; refine ⟨_, rfl, ?_⟩; replace HO108 := am (Kd.R_below (Q2 HO108) hb); replace HO117 := am (Kd.R_below (Q2 HO117) hb); replace HO121 := am (Kd.R_below (Q2 HO121) hb); replace HO125 := am (Kd.R_below (Q2 HO125) hb); have HO129 := am (Kd.R_lower (Kd.R_new' ho0 (Kd.R_lt (Q2 HO105))) (below_size (Q0 HB))); replace HO105 := am (Kd.R_elder' (Q2 HO105) (Kd.R_base ho0) hb); replace BK110 := am (blk_below (g := gb110) (o := .cells #[.int .i64 t102, .slice Ao22 t103.length co22] 30 (0, 0)) (Q1 BK110) hb); replace HB := am (below_step (Q0 HB) hb); (try clear hb); (try clear hb2); (try clear hk); (try clear hi); (try clear ho0)) | ((with_reducible refine gate_dst (N := 14) rfl ?_); (try (refine gate_guard (by rfl) ?_; dsimp only)); refine box_event ?hg (N := 14) ?hd (cs := #[.int .i64 0, .slice none 0 0]) (t := 30) ?hr ?_; (case hd => rfl); (case hg => rfl); (case hr => first | (go_simp; done) | (go_simp; rfl)); intro gb131 hg w34 hbox hb; replace HO105 := am (Kd.R_below (Q2 HO105) hb); replace HO108 := am (Kd.R_below (Q2 HO108) hb); replace HO117 := am (Kd.R_below (Q2 HO117) hb); replace HO121 := am (Kd.R_below (Q2 HO121) hb); replace HO125 := am (Kd.R_below (Q2 HO125) hb); replace HO129 := am (Kd.R_below (Q2 HO129) hb); have BK131 := am (hbox); have GW131 := am ((Q25 : w.heap.size ≤ gb131)); have GE131 := am ((Q25 : w.heap.size ≤ gb131)); replace HB := am (below_step (Q0 HB) hb); have NB110_131 := am ((by rw [hg]; exact Nat.ne_of_lt (blk_lt (g := gb110) (o := .cells #[.int .i64 t102, .slice Ao22 t103.length co22] 30 (0, 0)) (Q1 BK110)) : gb110 ≠ gb131)); have NB131_110 := am ((by rw [hg]; exact Nat.ne_of_gt (blk_lt (g := gb110) (o := .cells #[.int .i64 t102, .slice Ao22 t103.length co22] 30 (0, 0)) (Q1 BK110)) : gb131 ≠ gb110)); replace BK110 := am (blk_below (g := gb110) (o := .cells #[.int .i64 t102, .slice Ao22 t103.length co22] 30 (0, 0)) (Q1 BK110) hb); clear hb hbox hg; have hnb35 := NB131_110.out; have hnc35 := NB110_131.out; have hcz36_0 : w34.cell? ⟨gb131, 0, none⟩ = some (.int .i64 0) := (blk_cell BK131.out 0).trans rfl; have hcz36_1 : w34.cell? ⟨gb131, 1, none⟩ = some (.slice none 0 0) := (blk_cell BK131.out 1).trans rfl; have hfz36_0 := blk_frozen BK131.out 0; have hfz36_1 := blk_frozen BK131.out 1; obtain ⟨Ao37, co37, eo37⟩ := Kd.R_slice HO129.out; subst eo37) | ((with_reducible refine gate_callee (f := 55) rfl ?_); refine goesL_ (some 79) rfl rfl Try.func55 (by kernel_rfl) rfl #[.agg #[.int .i64 t126, .slice Ao37 t127.length co37], .int .i64 t130] rfl Q3 ?_; (with_reducible refine (impl_CoversOf.calls k t126 _ _ t127 t130 t132 t135 _ ?side1 ?side2 A12.out).mono ?_); (case side1 => refine (Kd.R_reads' (e := 71) (base := w.heap.size) (ok := fun k_ => (True ∧ some k_ ≠ (.slice Ao22 t103.length co22 : Value).ownBlock)) (n := t127.length) (c := co37) ?_).2.2; exact (Q21 HO129 BK131)); (case side2 => exact (Kd.R_reads' HO129.out).2.1); rintro e w38 ⟨v133, rfl, ho0, hb⟩; refine ⟨_, rfl, ?_⟩; replace HO105 := am (Kd.R_below (Q21 HO105 BK131) hb); replace HO125 := am (Kd.R_below (Q21 HO125 BK131) hb); replace HO129 := am (Kd.R_below (Q21 HO129 BK131) hb); have HO134 := am (Kd.R_lower (Kd.R_new' (Kd.R_new' (Kd.R_new' ho0 (Kd.R_lt (Q21 HO108 BK131))) (Kd.R_lt (Q21 HO117 BK131))) (Kd.R_lt (Q21 HO121 BK131))) (below_size (Q16 HB GE131))); replace HO108 := am (Kd.R_elder' (Q21 HO108 BK131) (Kd.R_base ho0) hb); replace HO117 := am (Kd.R_elder' (Q21 HO117 BK131) (Kd.R_base ho0) hb); replace HO121 := am (Kd.R_elder' (Q21 HO121 BK131) (Kd.R_base ho0) hb); replace BK110 := am (blk_below (g := gb110) (o := .cells #[.int .i64 t102, .slice Ao22 t103.length co22] 30 (0, 0)) (Q12 NB110_131 BK110) hb); replace BK131 := am (blk_below (g := gb131) (o := .cells #[.int .i64 t126, .slice Ao37 t127.length co37] 30 (0, 0)) (Q68 BK131) hb); replace HB := am (below_step (Q16 HB GE131) hb); (try clear hb); (try clear hb2); (try clear hk); (try clear hi); (try clear ho0); have hcz39_0 : w38.cell? ⟨gb131, 0, none⟩ = some (.int .i64 t126) := (blk_cell BK131.out 0).trans rfl; have hcz39_1 : w38.cell? ⟨gb131, 1, none⟩ = some (.slice Ao37 t127.length co37) := (blk_cell BK131.out 1).trans rfl; have hfz39_0 := blk_frozen BK131.out 0; have hfz39_1 := blk_frozen BK131.out 1) | ((with_reducible refine gate_callee (f := 56) rfl ?_); refine goesL_ (some 85) rfl rfl Try.func56 (by kernel_rfl) rfl #[.agg #[.int .i64 t126, .slice Ao37 t127.length co37], .int .i64 t130] rfl Q3 ?_; (with_reducible refine (spec_CoversOf.calls k t126 _ _ t127 t130 t136 t139 _ ?side1 ?side2 A13.out).mono ?_); (case side1 => exact (Q14 HO129)); (case side2 => exact (Kd.R_reads' HO129.out).2.1); rintro e w40 ⟨v137, rfl, ho0, hb⟩; refine ⟨_, rfl, ?_⟩; replace HO105 := am (Kd.R_below (Q2 HO105) hb); replace HO125 := am (Kd.R_below (Q2 HO125) hb); replace HO129 := am (Kd.R_below (Q2 HO129) hb); have HO138 := am (Kd.R_lower (Kd.R_new' (Kd.R_new' (Kd.R_new' (Kd.R_new' ho0 (Kd.R_lt (Q2 HO108))) (Kd.R_lt (Q2 HO117))) (Kd.R_lt (Q2 HO121))) (Kd.R_lt (Q2 HO134))) (below_size (Q0 HB))); replace HO108 := am (Kd.R_elder' (Q2 HO108) (Kd.R_base ho0) hb); replace HO117 := am (Kd.R_elder' (Q2 HO117) (Kd.R_base ho0) hb); replace HO121 := am (Kd.R_elder' (Q2 HO121) (Kd.R_base ho0) hb); replace HO134 := am (Kd.R_elder' (Q2 HO134) (Kd.R_base ho0) hb); replace BK110 := am (blk_below (g := gb110) (o := .cells #[.int .i64 t102, .slice Ao22 t103.length co22] 30 (0, 0)) (Q1 BK110) hb); replace BK131 := am (blk_below (g := gb131) (o := .cells #[.int .i64 t126, .slice Ao37 t127.length co37] 30 (0, 0)) (Q1 BK131) hb); replace HB := am (below_step (Q0 HB) hb); (try clear hb); (try clear hb2); (try clear hk); (try clear hi); (try clear ho0); have hcz41_0 : w40.cell? ⟨gb110, 0, none⟩ = some (.int .i64 t102) := (blk_cell BK110.out 0).trans rfl; have hcz41_1 : w40.cell? ⟨gb110, 1, none⟩ = some (.slice Ao22 t103.length co22) := (blk_cell BK110.out 1).trans rfl; have hfz41_0 := blk_frozen BK110.out 0; have hfz41_1 := blk_frozen BK110.out 1) | ((with_reducible refine gate_callee (f := 57) rfl ?_); refine goesL_ (some 90) rfl rfl Try.func57 (by kernel_rfl) rfl #[.agg #[.int .i64 t102, .slice Ao22 t103.length co22]] rfl Q3 ?_; (with_reducible refine (impl_StrippingOf.calls k t102 _ _ t103 t140 t143 _ ?side1 ?side2 A14.out).mono ?_); (case side1 => exact (Q14 HO105)); (case side2 => exact (Kd.R_reads' HO105.out).2.1); rintro e w42 ⟨v141, rfl, ho0, hb⟩; refine ⟨_, rfl, ?_⟩; replace HO108 := am (Kd.R_below (Q2 HO108) hb); replace HO117 := am (Kd.R_below (Q2 HO117) hb); replace HO121 := am (Kd.R_below (Q2 HO121) hb); replace HO125 := am (Kd.R_below (Q2 HO125) hb); replace HO134 := am (Kd.R_below (Q2 HO134) hb); replace HO138 := am (Kd.R_below (Q2 HO138) hb); have HO142 := am (Kd.R_lower (Kd.R_new' (Kd.R_new' ho0 (Kd.R_lt (Q2 HO105))) (Kd.R_lt (Q2 HO129))) (below_size (Q0 HB))); replace HO105 := am (Kd.R_elder' (Q2 HO105) (Kd.R_base ho0) hb); replace HO129 := am (Kd.R_elder' (Q2 HO129) (Kd.R_base ho0) hb); replace BK110 := am (blk_below (g := gb110) (o := .cells #[.int .i64 t102, .slice Ao22 t103.length co22] 30 (0, 0)) (Q1 BK110) hb); replace BK131 := am (blk_below (g := gb131) (o := .cells #[.int .i64 t126, .slice Ao37 t127.length co37] 30 (0, 0)) (Q1 BK131) hb); replace HB := am (below_step (Q0 HB) hb); (try clear hb); (try clear hb2); (try clear hk); (try clear hi); (try clear ho0); have hcz43_0 : w42.cell? ⟨gb110, 0, none⟩ = some (.int .i64 t102) := (blk_cell BK110.out 0).trans rfl; have hcz43_1 : w42.cell? ⟨gb110, 1, none⟩ = some (.slice Ao22 t103.length co22) := (blk_cell BK110.out 1).trans rfl; have hfz43_0 := blk_frozen BK110.out 0; have hfz43_1 := blk_frozen BK110.out 1) | ((with_reducible refine gate_callee (f := 58) rfl ?_); refine goesL_ (some 95) rfl rfl Try.func58 (by kernel_rfl) rfl #[.agg #[.int .i64 t102, .slice Ao22 t103.length co22]] rfl Q3 ?_; (with_reducible refine (spec_StrippingOf.calls k t102 _ _ t103 t144 t147 _ ?side1 ?side2 A15.out).mono ?_); (case side1 => exact (Q14 HO105)); (case side2 => exact (Kd.R_reads' HO105.out).2.1); rintro e w44 ⟨v145, rfl, ho0, hb⟩; refine ⟨_, rfl, ?_⟩; replace HO108 := am (Kd.R_below (Q2 HO108) hb); replace HO117 := am (Kd.R_below (Q2 HO117) hb); replace HO121 := am (Kd.R_below (Q2 HO121) hb); replace HO125 := am (Kd.R_below (Q2 HO125) hb); replace HO134 := am (Kd.R_below (Q2 HO134) hb); replace HO138 := am (Kd.R_below (Q2 HO138) hb); have HO146 := am (Kd.R_lower (Kd.R_new' (Kd.R_new' (Kd.R_new' ho0 (Kd.R_lt (Q2 HO105))) (Kd.R_lt (Q2 HO129))) (Kd.R_lt (Q2 HO142))) (below_size (Q0 HB))); replace HO105 := am (Kd.R_elder' (Q2 HO105) (Kd.R_base ho0) hb); replace HO129 := am (Kd.R_elder' (Q2 HO129) (Kd.R_base ho0) hb); replace HO142 := am (Kd.R_elder' (Q2 HO142) (Kd.R_base ho0) hb); replace BK110 := am (blk_below (g := gb110) (o := .cells #[.int .i64 t102, .slice Ao22 t103.length co22] 30 (0, 0)) (Q1 BK110) hb); replace BK131 := am (blk_below (g := gb131) (o := .cells #[.int .i64 t126, .slice Ao37 t127.length co37] 30 (0, 0)) (Q1 BK131) hb); replace HB := am (below_step (Q0 HB) hb); (try clear hb); (try clear hb2); (try clear hk); (try clear hi); (try clear ho0); have hcz45_0 : w44.cell? ⟨gb110, 0, none⟩ = some (.int .i64 t102) := (blk_cell BK110.out 0).trans rfl; have hcz45_1 : w44.cell? ⟨gb110, 1, none⟩ = some (.slice Ao22 t103.length co22) := (blk_cell BK110.out 1).trans rfl; have hfz45_0 := blk_frozen BK110.out 0; have hfz45_1 := blk_frozen BK110.out 1) | ((with_reducible refine gate_callee (f := 59) rfl ?_); refine goesL_ (some 100) rfl rfl Try.func59 (by kernel_rfl) rfl #[.agg #[.int .i64 t102, .slice Ao22 t103.length co22]] rfl Q3 ?_; (with_reducible refine (impl_CoreOf.calls k t102 _ _ t103 t148 t151 _ ?side1 ?side2 A16.out).mono ?_); (case side1 => exact (Q14 HO105)); (case side2 => exact (Kd.R_reads' HO105.out).2.1); rintro e w46 ⟨v149, rfl, ho0, hb⟩; refine ⟨_, rfl, ?_⟩; replace HO105 := am (Kd.R_below (Q2 HO105) hb); replace HO125 := am (Kd.R_below (Q2 HO125) hb); replace HO129 := am (Kd.R_below (Q2 HO129) hb); replace HO142 := am (Kd.R_below (Q2 HO142) hb); replace HO146 := am (Kd.R_below (Q2 HO146) hb); have HO150 := am (Kd.R_lower (Kd.R_new' (Kd.R_new' (Kd.R_new' (Kd.R_new' (Kd.R_new' ho0 (Kd.R_lt (Q2 HO108))) (Kd.R_lt (Q2 HO117))) (Kd.R_lt (Q2 HO121))) (Kd.R_lt (Q2 HO134))) (Kd.R_lt (Q2 HO138))) (below_size (Q0 HB))); replace HO108 := am (Kd.R_elder' (Q2 HO108) (Kd.R_base ho0) hb); replace HO117 := am (Kd.R_elder' (Q2 HO117) (Kd.R_base ho0) hb); replace HO121 := am (Kd.R_elder' (Q2 HO121) (Kd.R_base ho0) hb); replace HO134 := am (Kd.R_elder' (Q2 HO134) (Kd.R_base ho0) hb); replace HO138 := am (Kd.R_elder' (Q2 HO138) (Kd.R_base ho0) hb); replace BK110 := am (blk_below (g := gb110) (o := .cells #[.int .i64 t102, .slice Ao22 t103.length co22] 30 (0, 0)) (Q1 BK110) hb); replace BK131 := am (blk_below (g := gb131) (o := .cells #[.int .i64 t126, .slice Ao37 t127.length co37] 30 (0, 0)) (Q1 BK131) hb); replace HB := am (below_step (Q0 HB) hb); (try clear hb); (try clear hb2); (try clear hk); (try clear hi); (try clear ho0); have hcz47_0 : w46.cell? ⟨gb110, 0, none⟩ = some (.int .i64 t102) := (blk_cell BK110.out 0).trans rfl; have hcz47_1 : w46.cell? ⟨gb110, 1, none⟩ = some (.slice Ao22 t103.length co22) := (blk_cell BK110.out 1).trans rfl; have hfz47_0 := blk_frozen BK110.out 0; have hfz47_1 := blk_frozen BK110.out 1) | ((with_reducible refine gate_callee (f := 60) rfl ?_); refine goesL_ (some 105) rfl rfl Try.func60 (by kernel_rfl) rfl #[.agg #[.int .i64 t102, .slice Ao22 t103.length co22]] rfl Q3 ?_; (with_reducible refine (spec_CoreOf.calls k t102 _ _ t103 t152 t155 _ ?side1 ?side2 A17.out).mono ?_); (case side1 => exact (Q14 HO105)); (case side2 => exact (Kd.R_reads' HO105.out).2.1); rintro e w48 ⟨v153, rfl, ho0, hb⟩; refine ⟨_, rfl, ?_⟩; replace HO105 := am (Kd.R_below (Q2 HO105) hb); replace HO125 := am (Kd.R_below (Q2 HO125) hb); replace HO129 := am (Kd.R_below (Q2 HO129) hb); replace HO142 := am (Kd.R_below (Q2 HO142) hb); replace HO146 := am (Kd.R_below (Q2 HO146) hb); have HO154 := am (Kd.R_lower (Kd.R_new' (Kd.R_new' (Kd.R_new' (Kd.R_new' (Kd.R_new' (Kd.R_new' ho0 (Kd.R_lt (Q2 HO108))) (Kd.R_lt (Q2 HO117))) (Kd.R_lt (Q2 HO121))) (Kd.R_lt (Q2 HO134))) (Kd.R_lt (Q2 HO138))) (Kd.R_lt (Q2 HO150))) (below_size (Q0 HB))); replace HO108 := am (Kd.R_elder' (Q2 HO108) (Kd.R_base ho0) hb); replace HO117 := am (Kd.R_elder' (Q2 HO117) (Kd.R_base ho0) hb); replace HO121 := am (Kd.R_elder' (Q2 HO121) (Kd.R_base ho0) hb); replace HO134 := am (Kd.R_elder' (Q2 HO134) (Kd.R_base ho0) hb); replace HO138 := am (Kd.R_elder' (Q2 HO138) (Kd.R_base ho0) hb); replace HO150 := am (Kd.R_elder' (Q2 HO150) (Kd.R_base ho0) hb); replace BK110 := am (blk_below (g := gb110) (o := .cells #[.int .i64 t102, .slice Ao22 t103.length co22] 30 (0, 0)) (Q1 BK110) hb); replace BK131 := am (blk_below (g := gb131) (o := .cells #[.int .i64 t126, .slice Ao37 t127.length co37] 30 (0, 0)) (Q1 BK131) hb); replace HB := am (below_step (Q0 HB) hb); (try clear hb); (try clear hb2); (try clear hk); (try clear hi); (try clear ho0)))
  (try simp only [Act.put, List.setIfInBounds_toArray, List.set_cons_zero, List.set_cons_succ]); have H := HU18.out; clear HU18; have HC49 := Aside0.mk H; clear H
  go_upto_region 15 with (fail)
  go_cut [159] (fun v159 wc => ∃ (kq : Nat) (x159_48 : Bool), v159 = .bool x159_48 ∧ Aside0 (laws_FnCorners.j0 kq t109 t111 t112 t115 t118 t140 t143 t148 x159_48 t102 t103 = some r) ∧ Aside0 (kq ≤ k) ∧ Aside0 (Kd.R (Kd.int .i64) 3 wc w.heap.size (fun k_ => some k_ ≠ (v149 : Value).ownBlock) v116 t115) ∧ Aside0 (Kd.R k71 71 wc w.heap.size (fun k_ => some k_ ≠ ((.slice Ao22 t103.length co22) : Value).ownBlock ∧ some k_ ≠ ((.slice Ao37 t127.length co37) : Value).ownBlock) v141 t140) ∧ Aside0 (Kd.R (Kd.int .i64) 3 wc w.heap.size (fun k_ => some k_ ≠ (v116 : Value).ownBlock) v149 t148) ∧ Aside0 (Kd.R k71 71 wc w.heap.size (fun k_ => some k_ ≠ (v141 : Value).ownBlock ∧ some k_ ≠ ((.slice Ao37 t127.length co37) : Value).ownBlock) (.slice Ao22 t103.length co22) t103) ∧ Aside0 (Kd.R k71 71 wc w.heap.size (fun k_ => some k_ ≠ (v141 : Value).ownBlock ∧ some k_ ≠ ((.slice Ao22 t103.length co22) : Value).ownBlock) (.slice Ao37 t127.length co37) t127) ∧ Aside0 (wc.heap[gb110]? = some (.cells #[.int .i64 t102, (.slice Ao22 t103.length co22)] 30 (0, 0))) ∧ Aside0 (wc.heap[gb131]? = some (.cells #[.int .i64 t126, (.slice Ao37 t127.length co37)] 30 (0, 0))) ∧ Aside0 (Below w.heap.size w wc))
  case first => as_aux_lemma =>
   have H := HC49.out; clear HC49
   by_cases c50 : (t111 != t113) = true
   ·rw [if_pos c50] at H
    have c50b0 : (t111 != t113) = true := c50; (try (have c50b1 : decide (t111 = t113) = false := by simpa using c50)); (try (have c50b2 : (t111 == t113) = false := by simpa using c50)); (try (have c50b3 : ¬ (t111 = t113) := by simpa using c50)); (try (have c50b4 : (!(t111 == t113)) = true := by simpa using c50)); clear c50
    (first | rw [c50b0] | (simp only [i64_w, i32_w]; rw [c50b0]) | rw [c50b4] | skip)
    first | exact (laws_FnCorners.j0_true H).elim | exact (laws_FnCorners.j1_true H).elim | exact (laws_FnCorners.j3_true H).elim
   ·rw [if_neg c50] at H
    have c50b0 : (t111 != t113) = false := by simpa using c50
    (try (have c50b1 : decide (t111 = t113) = true := by simpa using c50)); (try (have c50b2 : (t111 == t113) = true := by simpa using c50)); (try (have c50b3 : (!(t111 == t113)) = false := by simpa using c50)); clear c50
    (first | rw [c50b0] | (simp only [i64_w, i32_w]; rw [c50b0]) | rw [c50b3] | skip)
    by_cases c51 : (t112 != t114) = true
    ·rw [if_pos c51] at H
     have c51b0 : (t112 != t114) = true := c51; (try (have c51b1 : decide (t112 = t114) = false := by simpa using c51)); (try (have c51b2 : (t112 == t114) = false := by simpa using c51)); (try (have c51b3 : ¬ (t112 = t114) := by simpa using c51)); (try (have c51b4 : (!(t112 == t114)) = true := by simpa using c51)); clear c51
     first | exact (laws_FnCorners.j0_true H).elim | exact (laws_FnCorners.j1_true H).elim | exact (laws_FnCorners.j3_true H).elim
    ·rw [if_neg c51] at H
     have c51b0 : (t112 != t114) = false := by simpa using c51
     (try (have c51b1 : decide (t112 = t114) = true := by simpa using c51)); (try (have c51b2 : (t112 == t114) = true := by simpa using c51)); (try (have c51b3 : (!(t112 == t114)) = false := by simpa using c51)); clear c51
     by_cases c52 : (t118 != t122) = true
     ·rw [if_pos c52] at H
      have c52b0 : (t118 != t122) = true := c52; (try (have c52b1 : decide (t118 = t122) = false := by simpa using c52)); (try (have c52b2 : (t118 == t122) = false := by simpa using c52)); (try (have c52b3 : ¬ (t118 = t122) := by simpa using c52)); (try (have c52b4 : (!(t118 == t122)) = true := by simpa using c52)); clear c52
      first | exact (laws_FnCorners.j0_true H).elim | exact (laws_FnCorners.j1_true H).elim | exact (laws_FnCorners.j3_true H).elim
     ·rw [if_neg c52] at H
      have c52b0 : (t118 != t122) = false := by simpa using c52
      (try (have c52b1 : decide (t118 = t122) = true := by simpa using c52)); (try (have c52b2 : (t118 == t122) = true := by simpa using c52)); (try (have c52b3 : (!(t118 == t122)) = false := by simpa using c52)); clear c52; replace H := (ob H); obtain ⟨t156, A530, H⟩ := H; (try dsimp only at H); have A53 := Aside0.mk A530; clear A530
      by_cases c54 : t156 = true
      ·subst c54
       have H1 : (if (t135 != t139) = true then (laws_FnCorners.j0 k t109 t111 t112 t115 t118 t140 t143 t148 true t102 t103) else ((laws_vInts.f k t132 t136).bind fun t157 => (if t157 = true then (if (t143 != t147) = true then (laws_FnCorners.j0 k t109 t111 t112 t115 t118 t140 t143 t148 true t102 t103) else ((laws_vPairs.f k t140 t144).bind fun t158 => (if t158 = true then (if (t151 != t155) = true then (laws_FnCorners.j0 k t109 t111 t112 t115 t118 t140 t143 t148 true t102 t103) else ((laws_vInts.f k t148 t152).bind fun t159 => (laws_FnCorners.j0 k t109 t111 t112 t115 t118 t140 t143 t148 (!t159) t102 t103))) else (laws_FnCorners.j0 k t109 t111 t112 t115 t118 t140 t143 t148 true t102 t103)))) else (laws_FnCorners.j0 k t109 t111 t112 t115 t118 t140 t143 t148 true t102 t103)))) = some r := by rw [if_pos rfl] at H; exact H
       clear H; have H := H1; clear H1
       by_cases c55 : (t135 != t139) = true
       ·rw [if_pos c55] at H
        have c55b0 : (t135 != t139) = true := c55; (try (have c55b1 : decide (t135 = t139) = false := by simpa using c55)); (try (have c55b2 : (t135 == t139) = false := by simpa using c55)); (try (have c55b3 : ¬ (t135 = t139) := by simpa using c55)); (try (have c55b4 : (!(t135 == t139)) = true := by simpa using c55)); clear c55
        first | exact (laws_FnCorners.j0_true H).elim | exact (laws_FnCorners.j1_true H).elim | exact (laws_FnCorners.j3_true H).elim
       ·rw [if_neg c55] at H
        have c55b0 : (t135 != t139) = false := by simpa using c55
        (try (have c55b1 : decide (t135 = t139) = true := by simpa using c55)); (try (have c55b2 : (t135 == t139) = true := by simpa using c55)); (try (have c55b3 : (!(t135 == t139)) = false := by simpa using c55)); clear c55; replace H := (ob H); obtain ⟨t157, A580, H⟩ := H; (try dsimp only at H); have A58 := Aside0.mk A580; clear A580
        by_cases c59 : t157 = true
        ·subst c59
         have H1 : (if (t143 != t147) = true then (laws_FnCorners.j0 k t109 t111 t112 t115 t118 t140 t143 t148 true t102 t103) else ((laws_vPairs.f k t140 t144).bind fun t158 => (if t158 = true then (if (t151 != t155) = true then (laws_FnCorners.j0 k t109 t111 t112 t115 t118 t140 t143 t148 true t102 t103) else ((laws_vInts.f k t148 t152).bind fun t159 => (laws_FnCorners.j0 k t109 t111 t112 t115 t118 t140 t143 t148 (!t159) t102 t103))) else (laws_FnCorners.j0 k t109 t111 t112 t115 t118 t140 t143 t148 true t102 t103)))) = some r := by rw [if_pos rfl] at H; exact H
         clear H; have H := H1; clear H1
         by_cases c60 : (t143 != t147) = true
         ·rw [if_pos c60] at H
          have c60b0 : (t143 != t147) = true := c60; (try (have c60b1 : decide (t143 = t147) = false := by simpa using c60)); (try (have c60b2 : (t143 == t147) = false := by simpa using c60)); (try (have c60b3 : ¬ (t143 = t147) := by simpa using c60)); (try (have c60b4 : (!(t143 == t147)) = true := by simpa using c60)); clear c60
          first | exact (laws_FnCorners.j0_true H).elim | exact (laws_FnCorners.j1_true H).elim | exact (laws_FnCorners.j3_true H).elim
         ·rw [if_neg c60] at H
          have c60b0 : (t143 != t147) = false := by simpa using c60
          (try (have c60b1 : decide (t143 = t147) = true := by simpa using c60)); (try (have c60b2 : (t143 == t147) = true := by simpa using c60)); (try (have c60b3 : (!(t143 == t147)) = false := by simpa using c60)); clear c60; replace H := (ob H); obtain ⟨t158, A650, H⟩ := H; (try dsimp only at H); have A65 := Aside0.mk A650; clear A650
          by_cases c66 : t158 = true
          ·subst c66
           have H1 : (if (t151 != t155) = true then (laws_FnCorners.j0 k t109 t111 t112 t115 t118 t140 t143 t148 true t102 t103) else ((laws_vInts.f k t148 t152).bind fun t159 => (laws_FnCorners.j0 k t109 t111 t112 t115 t118 t140 t143 t148 (!t159) t102 t103))) = some r := by rw [if_pos rfl] at H; exact H
           clear H; have H := H1; clear H1
           by_cases c67 : (t151 != t155) = true
           ·rw [if_pos c67] at H
            have c67b0 : (t151 != t155) = true := c67; (try (have c67b1 : decide (t151 = t155) = false := by simpa using c67)); (try (have c67b2 : (t151 == t155) = false := by simpa using c67)); (try (have c67b3 : ¬ (t151 = t155) := by simpa using c67)); (try (have c67b4 : (!(t151 == t155)) = true := by simpa using c67)); clear c67
            first | exact (laws_FnCorners.j0_true H).elim | exact (laws_FnCorners.j1_true H).elim | exact (laws_FnCorners.j3_true H).elim
           ·rw [if_neg c67] at H
            have c67b0 : (t151 != t155) = false := by simpa using c67
            (try (have c67b1 : decide (t151 = t155) = true := by simpa using c67)); (try (have c67b2 : (t151 == t155) = true := by simpa using c67)); (try (have c67b3 : (!(t151 == t155)) = false := by simpa using c67)); clear c67; replace H := (ob H); obtain ⟨t159, A740, H⟩ := H; (try dsimp only at H); have A74 := Aside0.mk A740; clear A740; have H' := Aside0.mk H; clear H; obtain ⟨Ao75, co75, eo75⟩ := Kd.R_slice HO117.out; subst eo75; obtain ⟨Ao76, co76, eo76⟩ := Kd.R_slice HO121.out; subst eo76
            go_wp2_with (first | (go_at_call 61; (with_reducible refine (laws_vInts.calls k _ _ t115 _ _ t119 true _ ?side1 ?side2 ?side3 ?side4 A53.out).mono ?_); (case side1 => exact (Q14 HO117)); (case side2 => exact (Kd.R_reads' HO117.out).2.1); (case side3 => exact (Q14 HO121)); (case side4 => exact (Kd.R_reads' HO121.out).2.1); rintro e w' ⟨rfl, ⟨nd, rfl⟩⟩; obtain ⟨Ao77, co77, eo77⟩ := Kd.R_slice HO134.out; subst eo77; obtain ⟨Ao78, co78, eo78⟩ := Kd.R_slice HO138.out; subst eo78) | (go_at_call 61; (with_reducible refine (laws_vInts.calls k _ _ t132 _ _ t136 true _ ?side1 ?side2 ?side3 ?side4 A58.out).mono ?_); (case side1 => exact (Q14 HO134)); (case side2 => exact (Kd.R_reads' HO134.out).2.1); (case side3 => exact (Q14 HO138)); (case side4 => exact (Kd.R_reads' HO138.out).2.1); rintro e w' ⟨rfl, ⟨nd, rfl⟩⟩; obtain ⟨Ao79, co79, eo79⟩ := Kd.R_slice HO142.out; subst eo79; obtain ⟨Ao80, co80, eo80⟩ := Kd.R_slice HO146.out; subst eo80) | (go_at_call 62; (with_reducible refine (laws_vPairs.calls k _ _ t140 _ _ t144 true _ ?side1 ?side2 ?side3 ?side4 A65.out).mono ?_); (case side1 => exact (Q14 HO142)); (case side2 => exact (Kd.R_reads' HO142.out).2.1); (case side3 => exact (Q14 HO146)); (case side4 => exact (Kd.R_reads' HO146.out).2.1); rintro e w' ⟨rfl, ⟨nd, rfl⟩⟩; obtain ⟨Ao81, co81, eo81⟩ := Kd.R_slice HO150.out; subst eo81; obtain ⟨Ao82, co82, eo82⟩ := Kd.R_slice HO154.out; subst eo82) | (go_at_call 61; (with_reducible refine (laws_vInts.calls k _ _ t148 _ _ t152 t159 _ ?side1 ?side2 ?side3 ?side4 A74.out).mono ?_); (case side1 => exact (Q14 HO150)); (case side2 => exact (Kd.R_reads' HO150.out).2.1); (case side3 => exact (Q14 HO154)); (case side4 => exact (Kd.R_reads' HO154.out).2.1); rintro e w' ⟨rfl, ⟨nd, rfl⟩⟩))
            go_meet
            case rel => exact ⟨_, (!t159), Q13, H', ⟨Q58⟩, ⟨by (with_reducible repeat (first | apply Kd.R_alloc | apply Kd.R_drewN | apply Kd.R_drew)); exact Kd.R_mono HO117.out (fun _ hk => hk.1.2)⟩, ⟨by (with_reducible repeat (first | apply Kd.R_alloc | apply Kd.R_drewN | apply Kd.R_drew)); exact Kd.R_mono HO142.out (fun _ hk => ⟨hk.1.1.2, hk.1.2⟩)⟩, ⟨by (with_reducible repeat (first | apply Kd.R_alloc | apply Kd.R_drewN | apply Kd.R_drew)); exact Kd.R_mono HO150.out (fun _ hk => hk.1.1.1.1.2)⟩, ⟨by (with_reducible repeat (first | apply Kd.R_alloc | apply Kd.R_drewN | apply Kd.R_drew)); exact Kd.R_mono HO105.out (fun _ hk => ⟨hk.1.2, hk.1.1.2⟩)⟩, ⟨by (with_reducible repeat (first | apply Kd.R_alloc | apply Kd.R_drewN | apply Kd.R_drew)); exact Kd.R_mono HO129.out (fun _ hk => ⟨hk.1.2, hk.1.1.2⟩)⟩, ⟨Q1 BK110⟩, ⟨Q1 BK131⟩, ⟨Q0 HB⟩⟩
          ·replace c66 := Bool.eq_false_iff.mpr c66
           subst c66; have H1 : (laws_FnCorners.j0 k t109 t111 t112 t115 t118 t140 t143 t148 true t102 t103) = some r := by rw [if_neg (show ¬ (false = true) by decide)] at H; exact H
           clear H; have H := H1; clear H1
           first | exact (laws_FnCorners.j0_true H).elim | exact (laws_FnCorners.j1_true H).elim | exact (laws_FnCorners.j3_true H).elim
        ·replace c59 := Bool.eq_false_iff.mpr c59
         subst c59; have H1 : (laws_FnCorners.j0 k t109 t111 t112 t115 t118 t140 t143 t148 true t102 t103) = some r := by rw [if_neg (show ¬ (false = true) by decide)] at H; exact H
         clear H; have H := H1; clear H1
         first | exact (laws_FnCorners.j0_true H).elim | exact (laws_FnCorners.j1_true H).elim | exact (laws_FnCorners.j3_true H).elim
      ·replace c54 := Bool.eq_false_iff.mpr c54
       subst c54; have H1 : (laws_FnCorners.j0 k t109 t111 t112 t115 t118 t140 t143 t148 true t102 t103) = some r := by rw [if_neg (show ¬ (false = true) by decide)] at H; exact H
       clear H; have H := H1; clear H1
       first | exact (laws_FnCorners.j0_true H).elim | exact (laws_FnCorners.j1_true H).elim | exact (laws_FnCorners.j3_true H).elim
  case rest => as_aux_lemma =>
   clear HC49
   try clear p2
   try clear c3
   try clear c4
   try clear c5
   try clear c6
   try clear c35
   try clear c47
   try clear c48
   try clear c49
   try clear c50
   try clear c50b0
   try clear c50b1
   try clear c50b2
   try clear c51
   try clear c51b0
   try clear c51b1
   try clear c51b2
   try clear c52
   try clear c52b0
   try clear c52b1
   try clear c52b2
   try clear c53
   try clear c54
   try clear c55
   try clear c55b0
   try clear c55b1
   try clear c55b2
   try clear c56
   try clear c57
   try clear c58
   try clear c59
   try clear c60
   try clear c60b0
   try clear c60b1
   try clear c60b2
   try clear c66
   try clear c67
   try clear c67b0
   try clear c67b1
   try clear c67b2
   try clear hcz21_0
   try clear hcz21_1
   try clear hcz25_0
   try clear hcz25_1
   try clear hcz27_0
   try clear hcz27_1
   try clear hcz29_0
   try clear hcz29_1
   try clear hcz36_0
   try clear hcz36_1
   try clear hcz39_0
   try clear hcz39_1
   try clear hcz41_0
   try clear hcz41_1
   try clear hcz43_0
   try clear hcz43_1
   try clear hcz45_0
   try clear hcz45_1
   try clear hcz47_0
   try clear hcz47_1
   try clear hfz21_0
   try clear hfz21_1
   try clear hfz25_0
   try clear hfz25_1
   try clear hfz27_0
   try clear hfz27_1
   try clear hfz29_0
   try clear hfz29_1
   try clear hfz36_0
   try clear hfz36_1
   try clear hfz39_0
   try clear hfz39_1
   try clear hfz41_0
   try clear hfz41_1
   try clear hfz43_0
   try clear hfz43_1
   try clear hfz45_0
   try clear hfz45_1
   try clear hfz47_0
   try clear hfz47_1
   obtain ⟨kq, x159_48, rfl, HA, HJ48, HO_10, HO_20, HO_24, HO_111001, HO_132001, BK110, BK131, HB⟩ := hcut
   cases kq with
   | zero => exact absurd HA.out (by simp [laws_FnCorners.j0])
   | succ kj48 =>
    have H := HA.out; clear HA
    simp only [laws_FnCorners.j0] at H
    by_cases c95 : x159_48 = true
    ·subst c95
     have H1 : (none) = some r := by rw [if_pos rfl] at H; exact H
     clear H; have H := H1; clear H1; exact absurd H (by simp)
    ·replace c95 := Bool.eq_false_iff.mpr c95
     subst c95; have H1 : (if t112 = true then (if t118 = true then ((laws_vHas.f kj48 t115 t109).bind fun t160 => (laws_FnCorners.j1 kj48 t140 t143 t148 (t111 != t160) t102 t103)) else (laws_FnCorners.j1 kj48 t140 t143 t148 true t102 t103)) else (laws_FnCorners.j1 kj48 t140 t143 t148 false t102 t103)) = some r := by rw [if_neg (show ¬ (false = true) by decide)] at H; exact H
     clear H; have H := H1; clear H1; have HC96 := Aside0.mk H; clear H
     go_upto_region 17 with (fail)
     go_cut [171] (fun v171 wc => ∃ (kq : Nat) (x171_95 : Bool), v171 = .bool x171_95 ∧ Aside0 (laws_FnCorners.j1 kq t140 t143 t148 x171_95 t102 t103 = some r) ∧ Aside0 (kq ≤ kj48) ∧ Aside0 (Kd.R k71 71 wc w.heap.size (fun k_ => some k_ ≠ ((.slice Ao22 t103.length co22) : Value).ownBlock ∧ some k_ ≠ ((.slice Ao37 t127.length co37) : Value).ownBlock) v141 t140) ∧ Aside0 (Kd.R (Kd.int .i64) 3 wc w.heap.size (fun _ => True) v149 t148) ∧ Aside0 (Kd.R k71 71 wc w.heap.size (fun k_ => some k_ ≠ (v141 : Value).ownBlock ∧ some k_ ≠ ((.slice Ao37 t127.length co37) : Value).ownBlock) (.slice Ao22 t103.length co22) t103) ∧ Aside0 (Kd.R k71 71 wc w.heap.size (fun k_ => some k_ ≠ (v141 : Value).ownBlock ∧ some k_ ≠ ((.slice Ao22 t103.length co22) : Value).ownBlock) (.slice Ao37 t127.length co37) t127) ∧ Aside0 (wc.heap[gb110]? = some (.cells #[.int .i64 t102, (.slice Ao22 t103.length co22)] 30 (0, 0))) ∧ Aside0 (wc.heap[gb131]? = some (.cells #[.int .i64 t126, (.slice Ao37 t127.length co37)] 30 (0, 0))) ∧ Aside0 (Below w.heap.size w wc))
     case first => as_aux_lemma =>
      have H := HC96.out; clear HC96
      by_cases c97 : t112 = true
      ·subst c97
       have H1 : (if t118 = true then ((laws_vHas.f kj48 t115 t109).bind fun t160 => (laws_FnCorners.j1 kj48 t140 t143 t148 (t111 != t160) t102 t103)) else (laws_FnCorners.j1 kj48 t140 t143 t148 true t102 t103)) = some r := by rw [if_pos rfl] at H; exact H
       clear H; have H := H1; clear H1
       by_cases c98 : t118 = true
       ·subst c98
        have H1 : ((laws_vHas.f kj48 t115 t109).bind fun t160 => (laws_FnCorners.j1 kj48 t140 t143 t148 (t111 != t160) t102 t103)) = some r := by rw [if_pos rfl] at H; exact H
        clear H; have H := H1; clear H1; replace H := (ob H); obtain ⟨t160, A990, H⟩ := H; (try dsimp only at H); have A99 := Aside0.mk A990; clear A990; have H' := Aside0.mk H; clear H; obtain ⟨Ao100, co100, eo100⟩ := Kd.R_slice HO_10.out; subst eo100
        go_wp2_with (first | (go_at_call 63; (with_reducible refine (laws_vHas.calls kj48 _ _ t115 t109 t160 _ ?side1 ?side2 A99.out).mono ?_); (case side1 => exact (by repeat (first | exact (Kd.R_reads' HO_10.out).2.2 | (with_reducible refine Kd.C_alloc ?_ _) | (with_reducible refine Kd.C_drewN ?_ _) | (with_reducible refine Kd.C_drew ?_)))); (case side2 => exact (Kd.R_reads' HO_10.out).2.1); rintro e w' ⟨rfl, ⟨nd, rfl⟩⟩))
        go_meet
        case rel => exact ⟨_, ((t111 != t160)), Q13, H', ⟨by have := HJ48.out; first | omega | exact Nat.le_refl _⟩, ⟨Q34⟩, ⟨by (with_reducible repeat (first | apply Kd.R_alloc | apply Kd.R_drewN | apply Kd.R_drew)); exact Kd.R_mono HO_24.out (fun _ hk => trivial)⟩, ⟨Q32⟩, ⟨Q33⟩, ⟨Q1 BK110⟩, ⟨Q1 BK131⟩, ⟨Q0 HB⟩⟩
       ·replace c98 := Bool.eq_false_iff.mpr c98
        subst c98; have H1 : (laws_FnCorners.j1 kj48 t140 t143 t148 true t102 t103) = some r := by rw [if_neg (show ¬ (false = true) by decide)] at H; exact H
        clear H; have H := H1; clear H1
        first | exact (laws_FnCorners.j0_true H).elim | exact (laws_FnCorners.j1_true H).elim | exact (laws_FnCorners.j3_true H).elim
      ·replace c97 := Bool.eq_false_iff.mpr c97
       subst c97; have H1 : (laws_FnCorners.j1 kj48 t140 t143 t148 false t102 t103) = some r := by rw [if_neg (show ¬ (false = true) by decide)] at H; exact H
       clear H; have H := H1; clear H1; have H' := Aside0.mk H; clear H
       go_wp2
       go_meet
       case rel => exact ⟨_, (false), Q13, H', ⟨by have := HJ48.out; first | omega | exact Nat.le_refl _⟩, ⟨Q34⟩, ⟨by (with_reducible repeat (first | apply Kd.R_alloc | apply Kd.R_drewN | apply Kd.R_drew)); exact Kd.R_mono HO_24.out (fun _ hk => trivial)⟩, ⟨Q32⟩, ⟨Q33⟩, ⟨Q1 BK110⟩, ⟨Q1 BK131⟩, ⟨Q0 HB⟩⟩
     case rest => as_aux_lemma =>
      clear HC96
      try clear p2
      try clear c3
      try clear c4
      try clear c5
      try clear c6
      try clear c9
      try clear c35
      try clear c47
      try clear c48
      try clear c49
      try clear c50
      try clear c50b0
      try clear c50b1
      try clear c50b2
      try clear c51
      try clear c51b0
      try clear c51b1
      try clear c51b2
      try clear c52
      try clear c52b0
      try clear c52b1
      try clear c52b2
      try clear c53
      try clear c54
      try clear c55
      try clear c55b0
      try clear c55b1
      try clear c55b2
      try clear c56
      try clear c57
      try clear c58
      try clear c59
      try clear c60
      try clear c60b0
      try clear c60b1
      try clear c60b2
      try clear c66
      try clear c67
      try clear c67b0
      try clear c67b1
      try clear c67b2
      try clear c95
      try clear c97
      try clear c98
      try clear hcz21_0
      try clear hcz21_1
      try clear hcz25_0
      try clear hcz25_1
      try clear hcz27_0
      try clear hcz27_1
      try clear hcz29_0
      try clear hcz29_1
      try clear hcz36_0
      try clear hcz36_1
      try clear hcz39_0
      try clear hcz39_1
      try clear hcz41_0
      try clear hcz41_1
      try clear hcz43_0
      try clear hcz43_1
      try clear hcz45_0
      try clear hcz45_1
      try clear hcz47_0
      try clear hcz47_1
      try clear hfz21_0
      try clear hfz21_1
      try clear hfz25_0
      try clear hfz25_1
      try clear hfz27_0
      try clear hfz27_1
      try clear hfz29_0
      try clear hfz29_1
      try clear hfz36_0
      try clear hfz36_1
      try clear hfz39_0
      try clear hfz39_1
      try clear hfz41_0
      try clear hfz41_1
      try clear hfz43_0
      try clear hfz43_1
      try clear hfz45_0
      try clear hfz45_1
      try clear hfz47_0
      try clear hfz47_1
      try clear p2
      obtain ⟨kq, x171_95, rfl, HA, HJ95, HO_20, HO_24, HO_111001, HO_132001, BK110, BK131, HB⟩ := hcut
      cases kq with
      | zero => exact absurd HA.out (by simp [laws_FnCorners.j1])
      | succ kj95 =>
       have H := HA.out; clear HA
       simp only [laws_FnCorners.j1] at H
       by_cases c101 : x171_95 = true
       ·subst c101
        have H1 : (none) = some r := by rw [if_pos rfl] at H; exact H
        clear H; have H := H1; clear H1; exact absurd H (by simp)
       ·replace c101 := Bool.eq_false_iff.mpr c101
        subst c101; have H1 : (if t143 = true then (if 0 ≤ t102 then ((laws_vBits.f kj95 t102 (wrap64 ((shl .i64 1 t102) - 1))).bind fun t161 => (laws_FnCorners.l0 kj95 t140 t148 t161 0 t102 t103)) else (none)) else (some true)) = some r := by rw [if_neg (show ¬ (false = true) by decide)] at H; exact H
        clear H; have H := H1; clear H1
        by_cases c102 : t143 = true
        ·subst c102
         have H1 : (if 0 ≤ t102 then ((laws_vBits.f kj95 t102 (wrap64 ((shl .i64 1 t102) - 1))).bind fun t161 => (laws_FnCorners.l0 kj95 t140 t148 t161 0 t102 t103)) else (none)) = some r := by rw [if_pos rfl] at H; exact H
         clear H; have H := H1; clear H1
         by_cases c103 : 0 ≤ t102
         ·rw [if_pos c103] at H
          have c103b0 := eq_true c103; have c103b1 := decide_eq_true c103; clear c103; obtain ⟨ji104, hji104⟩ : ∃ j_ : Int, (shl .i64 1 t102) = j_ := ⟨_, rfl⟩; replace H : ((laws_vBits.f kj95 t102 (wrap64 ((ji104) - 1))).bind fun t161 => (laws_FnCorners.l0 kj95 t140 t148 t161 0 t102 t103)) = some r := by first | (rw [hji104] at H; exact H) | (simp only [hji104] at H ⊢; exact H)
          have hji104_ : (IntKind.i64.wrap (1 * 2 ^ min t102.toNat 64)) = ji104 := hji104; have hji104z : t102 ≤ 64 → (IntKind.i64.wrap (1 * 2 ^ t102.toNat)) = ji104 := shl_small hji104; have hji104u : (IntKind.i64.wrap (2 ^ min t102.toNat 64)) = ji104 := by have h_ := hji104_; rw [Int.one_mul] at h_; exact h_
          have hji104v : t102 ≤ 64 → (IntKind.i64.wrap (2 ^ t102.toNat)) = ji104 := fun hle_ => by have h_ := hji104z hle_; rw [Int.one_mul] at h_; exact h_
          have hji104y : (wrap64 (1 * 2 ^ min t102.toNat 64)) = ji104 := (i64_w _).symm.trans hji104_; have hji104x : t102 ≤ 64 → (wrap64 (1 * 2 ^ t102.toNat)) = ji104 := fun h_ => (i64_w _).symm.trans (hji104z h_)
          replace H := (ob H); obtain ⟨t161, A1050, H⟩ := H; (try dsimp only at H); have A105 := Aside0.mk A1050; clear A1050; have H' := Aside0.mk H; clear H
          try go_wp2
          replace HO_20 := am (Kd.R_drew HO_20.out); replace HO_24 := am (Kd.R_drew HO_24.out); replace HO_111001 := am (Kd.R_drew HO_111001.out); replace HO_132001 := am (Kd.R_drew HO_132001.out); replace BK110 := am (blk_drew BK110.out); replace BK131 := am (blk_drew BK131.out); replace HB := am (below_drew1 HB.out); refine start_ (n := 8) (S := fun w' => w'.cell? ⟨gb110, 0, none⟩ = some (.int .i64 t102) ∧ w'.cell? ⟨gb110, 1, none⟩ = some (.slice Ao22 t103.length co22)) (ds := []) #[false, false, false, false, false, false, false, false] (by kernel_rfl) rfl rfl ⟨(blk_cell BK110.out 0).trans rfl, (blk_cell BK110.out 1).trans rfl⟩ (fun hHeld => ?_); refine with_tabW laws_FnCorners.tab21 laws_FnCorners.bits21 (fun HT_ HW_ => ?_); generalize wc.drew = w106 at HO_20 HO_24 HO_111001 HO_132001 BK110 BK131 HB hHeld ⊢; refine pq 0 174 rfl rfl HT_ ?_; refine pq 2 176 rfl rfl HT_ ?_; refine tq2 1 175 rfl rfl HT_ HW_ hHeld ?_; refine tq2 3 177 rfl rfl HT_ HW_ hHeld ?_; refine pq 4 178 rfl rfl HT_ ?_; refine pq 5 179 rfl rfl HT_ ?_; refine oq 6 180 rfl rfl HT_ (fun K hK => ?_); refine goes_ Try.func64 (by kernel_rfl) rfl #[.int .i64 t102, .int .i64 (wrap64 ((ji104) - 1))] (by rfl) rfl rfl (by (try simp only [List.map_toArray, List.map_cons, List.map_nil]); first | done | (simp only [hji104]; rfl) | rfl | (simp only [List.length_drop, List.length_take]; rfl)) ?_
          with_reducible refine (laws_vBits.calls kj95 t102 (wrap64 ((ji104) - 1)) t161 _ A105.out).mono ?_
          rintro e w107 ⟨v162, rfl, ho0, hb⟩; refine ⟨_, rfl, ?_⟩; replace HO_20 := am (Kd.R_below Q34 hb); replace HO_111001 := am (Kd.R_below Q32 hb); replace HO_132001 := am (Kd.R_below Q33 hb); have HO163 := am (Kd.R_lower (Kd.R_new' ho0 (Kd.R_lt Q35)) (below_size (Q0 HB))); replace HO_24 := am (Kd.R_elder' Q35 (Kd.R_base ho0) hb); replace BK110 := am (blk_below (g := gb110) (o := .cells #[.int .i64 t102, .slice Ao22 t103.length co22] 30 (0, 0)) (Q1 BK110) hb); replace BK131 := am (blk_below (g := gb131) (o := .cells #[.int .i64 t126, .slice Ao37 t127.length co37] 30 (0, 0)) (Q1 BK131) hb); replace HB := am (below_step (Q0 HB) hb); (try clear hb); (try clear hb2); (try clear hk); (try clear hi); (try clear ho0); refine hK.out _ _ ⟨(blk_cell BK110.out 0).trans rfl, (blk_cell BK110.out 1).trans rfl⟩ (fun hHeld => ?_); clear hK K; refine norm_ (a' := ?_) ?_ ?_
          rotate_left
          ·show Act.put _ (some 180) _ = _
           simp only [Act.put, List.setIfInBounds_toArray, List.set_cons_zero, List.set_cons_succ, i64_w, i32_w]
           rfl
          refine pq 7 28 rfl rfl HT_ ?_; refine done_ (done_of HT_.out (by kernel_rfl)) ?_
          try go_wp2
          go_loopg [28, 29] kj95 (fun kq v28 v29 w' => ∃ (x28_3 : List Int) (x29_3 : Int), v29 = .int .i64 x29_3 ∧ Aside0 (laws_FnCorners.l0 kq t140 t148 x28_3 x29_3 t102 t103 = some r) ∧ Aside0 (kq ≤ kj95) ∧ Aside0 (Kd.R k71 71 w' w.heap.size (fun k_ => some k_ ≠ ((.slice Ao22 t103.length co22) : Value).ownBlock ∧ some k_ ≠ ((.slice Ao37 t127.length co37) : Value).ownBlock) v141 t140) ∧ Aside0 (Kd.R (Kd.int .i64) 3 w' w.heap.size (fun k_ => some k_ ≠ (v28 : Value).ownBlock) v149 t148) ∧ Aside0 (Kd.R (Kd.int .i64) 3 w' w.heap.size (fun k_ => some k_ ≠ (v149 : Value).ownBlock) v28 x28_3) ∧ Aside0 (Kd.R k71 71 w' w.heap.size (fun k_ => some k_ ≠ (v141 : Value).ownBlock ∧ some k_ ≠ ((.slice Ao37 t127.length co37) : Value).ownBlock) (.slice Ao22 t103.length co22) t103) ∧ Aside0 (Kd.R k71 71 w' w.heap.size (fun k_ => some k_ ≠ (v141 : Value).ownBlock ∧ some k_ ≠ ((.slice Ao22 t103.length co22) : Value).ownBlock) (.slice Ao37 t127.length co37) t127) ∧ Aside0 (w'.heap[gb110]? = some (.cells #[.int .i64 t102, (.slice Ao22 t103.length co22)] 30 (0, 0))) ∧ Aside0 (w'.heap[gb131]? = some (.cells #[.int .i64 t126, (.slice Ao37 t127.length co37)] 30 (0, 0))) ∧ Aside0 (Below w.heap.size w w'))
          case atStart => exact ⟨(t161), (0), Q13, H', ⟨Nat.le_refl _⟩, ⟨Q34⟩, ⟨by (with_reducible repeat (first | apply Kd.R_alloc | apply Kd.R_drewN | apply Kd.R_drew)); exact Kd.R_mono HO_24.out (fun _ hk => hk.2)⟩, ⟨Q22 HO163⟩, ⟨Q32⟩, ⟨Q33⟩, ⟨Q1 BK110⟩, ⟨Q1 BK131⟩, ⟨Q0 HB⟩⟩
          case round => as_aux_lemma =>
           clear H'
           try clear c1
           try clear p2
           try clear c3
           try clear c4
           try clear c5
           try clear c6
           try clear p6
           try clear c9
           try clear c10
           try clear c35
           try clear c47
           try clear c48
           try clear c49
           try clear c50
           try clear c50b0
           try clear c50b1
           try clear c50b2
           try clear c51
           try clear c51b0
           try clear c51b1
           try clear c51b2
           try clear c52
           try clear c52b0
           try clear c52b1
           try clear c52b2
           try clear c53
           try clear c54
           try clear c55
           try clear c55b0
           try clear c55b1
           try clear c55b2
           try clear c56
           try clear c57
           try clear c58
           try clear c59
           try clear c60
           try clear c60b0
           try clear c60b1
           try clear c60b2
           try clear c64
           try clear p64
           try clear c66
           try clear c67
           try clear c67b0
           try clear c67b1
           try clear c67b2
           try clear c95
           try clear c97
           try clear c98
           try clear c101
           try clear c102
           try clear c103
           try clear c103b0
           try clear c103b1
           try clear hcz21_0
           try clear hcz21_1
           try clear hcz25_0
           try clear hcz25_1
           try clear hcz27_0
           try clear hcz27_1
           try clear hcz29_0
           try clear hcz29_1
           try clear hcz36_0
           try clear hcz36_1
           try clear hcz39_0
           try clear hcz39_1
           try clear hcz41_0
           try clear hcz41_1
           try clear hcz43_0
           try clear hcz43_1
           try clear hcz45_0
           try clear hcz45_1
           try clear hcz47_0
           try clear hcz47_1
           try clear hfz21_0
           try clear hfz21_1
           try clear hfz25_0
           try clear hfz25_1
           try clear hfz27_0
           try clear hfz27_1
           try clear hfz29_0
           try clear hfz29_1
           try clear hfz36_0
           try clear hfz36_1
           try clear hfz39_0
           try clear hfz39_1
           try clear hfz41_0
           try clear hfz41_1
           try clear hfz43_0
           try clear hfz43_1
           try clear hfz45_0
           try clear hfz45_1
           try clear hfz47_0
           try clear hfz47_1
           try clear p2
           obtain ⟨x28_3, x29_3, rfl, HA, HK3, HO_20, HO_24, HO_28, HO_111001, HO_132001, BK110, BK131, HB⟩ := hrel
           cases gk with
           | zero => exact absurd HA.out (by simp [laws_FnCorners.l0])
           | succ k3 =>
            have H := HA.out; clear HA
            simp only [laws_FnCorners.l0] at H
            by_cases c108 : x29_3 < (t140.length : Int)
            ·rw [if_pos c108] at H
             have c108b0 := decide_eq_true c108; clear c108; replace H := (ob H); obtain ⟨⟨t169, t172⟩, A1090, H⟩ := H; (try dsimp only at H); have A109 := Aside0.mk A1090; clear A1090; have HC110 := Aside0.mk H; clear H; obtain ⟨Ao111, co111, eo111⟩ := Kd.R_slice HO_20.out; subst eo111; have hnb112 := NB110_131.out; have hnc112 := NB131_110.out; have hcz113_0 : wr.cell? ⟨gb110, 0, none⟩ = some (.int .i64 t102) := (blk_cell BK110.out 0).trans rfl; have hcz113_1 : wr.cell? ⟨gb110, 1, none⟩ = some (.slice Ao22 t103.length co22) := (blk_cell BK110.out 1).trans rfl; have hfz113_0 := blk_frozen BK110.out 0; have hfz113_1 := blk_frozen BK110.out 1; obtain ⟨Ao114, co114, eo114⟩ := Kd.R_slice HO_28.out; subst eo114
             go_upto_region 26 with (first | ((with_reducible refine gate_callee (f := 51) rfl ?_); refine goesL_ (some 190) rfl rfl Try.func51 (by kernel_rfl) rfl #[.agg #[.int .i64 t102, .slice Ao22 t103.length co22], .slice Ao114 x28_3.length co114] rfl Q3 ?_; (with_reducible refine (impl_CornersOf.calls k3 t102 _ _ t103 _ _ x28_3 t169 t172 _ ?side1 ?side2 ?side3 ?side4 A109.out).mono ?_); (case side1 => exact Q75); (case side2 => exact (Kd.R_reads' HO_111001.out).2.1); (case side3 => exact Q59); (case side4 => exact (Kd.R_reads' HO_28.out).2.1); rintro e w115 ⟨v170, rfl, ho0, hb⟩; refine ⟨_, rfl, ?_⟩; replace HO_20 := am (Kd.R_below Q34 hb); replace HO_111001 := am (Kd.R_below Q32 hb); replace HO_132001 := am (Kd.R_below Q33 hb); have HO171 := am (Kd.R_lower (Kd.R_new' (Kd.R_new' ho0 (Kd.R_lt Q35)) (Kd.R_lt Q39)) (below_size (Q0 HB))); replace HO_24 := am (Kd.R_elder' Q35 (Kd.R_base ho0) hb); replace HO_28 := am (Kd.R_elder' Q39 (Kd.R_base ho0) hb); replace BK110 := am (blk_below (g := gb110) (o := .cells #[.int .i64 t102, .slice Ao22 t103.length co22] 30 (0, 0)) (Q1 BK110) hb); replace BK131 := am (blk_below (g := gb131) (o := .cells #[.int .i64 t126, .slice Ao37 t127.length co37] 30 (0, 0)) (Q1 BK131) hb); replace HB := am (below_step (Q0 HB) hb); (try clear hb); (try clear hb2); (try clear hk); (try clear hi); (try clear ho0)))
             (try simp only [Act.put, List.setIfInBounds_toArray, List.set_cons_zero, List.set_cons_succ])
             go_cut [231] (fun v231 wc => ∃ (kq : Nat) (x231_109 : Bool), v231 = .bool x231_109 ∧ Aside0 (laws_FnCorners.j3 kq t140 t148 x28_3 x29_3 x231_109 t102 t103 = some r) ∧ Aside0 (kq ≤ k3) ∧ Aside0 (Kd.R k71 71 wc w.heap.size (fun k_ => some k_ ≠ ((.slice Ao22 t103.length co22) : Value).ownBlock ∧ some k_ ≠ ((.slice Ao37 t127.length co37) : Value).ownBlock) (.slice Ao111 t140.length co111) t140) ∧ Aside0 (Kd.R (Kd.int .i64) 3 wc w.heap.size (fun k_ => some k_ ≠ ((.slice Ao114 x28_3.length co114) : Value).ownBlock) v149 t148) ∧ Aside0 (Kd.R (Kd.int .i64) 3 wc w.heap.size (fun k_ => some k_ ≠ (v149 : Value).ownBlock) (.slice Ao114 x28_3.length co114) x28_3) ∧ Aside0 (Kd.R k71 71 wc w.heap.size (fun k_ => some k_ ≠ ((.slice Ao111 t140.length co111) : Value).ownBlock ∧ some k_ ≠ ((.slice Ao37 t127.length co37) : Value).ownBlock) (.slice Ao22 t103.length co22) t103) ∧ Aside0 (Kd.R k71 71 wc w.heap.size (fun k_ => some k_ ≠ ((.slice Ao111 t140.length co111) : Value).ownBlock ∧ some k_ ≠ ((.slice Ao22 t103.length co22) : Value).ownBlock) (.slice Ao37 t127.length co37) t127) ∧ Aside0 (wc.heap[gb110]? = some (.cells #[.int .i64 t102, (.slice Ao22 t103.length co22)] 30 (0, 0))) ∧ Aside0 (wc.heap[gb131]? = some (.cells #[.int .i64 t126, (.slice Ao37 t127.length co37)] 30 (0, 0))) ∧ Aside0 (Below w.heap.size w wc))
             case first => as_aux_lemma =>
              have H := HC110.out; clear HC110
              by_cases c116 : (t169.length : Int) = 0
              ·rw [if_pos c116] at H
               have c116b0 := beq_iff_eq.mpr c116; have c116b1 := bne_eq_false_iff_eq.mpr c116; clear c116
               (first | rw [c116b0] | (simp only [i64_w, i32_w]; rw [c116b0]) | rw [c116b1] | skip)
               first | exact (laws_FnCorners.j0_true H).elim | exact (laws_FnCorners.j1_true H).elim | exact (laws_FnCorners.j3_true H).elim
              ·rw [if_neg c116] at H
               have c116b0 := beq_eq_false_iff_ne.mpr c116; have c116b1 := bne_iff_ne.mpr c116; have c116b2 : ¬ (t169 = []) := fun h_ => c116 (by rw [h_]; rfl)
               (first | rw [c116b0] | (simp only [i64_w, i32_w]; rw [c116b0]) | rw [c116b1] | skip)
               by_cases c119 : 0 < (t169.length : Int)
               ·rw [if_pos c119] at H
                have c119b0 := decide_eq_true c119; have c119b1 : decide (0 < t169.length) = true := decide_eq_true (by omega); clear c119
                by_cases c120 : 0 ≤ x29_3
                ·rw [if_pos c120] at H
                 have c120b0 := decide_eq_true c120; clear c120
                 by_cases c121 : (rd t169 0) = ((rd_T71 t140 x29_3).f0)
                 ·rw [if_pos c121] at H
                  have c121b0 := beq_iff_eq.mpr c121; have c121b1 := bne_eq_false_iff_eq.mpr c121; clear c121; replace H := (ob H); obtain ⟨t176, A1220, H⟩ := H; (try dsimp only at H); have A122 := Aside0.mk A1220; clear A1220
                  by_cases c123 : t176 = true
                  ·subst c123
                   have H1 : ((laws_vNear.f k3 t102 t103 ((rd_T71 t140 x29_3).f0) ((rd_T71 t140 x29_3).f1)).bind fun t179 => (laws_FnCorners.j3 k3 t140 t148 x28_3 x29_3 (!t179) t102 t103)) = some r := by rw [if_pos rfl] at H; exact H
                   clear H; have H := H1; clear H1; replace H := (ob H); obtain ⟨t179, A1240, H⟩ := H; (try dsimp only at H); have A124 := Aside0.mk A1240; clear A1240; have H' := Aside0.mk H; clear H
                   try go_wp2
                   replace HO_20 := am (Kd.R_drew HO_20.out); replace HO_24 := am (Kd.R_drew HO_24.out); replace HO_28 := am (Kd.R_drew HO_28.out); replace HO_111001 := am (Kd.R_drew HO_111001.out); replace HO_132001 := am (Kd.R_drew HO_132001.out); replace HO171 := am (Kd.R_drew HO171.out); replace BK110 := am (blk_drew BK110.out); replace BK131 := am (blk_drew BK131.out); replace HB := am (below_drew1 HB.out); obtain ⟨Ao126, co126, eo126⟩ := Kd.R_slice HO171.out
                   (first | subst eo126 | (injection eo126 with f1_ f2_ f3_; have f4_ := f1_.symm; have f5_ := f3_.symm; clear f1_ f2_ f3_; subst f4_; subst f5_))
                   have p173 : 0 ≤ (0 : Int) := (by omega); have q173 : 0 < (t169.length : Int) := of_decide_eq_true Q10; obtain ⟨ad173, e173, hx173_0⟩ := Kd.at_int (Kd.R_reads' HO171.out).2.2 0 p173 q173
                   cases e173
                   have qi173 : (0 < t169.length) = True := eq_true (by omega); (try rw [show ((0 : Int)).toNat = 0 from rfl] at hx173_0); (try rw [Addr.add_zero'] at hx173_0); replace p173 := eq_true p173; replace q173 := eq_true q173; have p174 : 0 ≤ (x29_3 : Int) := of_decide_eq_true Q10; have q174 : x29_3 < (t140.length : Int) := of_decide_eq_true Q10; obtain ⟨ad174, e174, hx174_0, hx174_1⟩ := at_T71 (Kd.R_reads' HO_20.out).2.2 x29_3 p174 q174
                   cases e174
                   replace p174 := eq_true p174; replace q174 := eq_true q174; have p175 : 0 ≤ (x29_3 : Int) := of_decide_eq_true Q10; have q175 : x29_3 < (t140.length : Int) := of_decide_eq_true Q10; obtain ⟨ad175, e175, hx175_0, hx175_1⟩ := at_T71 (Kd.R_reads' HO_20.out).2.2 x29_3 p175 q175; obtain rfl : ad174 = ad175 := (by injection e175); replace p175 := eq_true p175; replace q175 := eq_true q175; have p177 : 0 ≤ (x29_3 : Int) := of_decide_eq_true Q10; have q177 : x29_3 < (t140.length : Int) := of_decide_eq_true Q10; obtain ⟨ad177, e177, hx177_0, hx177_1⟩ := at_T71 (Kd.R_reads' HO_20.out).2.2 x29_3 p177 q177; obtain rfl : ad174 = ad177 := (by injection e177); replace p177 := eq_true p177; replace q177 := eq_true q177; have p178 : 0 ≤ (x29_3 : Int) := of_decide_eq_true Q10; have q178 : x29_3 < (t140.length : Int) := of_decide_eq_true Q10; obtain ⟨ad178, e178, hx178_0, hx178_1⟩ := at_T71 (Kd.R_reads' HO_20.out).2.2 x29_3 p178 q178; obtain rfl : ad174 = ad178 := (by injection e178); replace p178 := eq_true p178; replace q178 := eq_true q178; refine start_ (n := 39) (S := fun w' => w'.cell? ⟨gb110, 0, none⟩ = some (.int .i64 t102) ∧ w'.cell? ⟨gb110, 1, none⟩ = some (.slice Ao22 t103.length co22) ∧ w'.cell? ad173 = some (.int .i64 (rd t169 0)) ∧ w'.cell? (ad174.add ((x29_3).toNat * 2)) = some (.int .i64 ((rd_T71 t140 x29_3).f0)) ∧ w'.cell? ⟨(ad174.add ((x29_3).toNat * 2)).block, (ad174.add ((x29_3).toNat * 2)).off + 1, none⟩ = some (.int .i64 ((rd_T71 t140 x29_3).f1)) ∧ w'.cell? (ad174.add ((x29_3).toNat * 2)) = some (.int .i64 ((rd_T71 t140 x29_3).f0)) ∧ w'.cell? ⟨(ad174.add ((x29_3).toNat * 2)).block, (ad174.add ((x29_3).toNat * 2)).off + 1, none⟩ = some (.int .i64 ((rd_T71 t140 x29_3).f1)) ∧ w'.cell? (ad174.add ((x29_3).toNat * 2)) = some (.int .i64 ((rd_T71 t140 x29_3).f0)) ∧ w'.cell? ⟨(ad174.add ((x29_3).toNat * 2)).block, (ad174.add ((x29_3).toNat * 2)).off + 1, none⟩ = some (.int .i64 ((rd_T71 t140 x29_3).f1)) ∧ w'.cell? (ad174.add ((x29_3).toNat * 2)) = some (.int .i64 ((rd_T71 t140 x29_3).f0)) ∧ w'.cell? ⟨(ad174.add ((x29_3).toNat * 2)).block, (ad174.add ((x29_3).toNat * 2)).off + 1, none⟩ = some (.int .i64 ((rd_T71 t140 x29_3).f1))) (ds := []) #[false, false, false, false, false, false, false, false, false, false, false, false, false, false, false, false, false, false, false, false, false, false, false, false, false, false, false, false, false, false, false, false, false, false, false, false, false, false, false] (by kernel_rfl) rfl rfl ⟨(blk_cell BK110.out 0).trans rfl, (blk_cell BK110.out 1).trans rfl, hx173_0, hx174_0, hx174_1, hx175_0, hx175_1, hx177_0, hx177_1, hx178_0, hx178_1⟩ (fun hHeld => ?_); refine with_tabW laws_FnCorners.tab26 laws_FnCorners.bits26 (fun HT_ HW_ => ?_); generalize w115.drew = w125 at HO_20 HO_24 HO_28 HO_111001 HO_132001 HO171 BK110 BK131 HB hx173_0 hx174_0 hx174_1 hx175_0 hx175_1 hx177_0 hx177_1 hx178_0 hx178_1 hHeld ⊢; refine pq 0 193 rfl rfl HT_ ?_; refine pq 1 194 rfl rfl HT_ ?_; refine pq 2 195 rfl rfl HT_ ?_; refine pq 3 196 rfl rfl HT_ ?_; refine pq 4 197 rfl rfl HT_ ?_; refine pq 5 198 rfl rfl HT_ ?_; refine pq 7 200 rfl rfl HT_ ?_; refine pq 8 201 rfl rfl HT_ ?_; refine pq 9 202 rfl rfl HT_ ?_; refine pq 10 203 rfl rfl HT_ ?_; refine tq11 6 199 rfl rfl HT_ HW_ hHeld ?_; refine tq11 11 204 rfl rfl HT_ HW_ hHeld ?_; refine pq 12 205 rfl rfl HT_ ?_; refine pq 13 206 rfl rfl HT_ ?_; refine pq 14 207 rfl rfl HT_ ?_; refine pq 15 208 rfl rfl HT_ ?_; refine pq 16 209 rfl rfl HT_ ?_; refine pq 17 210 rfl rfl HT_ ?_; refine pq 18 211 rfl rfl HT_ ?_; refine pq 19 212 rfl rfl HT_ ?_; refine tq11 20 213 rfl rfl HT_ HW_ hHeld ?_; refine oq 21 214 rfl rfl HT_ (fun K hK => ?_); refine goes_ Try.func63 (by kernel_rfl) rfl #[.slice Ao114 x28_3.length co114, .int .i64 ((rd_T71 t140 x29_3).f1)] (by rfl) rfl rfl Q3 ?_
                   with_reducible refine (laws_vHas.calls k3 _ _ x28_3 ((rd_T71 t140 x29_3).f1) true _ ?side1 ?side2 A122.out).mono ?_
                   (case side1 => exact Q59)
                   (case side2 => exact (Kd.R_reads' HO_28.out).2.1)
                   rintro e w' ⟨rfl, ⟨nd, rfl⟩⟩; refine ⟨_, rfl, ?_⟩; refine hK.out _ _ ⟨(blk_cell BK110.out 0).trans rfl, (blk_cell BK110.out 1).trans rfl, hHeld.2.2.1, hHeld.2.2.2.1, hHeld.2.2.2.2.1, hHeld.2.2.2.2.2.1, hHeld.2.2.2.2.2.2.1, hHeld.2.2.2.2.2.2.2.1, hHeld.2.2.2.2.2.2.2.2.1, hHeld.2.2.2.2.2.2.2.2.2.1, hHeld.2.2.2.2.2.2.2.2.2.2⟩ (fun hHeld => ?_); clear hK K; refine norm_ (a' := ?_) ?_ ?_
                   rotate_left
                   ·show Act.put _ (some 214) _ = _
                    simp only [Act.put, List.setIfInBounds_toArray, List.set_cons_zero, List.set_cons_succ, i64_w, i32_w]
                    rfl
                   refine pq 22 215 rfl rfl HT_ ?_; refine pq 23 216 rfl rfl HT_ ?_; refine pq 24 217 rfl rfl HT_ ?_; refine pq 26 219 rfl rfl HT_ ?_; refine pq 27 220 rfl rfl HT_ ?_; refine pq 28 221 rfl rfl HT_ ?_; refine pq 29 222 rfl rfl HT_ ?_; refine pq 31 224 rfl rfl HT_ ?_; refine pq 32 225 rfl rfl HT_ ?_; refine pq 33 226 rfl rfl HT_ ?_; refine pq 34 227 rfl rfl HT_ ?_; refine tq11 25 218 rfl rfl HT_ HW_ hHeld ?_; refine tq11 30 223 rfl rfl HT_ HW_ hHeld ?_; refine tq11 35 228 rfl rfl HT_ HW_ hHeld ?_; refine oq 36 229 rfl rfl HT_ (fun K hK => ?_); refine goes_ Try.func65 (by kernel_rfl) rfl #[.agg #[.int .i64 t102, .slice Ao22 t103.length co22], .int .i64 ((rd_T71 t140 x29_3).f0), .int .i64 ((rd_T71 t140 x29_3).f1)] (by rfl) rfl rfl Q3 ?_
                   with_reducible refine (laws_vNear.calls k3 t102 _ _ t103 ((rd_T71 t140 x29_3).f0) ((rd_T71 t140 x29_3).f1) t179 _ ?side1 ?side2 A124.out).mono ?_
                   (case side1 => exact Q75)
                   (case side2 => exact (Kd.R_reads' HO_111001.out).2.1)
                   rintro e w127 ⟨rfl, hb⟩; have HS2_ := (hb.cell (World.block_lt_of_cell? _ _ (hHeld.2.2.1))).trans (hHeld.2.2.1); have HS3_ := (hb.cell (World.block_lt_of_cell? _ _ (hHeld.2.2.2.1))).trans (hHeld.2.2.2.1); have HS4_ := (hb.cell (World.block_lt_of_cell? _ _ (hHeld.2.2.2.2.1))).trans (hHeld.2.2.2.2.1); have HS5_ := (hb.cell (World.block_lt_of_cell? _ _ (hHeld.2.2.2.2.2.1))).trans (hHeld.2.2.2.2.2.1); have HS6_ := (hb.cell (World.block_lt_of_cell? _ _ (hHeld.2.2.2.2.2.2.1))).trans (hHeld.2.2.2.2.2.2.1); have HS7_ := (hb.cell (World.block_lt_of_cell? _ _ (hHeld.2.2.2.2.2.2.2.1))).trans (hHeld.2.2.2.2.2.2.2.1); have HS8_ := (hb.cell (World.block_lt_of_cell? _ _ (hHeld.2.2.2.2.2.2.2.2.1))).trans (hHeld.2.2.2.2.2.2.2.2.1); have HS9_ := (hb.cell (World.block_lt_of_cell? _ _ (hHeld.2.2.2.2.2.2.2.2.2.1))).trans (hHeld.2.2.2.2.2.2.2.2.2.1); have HS10_ := (hb.cell (World.block_lt_of_cell? _ _ (hHeld.2.2.2.2.2.2.2.2.2.2))).trans (hHeld.2.2.2.2.2.2.2.2.2.2); refine ⟨_, rfl, ?_⟩; replace HO_20 := am (Kd.R_below Q34 hb); replace HO_24 := am (Kd.R_below Q35 hb); replace HO_28 := am (Kd.R_below Q39 hb); replace HO_111001 := am (Kd.R_below Q32 hb); replace HO_132001 := am (Kd.R_below Q33 hb); replace HO171 := am (Kd.R_below (Q2 HO171) hb); replace BK110 := am (blk_below (g := gb110) (o := .cells #[.int .i64 t102, .slice Ao22 t103.length co22] 30 (0, 0)) (Q1 BK110) hb); replace BK131 := am (blk_below (g := gb131) (o := .cells #[.int .i64 t126, .slice Ao37 t127.length co37] 30 (0, 0)) (Q1 BK131) hb); replace HB := am (below_step (Q0 HB) hb); (try clear hb); (try clear hb2); (try clear hk); (try clear hi); refine hK.out _ _ ⟨(blk_cell BK110.out 0).trans rfl, (blk_cell BK110.out 1).trans rfl, HS2_, HS3_, HS4_, HS5_, HS6_, HS7_, HS8_, HS9_, HS10_⟩ (fun hHeld => ?_); clear hK K; refine norm_ (a' := ?_) ?_ ?_
                   rotate_left
                   ·show Act.put _ (some 229) _ = _
                    simp only [Act.put, List.setIfInBounds_toArray, List.set_cons_zero, List.set_cons_succ, i64_w, i32_w]
                    rfl
                   refine pq 37 230 rfl rfl HT_ ?_; refine pq 38 231 rfl rfl HT_ ?_; refine done_ (done_of HT_.out (by kernel_rfl)) ?_
                   try go_wp2
                   go_meet
                   case rel => exact ⟨_, (!t179), Q13, H', ⟨by have := HJ48.out; have := HJ95.out; have := HK3.out; first | omega | exact Nat.le_refl _⟩, ⟨Q34⟩, ⟨by (with_reducible repeat (first | apply Kd.R_alloc | apply Kd.R_drewN | apply Kd.R_drew)); exact Kd.R_mono HO_24.out (fun _ hk => hk.1)⟩, ⟨by (with_reducible repeat (first | apply Kd.R_alloc | apply Kd.R_drewN | apply Kd.R_drew)); exact Kd.R_mono HO_28.out (fun _ hk => hk.1)⟩, ⟨Q32⟩, ⟨Q33⟩, ⟨Q1 BK110⟩, ⟨Q1 BK131⟩, ⟨Q0 HB⟩⟩
                  ·replace c123 := Bool.eq_false_iff.mpr c123
                   subst c123; have H1 : (laws_FnCorners.j3 k3 t140 t148 x28_3 x29_3 true t102 t103) = some r := by rw [if_neg (show ¬ (false = true) by decide)] at H; exact H
                   clear H; have H := H1; clear H1
                   first | exact (laws_FnCorners.j0_true H).elim | exact (laws_FnCorners.j1_true H).elim | exact (laws_FnCorners.j3_true H).elim
                 ·rw [if_neg c121] at H
                  have c121b0 := beq_eq_false_iff_ne.mpr c121; have c121b1 := bne_iff_ne.mpr c121
                  first | exact (laws_FnCorners.j0_true H).elim | exact (laws_FnCorners.j1_true H).elim | exact (laws_FnCorners.j3_true H).elim
                ·rw [if_neg c120] at H
                 exact absurd H (by simp)
               ·rw [if_neg c119] at H
                exact absurd H (by simp)
             case rest => as_aux_lemma =>
              clear HC110
              try clear c1
              try clear p1
              try clear q1
              try clear hx1
              try clear qi1
              try clear p2
              try clear c6
              try clear c11
              try clear c12
              try clear p17
              try clear q17
              try clear hx17
              try clear qi17
              try clear c63
              try clear c119
              try clear c120
              try clear c121
              try clear c121b0
              try clear c121b1
              try clear hx173_0
              try clear hx174_0
              try clear hx174_1
              try clear hx175_0
              try clear hx175_1
              try clear p173
              try clear p174
              try clear p175
              try clear q173
              try clear q174
              try clear q175
              obtain ⟨kq, x231_109, rfl, HA, HJ109, HO_20, HO_24, HO_28, HO_111001, HO_132001, BK110, BK131, HB⟩ := hcut
              cases kq with
              | zero => exact absurd HA.out (by simp [laws_FnCorners.j3])
              | succ kj109 =>
               have H := HA.out; clear HA
               simp only [laws_FnCorners.j3] at H
               by_cases c132 : x231_109 = true
               ·subst c132
                have H1 : (none) = some r := by rw [if_pos rfl] at H; exact H
                clear H; have H := H1; clear H1; exact absurd H (by simp)
               ·replace c132 := Bool.eq_false_iff.mpr c132
                subst c132; have H1 : (laws_FnCorners.l1 kj109 t140 t148 x28_3 x29_3 (([] : List Int)) 0 t102 t103) = some r := by rw [if_neg (show ¬ (false = true) by decide)] at H; exact H
                clear H; have H := H1; clear H1; obtain ⟨y180, hy180⟩ : ∃ y_ : List Int, y_ = (([] : List Int)) := ⟨_, rfl⟩; replace H : (laws_FnCorners.l1 kj109 t140 t148 x28_3 x29_3 y180 0 t102 t103) = some r := RH hy180 H; have Ny180 := Aside0.mk hy180; clear hy180; have H' := Aside0.mk H; clear H
                go_wp2_with (first | ((with_reducible refine gate_dst (N := 232) rfl ?_); (try (refine gate_guard (by rfl) ?_; dsimp only)); refine Kd.R_lit (Kd.int .i64) _ 3 ?hg (N := 232) ?hd (xs := ([] : List Int)) (inner := []) (ok := fun _ => True) (okp := fun _ => True) ?hr ?hp (fun _ hk => hk) trivial (Below.refl _ _) (Nat.le_refl _) (by simp) ?_; (case hd => rfl); (case hg => rfl); (case hr => first | (go_simp; done) | (go_simp; rfl)); (case hp => exact (Reps.none _ _)); intro v181 w133 ho134 hb hg_ hnew_; clear hg_ hnew_; (first | rw [← Ny180.out] at ho134 | (simp only [Int.reduceToNat] at ho134; rw [← Ny180.out] at ho134)); replace HO_20 := am (Kd.R_below Q34 hb); replace HO_111001 := am (Kd.R_below Q32 hb); replace HO_132001 := am (Kd.R_below Q33 hb); have HO182 := am (Kd.R_lower (Kd.R_new' (Kd.R_new' ho134 (Kd.R_lt Q35)) (Kd.R_lt Q39)) (below_size (Q0 HB))); replace HO_24 := am (Kd.R_elder' Q35 (Kd.R_base ho134) hb); replace HO_28 := am (Kd.R_elder' Q39 (Kd.R_base ho134) hb); replace BK110 := am (blk_below (g := gb110) (o := .cells #[.int .i64 t102, .slice Ao22 t103.length co22] 30 (0, 0)) (Q1 BK110) hb); replace BK131 := am (blk_below (g := gb131) (o := .cells #[.int .i64 t126, .slice Ao37 t127.length co37] 30 (0, 0)) (Q1 BK131) hb); replace HB := am (below_step (Q0 HB) hb); clear hb ho134))
                go_loopg [32, 33] kj109 (fun kq v32 v33 w' => ∃ (x32_5 : List Int) (x33_5 : Int), v33 = .int .i64 x33_5 ∧ Aside0 (laws_FnCorners.l1 kq t140 t148 x28_3 x29_3 x32_5 x33_5 t102 t103 = some r) ∧ Aside0 (kq ≤ kj109) ∧ Aside0 (Kd.R k71 71 w' w.heap.size (fun k_ => some k_ ≠ ((.slice Ao22 t103.length co22) : Value).ownBlock ∧ some k_ ≠ ((.slice Ao37 t127.length co37) : Value).ownBlock) (.slice Ao111 t140.length co111) t140) ∧ Aside0 (Kd.R (Kd.int .i64) 3 w' w.heap.size (fun k_ => some k_ ≠ ((.slice Ao114 x28_3.length co114) : Value).ownBlock ∧ some k_ ≠ (v32 : Value).ownBlock) v149 t148) ∧ Aside0 (Kd.R (Kd.int .i64) 3 w' w.heap.size (fun k_ => some k_ ≠ (v149 : Value).ownBlock ∧ some k_ ≠ (v32 : Value).ownBlock) (.slice Ao114 x28_3.length co114) x28_3) ∧ Aside0 (Kd.R (Kd.int .i64) 3 w' w.heap.size (fun k_ => some k_ ≠ (v149 : Value).ownBlock ∧ some k_ ≠ ((.slice Ao114 x28_3.length co114) : Value).ownBlock) v32 x32_5) ∧ Aside0 (Kd.R k71 71 w' w.heap.size (fun k_ => some k_ ≠ ((.slice Ao111 t140.length co111) : Value).ownBlock ∧ some k_ ≠ ((.slice Ao37 t127.length co37) : Value).ownBlock) (.slice Ao22 t103.length co22) t103) ∧ Aside0 (Kd.R k71 71 w' w.heap.size (fun k_ => some k_ ≠ ((.slice Ao111 t140.length co111) : Value).ownBlock ∧ some k_ ≠ ((.slice Ao22 t103.length co22) : Value).ownBlock) (.slice Ao37 t127.length co37) t127) ∧ Aside0 (w'.heap[gb110]? = some (.cells #[.int .i64 t102, (.slice Ao22 t103.length co22)] 30 (0, 0))) ∧ Aside0 (w'.heap[gb131]? = some (.cells #[.int .i64 t126, (.slice Ao37 t127.length co37)] 30 (0, 0))) ∧ Aside0 (Below w.heap.size w w'))
                case atStart => exact ⟨(y180), (0), Q13, H', ⟨Nat.le_refl _⟩, ⟨Q34⟩, ⟨Q35⟩, ⟨Q39⟩, ⟨Q50 HO182⟩, ⟨Q32⟩, ⟨Q33⟩, ⟨Q1 BK110⟩, ⟨Q1 BK131⟩, ⟨Q0 HB⟩⟩
                case round => as_aux_lemma =>
                 clear H'
                 try clear c1
                 try clear p1
                 try clear q1
                 try clear hx1
                 try clear qi1
                 try clear p2
                 try clear c6
                 try clear c11
                 try clear c12
                 try clear c13
                 try clear p17
                 try clear q17
                 try clear hx17
                 try clear qi17
                 try clear c63
                 try clear c119
                 try clear c120
                 try clear c121
                 try clear c121b0
                 try clear c121b1
                 try clear c132
                 try clear hx173_0
                 try clear hx174_0
                 try clear hx174_1
                 try clear hx175_0
                 try clear hx175_1
                 try clear p1
                 try clear p17
                 try clear p173
                 try clear p174
                 try clear p175
                 try clear p2
                 try clear q1
                 try clear q17
                 try clear q173
                 try clear q174
                 try clear q175
                 obtain ⟨x32_5, x33_5, rfl, HA, HK5, HO_20, HO_24, HO_28, HO_32, HO_111001, HO_132001, BK110, BK131, HB⟩ := hrel
                 cases gk with
                 | zero => exact absurd HA.out (by simp [laws_FnCorners.l1])
                 | succ k5 =>
                  have H := HA.out; clear HA
                  simp only [laws_FnCorners.l1] at H
                  by_cases c135 : x33_5 < (x28_3.length : Int)
                  ·rw [if_pos c135] at H
                   have c135b0 := decide_eq_true c135; clear c135
                   by_cases c136 : 0 ≤ x33_5
                   ·rw [if_pos c136] at H
                    have c136b0 := decide_eq_true c136; clear c136
                    by_cases c137 : 0 ≤ x29_3
                    ·rw [if_pos c137] at H
                     have c137b0 := decide_eq_true c137; clear c137
                     by_cases c138 : x29_3 < (t140.length : Int)
                     ·rw [if_pos c138] at H
                      have c138b0 := decide_eq_true c138; clear c138; have HU139 := Aside0.mk H; clear H
                      try go_wp2
                      replace HO_20 := am (Kd.R_drew HO_20.out); replace HO_24 := am (Kd.R_drew HO_24.out); replace HO_28 := am (Kd.R_drew HO_28.out); replace HO_32 := am (Kd.R_drew HO_32.out); replace HO_111001 := am (Kd.R_drew HO_111001.out); replace HO_132001 := am (Kd.R_drew HO_132001.out); replace BK110 := am (blk_drew BK110.out); replace BK131 := am (blk_drew BK131.out); replace HB := am (below_drew1 HB.out); have p183 : 0 ≤ (x33_5 : Int) := of_decide_eq_true Q10; have q183 : x33_5 < (x28_3.length : Int) := of_decide_eq_true Q10; obtain ⟨ad183, e183, hx183_0⟩ := Kd.at_int (Kd.R_reads' HO_28.out).2.2 x33_5 p183 q183
                      cases e183
                      replace p183 := eq_true p183; replace q183 := eq_true q183; have p184 : 0 ≤ (x29_3 : Int) := of_decide_eq_true Q10; have q184 : x29_3 < (t140.length : Int) := of_decide_eq_true Q10; obtain ⟨ad184, e184, hx184_0, hx184_1⟩ := at_T71 (Kd.R_reads' HO_20.out).2.2 x29_3 p184 q184
                      cases e184
                      replace p184 := eq_true p184; replace q184 := eq_true q184; refine start_ (n := 10) (S := fun w' => w'.cell? (ad183.add (x33_5).toNat) = some (.int .i64 (rd x28_3 x33_5)) ∧ w'.cell? (ad184.add ((x29_3).toNat * 2)) = some (.int .i64 ((rd_T71 t140 x29_3).f0)) ∧ w'.cell? ⟨(ad184.add ((x29_3).toNat * 2)).block, (ad184.add ((x29_3).toNat * 2)).off + 1, none⟩ = some (.int .i64 ((rd_T71 t140 x29_3).f1))) (ds := []) #[false, false, false, false, false, false, false, false, false, false] (by kernel_rfl) rfl rfl ⟨hx183_0, hx184_0, hx184_1⟩ (fun hHeld => ?_); refine with_tabW laws_FnCorners.tab32 laws_FnCorners.bits32 (fun HT_ HW_ => ?_); generalize wr.drew = w140 at HO_20 HO_24 HO_28 HO_32 HO_111001 HO_132001 BK110 BK131 HB hx183_0 hx184_0 hx184_1 hHeld ⊢; refine pq 0 239 rfl rfl HT_ ?_; refine pq 1 240 rfl rfl HT_ ?_; refine pq 2 241 rfl rfl HT_ ?_; refine pq 4 243 rfl rfl HT_ ?_; refine pq 5 244 rfl rfl HT_ ?_; refine pq 6 245 rfl rfl HT_ ?_; refine pq 7 246 rfl rfl HT_ ?_; refine tq3 3 242 rfl rfl HT_ HW_ hHeld ?_; refine tq3 8 247 rfl rfl HT_ HW_ hHeld ?_; refine pq 9 248 rfl rfl HT_ ?_; refine done_ (done_of HT_.out (by kernel_rfl)) ?_
                      go_upto_if 248 with (fail)
                      have H := HU139.out; clear HU139
                      by_cases c141 : (rd x28_3 x33_5) = ((rd_T71 t140 x29_3).f0)
                      ·rw [if_pos c141] at H
                       have c141b0 := beq_iff_eq.mpr c141; have c141b1 := bne_eq_false_iff_eq.mpr c141; clear c141
                       (first | rw [c141b0] | (simp only [i64_w, i32_w]; rw [c141b0]) | rw [c141b1] | skip)
                       have H' := Aside0.mk H; clear H
                       go_wp2
                       go_roundg k5
                       case measure => have := HJ48.out; have := HJ95.out; have := HK3.out; have := HJ109.out; have := HK5.out; omega
                       case rel => exact ⟨(x32_5), (wrap64 (x33_5 + 1)), Q13, H', ⟨Q97⟩, ⟨Q34⟩, ⟨Q35⟩, ⟨Q39⟩, ⟨Q69⟩, ⟨Q32⟩, ⟨Q33⟩, ⟨Q1 BK110⟩, ⟨Q1 BK131⟩, ⟨Q0 HB⟩⟩
                      ·rw [if_neg c141] at H
                       have c141b0 := beq_eq_false_iff_ne.mpr c141; have c141b1 := bne_iff_ne.mpr c141
                       (first | rw [c141b0] | (simp only [i64_w, i32_w]; rw [c141b0]) | rw [c141b1] | skip)
                       by_cases c142 : x32_5.length < 17592186044416
                       ·rw [if_pos c142] at H
                        have LMc142 := Aside0.mk c142; clear c142; obtain ⟨y186, hy186⟩ : ∃ y_ : List Int, y_ = (x32_5 ++ [rd x28_3 x33_5]) := ⟨_, rfl⟩; replace H : (laws_FnCorners.l1 k5 t140 t148 x28_3 x29_3 y186 (wrap64 (x33_5 + 1)) t102 t103) = some r := RH hy186 H; have Ny186 := Aside0.mk hy186; clear hy186; have H' := Aside0.mk H; clear H; have p185 : 0 ≤ (x33_5 : Int) := of_decide_eq_true Q10; have q185 : x33_5 < (x28_3.length : Int) := of_decide_eq_true Q10; obtain ⟨ad185, e185, hx185_0⟩ := Kd.at_int (Kd.R_reads' HO_28.out).2.2 x33_5 p185 q185; obtain rfl : ad183 = ad185 := (by injection e185); replace p185 := eq_true p185; replace q185 := eq_true q185
                        go_wp2_with (first | ((with_reducible refine gate_builtin (b := .append) (xs := #[.tmp 249, .tmp 254]) rfl ?_); (try (refine gate_guard (by rfl) ?_; dsimp only)); at_builtin; refine Kd.R_append (Kd.int .i64) (w0 := w) w.heap.size rfl (.tmp 249) (.tmp 254) 25 3 (.int .i64 0) 8 rfl Try.underlying25 info3 rfl (by decide) (by omega) u32 x32_5 (rd x28_3 x33_5) [.int .i64 (rd x28_3 x33_5)] (fun k_ => some k_ ≠ (v149 : Value).ownBlock ∧ some k_ ≠ (.slice (some ad183) x28_3.length co114 : Value).ownBlock) (fun _ => False) rfl rfl ?aP (fun _ hk => hk.elim) ?aF ?aO ?aB ?aS ?aL ?_; (case aP => exact rfl); (case aB => exact (Q0 HB)); (case aF => exact (fun k_ hk => ⟨Kd.fresh' (Kd.R_lt Q35) k_ hk, Kd.fresh' (Kd.R_lt Q39) k_ hk⟩)); (case aO => exact Q69); (case aS => exact (below_size (Q0 HB))); (case aL => have := LMc142.out; omega); intro v187 w143 ho hb hg hat; rw [← Ny186.out] at ho; replace HO_20 := am (Kd.R_over' Q34 (Kd.R_typed Q69) (by decide) hg); replace HO_24 := am (Kd.R_after (ok := (fun k_ => some k_ ≠ (.slice (some ad183) x28_3.length co114 : Value).ownBlock)) Q35 hg hat); replace HO_28 := am (Kd.R_after (ok := (fun k_ => some k_ ≠ (v149 : Value).ownBlock)) Q39 hg hat); replace HO_111001 := am (Kd.R_over' Q32 (Kd.R_typed Q69) (by decide) hg); replace HO_132001 := am (Kd.R_over' Q33 (Kd.R_typed Q69) (by decide) hg); replace BK110 := am (blk_grown (g := gb110) (o := .cells #[.int .i64 t102, .slice Ao22 t103.length co22] 30 (0, 0)) (Q1 BK110) hg (Kd.R_ne HO_32.out BK110.out (by decide))); replace BK131 := am (blk_grown (g := gb131) (o := .cells #[.int .i64 t126, .slice Ao37 t127.length co37] 30 (0, 0)) (Q1 BK131) hg (Kd.R_ne HO_32.out BK131.out (by decide))); replace HB := am (hb); have HO188 := am (ho); clear HO_32; clear ho hb hg hat))
                        go_roundg k5
                        case measure => have := HJ48.out; have := HJ95.out; have := HK3.out; have := HJ109.out; have := HK5.out; omega
                        case rel => exact ⟨(y186), (wrap64 (x33_5 + 1)), Q13, H', ⟨Q97⟩, ⟨Q34⟩, ⟨Q35⟩, ⟨Q39⟩, ⟨Q2 HO188⟩, ⟨Q32⟩, ⟨Q33⟩, ⟨Q1 BK110⟩, ⟨Q1 BK131⟩, ⟨Q0 HB⟩⟩
                       ·rw [if_neg c142] at H
                        exact absurd H (by simp)
                     ·rw [if_neg c138] at H
                      exact absurd H (by simp)
                    ·rw [if_neg c137] at H
                     exact absurd H (by simp)
                   ·rw [if_neg c136] at H
                    exact absurd H (by simp)
                  ·rw [if_neg c135] at H
                   have c135b0 := decide_eq_false c135; clear c135; have H' := Aside0.mk H; clear H
                   go_wp2
                   go_roundg k5
                   case measure => have := HJ48.out; have := HJ95.out; have := HK3.out; have := HJ109.out; have := HK5.out; omega
                   case rel => exact ⟨(x32_5), (wrap64 (x29_3 + 1)), Q13, H', ⟨Q97⟩, ⟨Q34⟩, ⟨by (with_reducible repeat (first | apply Kd.R_alloc | apply Kd.R_drewN | apply Kd.R_drew)); exact Kd.R_mono HO_24.out (fun _ hk => hk.2)⟩, ⟨by (with_reducible repeat (first | apply Kd.R_alloc | apply Kd.R_drewN | apply Kd.R_drew)); exact Kd.R_mono HO_32.out (fun _ hk => hk.1)⟩, ⟨Q32⟩, ⟨Q33⟩, ⟨Q1 BK110⟩, ⟨Q1 BK131⟩, ⟨Q0 HB⟩⟩
            ·rw [if_neg c108] at H
             have c108b0 := decide_eq_false c108; clear c108; replace H := (ob H); obtain ⟨⟨t164, t167⟩, A1440, H⟩ := H; (try dsimp only at H); have A144 := Aside0.mk A1440; clear A1440; have HU145 := Aside0.mk H; clear H; obtain ⟨Ao146, co146, eo146⟩ := Kd.R_slice HO_20.out; subst eo146; have hnb147 := NB110_131.out; have hnc147 := NB131_110.out; have hcz148_0 : wr.cell? ⟨gb110, 0, none⟩ = some (.int .i64 t102) := (blk_cell BK110.out 0).trans rfl; have hcz148_1 : wr.cell? ⟨gb110, 1, none⟩ = some (.slice Ao22 t103.length co22) := (blk_cell BK110.out 1).trans rfl; have hfz148_0 := blk_frozen BK110.out 0; have hfz148_1 := blk_frozen BK110.out 1; obtain ⟨Ao149, co149, eo149⟩ := Kd.R_slice HO_28.out; subst eo149
             go_upto_region 36 with (first | ((with_reducible refine gate_callee (f := 51) rfl ?_); refine goesL_ (some 260) rfl rfl Try.func51 (by kernel_rfl) rfl #[.agg #[.int .i64 t102, .slice Ao22 t103.length co22], .slice Ao149 x28_3.length co149] rfl Q3 ?_; (with_reducible refine (impl_CornersOf.calls k3 t102 _ _ t103 _ _ x28_3 t164 t167 _ ?side1 ?side2 ?side3 ?side4 A144.out).mono ?_); (case side1 => exact Q75); (case side2 => exact (Kd.R_reads' HO_111001.out).2.1); (case side3 => exact Q59); (case side4 => exact (Kd.R_reads' HO_28.out).2.1); rintro e w150 ⟨v165, rfl, ho0, hb⟩; refine ⟨_, rfl, ?_⟩; replace HO_20 := am (Kd.R_below Q34 hb); replace HO_111001 := am (Kd.R_below Q32 hb); replace HO_132001 := am (Kd.R_below Q33 hb); have HO166 := am (Kd.R_lower (Kd.R_new' (Kd.R_new' ho0 (Kd.R_lt Q35)) (Kd.R_lt Q39)) (below_size (Q0 HB))); replace HO_24 := am (Kd.R_elder' Q35 (Kd.R_base ho0) hb); replace HO_28 := am (Kd.R_elder' Q39 (Kd.R_base ho0) hb); replace BK110 := am (blk_below (g := gb110) (o := .cells #[.int .i64 t102, .slice Ao22 t103.length co22] 30 (0, 0)) (Q1 BK110) hb); replace BK131 := am (blk_below (g := gb131) (o := .cells #[.int .i64 t126, .slice Ao37 t127.length co37] 30 (0, 0)) (Q1 BK131) hb); replace HB := am (below_step (Q0 HB) hb); (try clear hb); (try clear hb2); (try clear hk); (try clear hi); (try clear ho0)))
             (try simp only [Act.put, List.setIfInBounds_toArray, List.set_cons_zero, List.set_cons_succ]); have H := HU145.out; clear HU145; replace H := (ob H); obtain ⟨t168, A1510, H⟩ := H; (try dsimp only at H); have A151 := Aside0.mk A1510; clear A1510
             by_cases c152 : t168 = true
             ·subst c152
              have H1 : (some ((t164.length : Int) == 0)) = some r := by rw [if_pos rfl] at H; exact H
              clear H; have H := H1; clear H1; obtain rfl := Option.some.inj H; obtain ⟨Ao153, co153, eo153⟩ := Kd.R_slice HO_24.out; subst eo153
              go_wp2_with (first | ((with_reducible refine gate_callee (f := 61) rfl ?_); refine goesL_ (some 265) rfl rfl Try.func61 (by kernel_rfl) rfl #[.slice Ao149 x28_3.length co149, .slice Ao153 t148.length co153] rfl Q3 ?_; (with_reducible refine (laws_vInts.calls k3 _ _ x28_3 _ _ t148 true _ ?side1 ?side2 ?side3 ?side4 A151.out).mono ?_); (case side1 => exact Q59); (case side2 => exact (Kd.R_reads' HO_28.out).2.1); (case side3 => exact (by repeat (first | exact (Kd.R_reads' HO_24.out).2.2 | (with_reducible refine Kd.C_alloc ?_ _) | (with_reducible refine Kd.C_drewN ?_ _) | (with_reducible refine Kd.C_drew ?_)))); (case side4 => exact (Kd.R_reads' HO_24.out).2.1); rintro e w' ⟨rfl, ⟨nd, rfl⟩⟩; refine ⟨_, rfl, ?_⟩; obtain ⟨Ao154, co154, eo154⟩ := Kd.R_slice HO166.out; subst eo154))
              go_ret
              exact ⟨by first | rfl | (simp [errW_none, errW_some] <;> rfl) | (simp only [← hji104]; first | rfl | (simp [errW_none, errW_some] <;> rfl)) | (simp [*, errW_none, errW_some] <;> rfl), Q0 HB⟩
             ·replace c152 := Bool.eq_false_iff.mpr c152
              subst c152; have H1 : (none) = some r := by rw [if_neg (show ¬ (false = true) by decide)] at H; exact H
              clear H; have H := H1; clear H1; exact absurd H (by simp)
         ·rw [if_neg c103] at H
          exact absurd H (by simp)
        ·replace c102 := Bool.eq_false_iff.mpr c102
         subst c102; have H1 : (some true) = some r := by rw [if_neg (show ¬ (false = true) by decide)] at H; exact H
         clear H; have H := H1; clear H1; obtain rfl := Option.some.inj H
         go_wp2
         go_ret
         exact ⟨Q11, Q0 HB⟩
def laws_FnCorners.Pure : Prop := ∀ (l0 : List Int), l0.length ≤ maxLen → (∀ x ∈ l0, (Lit.int .u8 x).wf = true) → ∃ k, laws_FnCorners.f k l0 = some true
end Go.Proofs.Ytcjddikalgnhpaa.P
