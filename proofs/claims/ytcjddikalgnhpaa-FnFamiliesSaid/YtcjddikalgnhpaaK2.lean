/- Functions of the program as Lean functions, that each call comes to what they say, and what holds of them; part 2 of 14; no conditions beyond those that each theorem names. -/
import Derived.Test.YtcjddikalgnhpaaK1
namespace Go.Proofs.Ytcjddikalgnhpaa.P
open Go.RowKit Go.Proofs.YtcjddikalgnhpaaW.PrintWords Go.Proofs.YtcjddikalgnhpaaW.PrintLast Go.Proofs.YtcjddikalgnhpaaW.PrintMore
attribute [local go_sem] max2_int min2_int max_two min_two max_three min_three max_four min_four   -- for this text's walks alone
set_option linter.unusedVariables false
set_option linter.unusedSimpArgs false
/-! ### impl_within: function 107 -/
def impl_within.f (a0 : Int) (a1 : Int) (a2 : Int) : Option (Bool) := if a0 ≥ a1 then (some (decide (a0 ≤ a2))) else (some false)
set_option maxHeartbeats 8000000 in
set_option maxRecDepth 100000 in
theorem impl_within.calls (a0 : Int) (a1 : Int) (a2 : Int) (r : Bool) (w : World) (h : impl_within.f a0 a1 a2 = some r) :
  Calls Try.prog 107 #[.int .i64 a0, .int .i64 a1, .int .i64 a2] w fun e w' => e = .returned (.bool r) ∧ Drawn0 w w' := by
 have H : (if a0 ≥ a1 then (some (decide (a0 ≤ a2))) else (some false)) = some r := h
 clear h
 by_cases c4 : a0 ≥ a1
 ·rw [if_pos c4] at H
  have c4b0 : decide (a1 ≤ a0) = true := decide_eq_true c4; clear c4; obtain rfl := Option.some.inj H
  go_enter Try.func107, Try.ntmps107
  go_wp2
  go_ret
  exact ⟨Q11, Q40⟩
 ·rw [if_neg c4] at H
  have c4b0 : decide (a1 ≤ a0) = false := decide_eq_false c4; clear c4; obtain rfl := Option.some.inj H
  go_enter Try.func107, Try.ntmps107
  go_wp2
  go_ret
  exact ⟨Q11, Q40⟩
/-! ### cmp_isNaN_int: function 219 -/
def cmp_isNaN_int.f (a0 : Int) : Option (Bool) := some (a0 != a0)
set_option maxHeartbeats 8000000 in
set_option maxRecDepth 100000 in
theorem cmp_isNaN_int.calls (a0 : Int) (r : Bool) (w : World) (h : cmp_isNaN_int.f a0 = some r) :
  Calls Try.prog 219 #[.int .i64 a0] w fun e w' => e = .returned (.bool r) ∧ Drawn0 w w' := by
 have H : (some (a0 != a0)) = some r := h
 clear h
 obtain rfl := Option.some.inj H
 go_enter Try.func219, Try.ntmps219
 go_wp2
 go_ret
 exact ⟨Q11, Q40⟩
/-! ### cmp_Compare_int: function 203 -/
def cmp_Compare_int.f (a0 : Int) (a1 : Int) : Option (Int) := (cmp_isNaN_int.f a0).bind fun t101 => ((cmp_isNaN_int.f a1).bind fun t102 => (if t101 = true then (if t102 = true then (some 0) else (some (-1))) else (if t102 = true then (some 1) else (if a0 < a1 then (some (-1)) else (if a0 > a1 then (some 1) else (some 0))))))
set_option maxHeartbeats 8000000 in
set_option maxRecDepth 100000 in
theorem cmp_Compare_int.calls (a0 : Int) (a1 : Int) (r : Int) (w : World) (h : cmp_Compare_int.f a0 a1 = some r) :
  Calls Try.prog 203 #[.int .i64 a0, .int .i64 a1] w fun e w' => e = .returned (.int .i64 r) ∧ Drawn0 w w' := by
 have H : ((cmp_isNaN_int.f a0).bind fun t101 => ((cmp_isNaN_int.f a1).bind fun t102 => (if t101 = true then (if t102 = true then (some 0) else (some (-1))) else (if t102 = true then (some 1) else (if a0 < a1 then (some (-1)) else (if a0 > a1 then (some 1) else (some 0))))))) = some r := h
 clear h
 replace H := (ob H)
 obtain ⟨t101, A30, H⟩ := H
 (try dsimp only at H)
 have A3 := Aside0.mk A30
 clear A30
 replace H := (ob H)
 obtain ⟨t102, A40, H⟩ := H
 (try dsimp only at H)
 have A4 := Aside0.mk A40
 clear A40
 have HU5 := Aside0.mk H
 clear H
 go_enter Try.func203, Try.ntmps203
 go_upto_if 11 with (first | ((with_reducible refine gate_callee (f := 219) rfl ?_); refine goesL_ (some 8) rfl rfl Try.func219 (by kernel_rfl) rfl #[.int .i64 a0] rfl Q3 ?_; (with_reducible refine (cmp_isNaN_int.calls a0 t101 _ A3.out).mono ?_); rintro e w' ⟨rfl, ⟨nd, rfl⟩⟩; refine ⟨_, rfl, ?_⟩) | ((with_reducible refine gate_callee (f := 219) rfl ?_); refine goesL_ (some 10) rfl rfl Try.func219 (by kernel_rfl) rfl #[.int .i64 a1] rfl Q3 ?_; (with_reducible refine (cmp_isNaN_int.calls a1 t102 _ A4.out).mono ?_); rintro e w' ⟨rfl, ⟨nd, rfl⟩⟩; refine ⟨_, rfl, ?_⟩))
 (try simp only [Act.put, List.setIfInBounds_toArray, List.set_cons_zero, List.set_cons_succ])
 have H := HU5.out
 clear HU5
 by_cases c6 : t101 = true
 ·subst c6
  have H1 : (if t102 = true then (some 0) else (some (-1))) = some r := by rw [if_pos rfl] at H; exact H
  clear H; have H := H1; clear H1
  by_cases c7 : t102 = true
  ·subst c7
   have H1 : (some 0) = some r := by rw [if_pos rfl] at H; exact H
   clear H; have H := H1; clear H1; obtain rfl := Option.some.inj H
   go_wp2
   go_ret
   exact ⟨Q11, Q40⟩
  ·replace c7 := Bool.eq_false_iff.mpr c7
   subst c7; have H1 : (some (-1)) = some r := by rw [if_neg (show ¬ (false = true) by decide)] at H; exact H
   clear H; have H := H1; clear H1; obtain rfl := Option.some.inj H
   go_wp2
   go_ret
   exact ⟨Q11, Q40⟩
 ·replace c6 := Bool.eq_false_iff.mpr c6
  subst c6; have H1 : (if t102 = true then (some 1) else (if a0 < a1 then (some (-1)) else (if a0 > a1 then (some 1) else (some 0)))) = some r := by rw [if_neg (show ¬ (false = true) by decide)] at H; exact H
  clear H; have H := H1; clear H1
  by_cases c8 : t102 = true
  ·subst c8
   have H1 : (some 1) = some r := by rw [if_pos rfl] at H; exact H
   clear H; have H := H1; clear H1; obtain rfl := Option.some.inj H
   go_wp2
   go_ret
   exact ⟨Q11, Q40⟩
  ·replace c8 := Bool.eq_false_iff.mpr c8
   subst c8; have H1 : (if a0 < a1 then (some (-1)) else (if a0 > a1 then (some 1) else (some 0))) = some r := by rw [if_neg (show ¬ (false = true) by decide)] at H; exact H
   clear H; have H := H1; clear H1
   by_cases c9 : a0 < a1
   ·rw [if_pos c9] at H
    have c9b0 : decide (a0 < a1) = true := decide_eq_true c9; clear c9
    (first | rw [c9b0] | (simp only [i64_w, i32_w]; rw [c9b0]) | skip)
    obtain rfl := Option.some.inj H
    go_wp2
    go_ret
    exact ⟨Q11, Q40⟩
   ·rw [if_neg c9] at H
    have c9b0 : decide (a0 < a1) = false := decide_eq_false c9; clear c9
    (first | rw [c9b0] | (simp only [i64_w, i32_w]; rw [c9b0]) | skip)
    by_cases c10 : a0 > a1
    ·rw [if_pos c10] at H
     have c10b0 : decide (a1 < a0) = true := decide_eq_true c10; clear c10; obtain rfl := Option.some.inj H
     go_wp2
     go_ret
     exact ⟨Q11, Q40⟩
    ·rw [if_neg c10] at H
     have c10b0 : decide (a1 < a0) = false := decide_eq_false c10; clear c10; obtain rfl := Option.some.inj H
     go_wp2
     go_ret
     exact ⟨Q11, Q40⟩
/-! ### slices_Compare_int_int: function 158 -/
def slices_Compare_int_int.l0 : Nat → List Int → List Int → List Int → Int → Int → Option (Int)
 | 0, _, _, _, _, _ => none
 | k + 1, x0, x1, x9, x10, x11 => if x11 < x10 then (if 0 ≤ x11 then (if x11 < (x9.length : Int) then (if x11 ≥ (x1.length : Int) then (some 1) else (if x11 < (x1.length : Int) then ((cmp_Compare_int.f (rd x9 x11) (rd x1 x11)).bind fun t103 => (if t103 = 0 then (slices_Compare_int_int.l0 k x0 x1 x9 x10 (wrap64 (x11 + 1))) else (some t103))) else (none))) else (none)) else (none)) else (if (x0.length : Int) < (x1.length : Int) then (some (-1)) else (some 0))
def slices_Compare_int_int.f (k : Nat) (l0 : List Int) (l1 : List Int) : Option (Int) := slices_Compare_int_int.l0 k l0 l1 l0 (l0.length : Int) 0
theorem slices_Compare_int_int.mono_l : ∀ k, (∀ y0 y1 y2 y3 y4, LeO (slices_Compare_int_int.l0 k y0 y1 y2 y3 y4) (slices_Compare_int_int.l0 (k + 1) y0 y1 y2 y3 y4))
 | 0 => fun _ _ _ _ _ r h => by simp [slices_Compare_int_int.l0] at h
 | k + 1 => by
  have ih0 := slices_Compare_int_int.mono_l k
  all_goals
   intros
   first | unfold slices_Compare_int_int.l0
   repeat' first | (with_reducible first | exact ih0 _ _ _ _ _ | exact LeO.refl _ | exact LeO.none _ | refine LeO.ite ?_ ?_ | refine LeO.bind ?_ (fun _ => ?_))
theorem slices_Compare_int_int.mono : ∀ a0 a1 k, LeO (slices_Compare_int_int.f k a0 a1) (slices_Compare_int_int.f (k + 1) a0 a1) := by
 intro a0 a1 k
 have ih0 := slices_Compare_int_int.mono_l k
 unfold slices_Compare_int_int.f
 repeat' first | (with_reducible first | exact ih0 _ _ _ _ _ | exact LeO.refl _ | exact LeO.none _ | refine LeO.ite ?_ ?_ | refine LeO.bind ?_ (fun _ => ?_))
set_option maxHeartbeats 8000000 in
set_option maxRecDepth 100000 in
theorem slices_Compare_int_int.calls (k : Nat) (A0 : Option Addr) (c0 : Nat) (l0 : List Int) (A1 : Option Addr) (c1 : Nat) (l1 : List Int) (r : Int) (w : World) (hr0 : Kd.C (Kd.int .i64) w A0 l0.length l0) (hc0 : l0.length ≤ c0) (hr1 : Kd.C (Kd.int .i64) w A1 l1.length l1) (hc1 : l1.length ≤ c1) (h : slices_Compare_int_int.f k l0 l1 = some r) :
  Calls Try.prog 158 #[.slice A0 l0.length c0, .slice A1 l1.length c1] w fun e w' => e = .returned (.int .i64 r) ∧ Drawn0 w w' := by
 have HR0 := Aside0.mk hr0
 have HC0 := Aside0.mk hc0
 clear hr0 hc0
 have HR1 := Aside0.mk hr1
 have HC1 := Aside0.mk hc1
 clear hr1 hc1
 have H : (slices_Compare_int_int.l0 k l0 l1 l0 (l0.length : Int) 0) = some r := h
 clear h
 have H' := Aside0.mk H
 clear H
 go_enter Try.func158, Try.ntmps158
 go_wp2
 go_loopg [11] k (fun kq v11 w' => ∃ (x11_1 : Int), v11 = .int .i64 x11_1 ∧ Aside0 (slices_Compare_int_int.l0 kq l0 l1 l0 (l0.length : Int) x11_1 = some r) ∧ Aside0 (kq ≤ k) ∧ Drawn0 w w')
 case atStart => exact ⟨(0), Q11, H', ⟨Nat.le_refl _⟩, Q40⟩
 case round =>
  clear H'
  try clear c1
  try clear p2
  obtain ⟨x11_1, rfl, HA, HK1, ⟨m1, rfl⟩⟩ := hrel
  cases gk with
  | zero => exact absurd HA.out (by simp [slices_Compare_int_int.l0])
  | succ k1 =>
   have H := HA.out; clear HA
   simp only [slices_Compare_int_int.l0] at H
   by_cases c3 : x11_1 < (l0.length : Int)
   ·rw [if_pos c3] at H
    have c3b0 : decide (x11_1 < (l0.length : Int)) = true := decide_eq_true c3; clear c3
    by_cases c4 : 0 ≤ x11_1
    ·rw [if_pos c4] at H
     have c4b0 : decide (0 ≤ x11_1) = true := decide_eq_true c4; clear c4
     by_cases c5 : x11_1 < (l0.length : Int)
     ·rw [if_pos c5] at H
      have c5b0 : decide (x11_1 < (l0.length : Int)) = true := decide_eq_true c5; clear c5; have HU6 := Aside0.mk H; clear H; have p101 : 0 ≤ (x11_1 : Int) := of_decide_eq_true Q12; have q101 : x11_1 < (l0.length : Int) := of_decide_eq_true Q12; obtain ⟨ad101, e101, hx101_0⟩ := Kd.at_int HR0.out x11_1 p101 q101
      cases e101
      replace p101 := eq_true p101; replace q101 := eq_true q101
      go_upto_if 19 with (fail)
      have H := HU6.out; clear HU6
      by_cases c7 : x11_1 ≥ (l1.length : Int)
      ·rw [if_pos c7] at H
       have c7b0 : decide ((l1.length : Int) ≤ x11_1) = true := decide_eq_true c7; clear c7
       (first | rw [c7b0] | (simp only [i64_w, i32_w]; rw [c7b0]) | skip)
       obtain rfl := Option.some.inj H
       go_wp2
       go_ret
       exact ⟨Q11, Q40⟩
      ·rw [if_neg c7] at H
       have c7b0 : decide ((l1.length : Int) ≤ x11_1) = false := decide_eq_false c7; clear c7
       (first | rw [c7b0] | (simp only [i64_w, i32_w]; rw [c7b0]) | skip)
       by_cases c8 : x11_1 < (l1.length : Int)
       ·rw [if_pos c8] at H
        have c8b0 : decide (x11_1 < (l1.length : Int)) = true := decide_eq_true c8; clear c8; replace H := (ob H); obtain ⟨t103, A90, H⟩ := H; (try dsimp only at H); have A9 := Aside0.mk A90; clear A90; have HU10 := Aside0.mk H; clear H; have p102 : 0 ≤ (x11_1 : Int) := of_decide_eq_true Q12; have q102 : x11_1 < (l1.length : Int) := of_decide_eq_true Q12; obtain ⟨ad102, e102, hx102_0⟩ := Kd.at_int HR1.out x11_1 p102 q102
        cases e102
        replace p102 := eq_true p102; replace q102 := eq_true q102
        go_upto_if 28 with (first | ((with_reducible refine gate_callee (f := 203) rfl ?_); refine goesL_ (some 26) rfl rfl Try.func203 (by kernel_rfl) rfl #[.int .i64 (rd l0 x11_1), .int .i64 (rd l1 x11_1)] rfl Q3 ?_; (with_reducible refine (cmp_Compare_int.calls (rd l0 x11_1) (rd l1 x11_1) t103 _ A9.out).mono ?_); rintro e w' ⟨rfl, ⟨nd, rfl⟩⟩; refine ⟨_, rfl, ?_⟩))
        (try simp only [Act.put, List.setIfInBounds_toArray, List.set_cons_zero, List.set_cons_succ]); have H := HU10.out; clear HU10
        by_cases c11 : t103 = 0
        ·rw [if_pos c11] at H
         have c11b0 := beq_iff_eq.mpr c11; have c11b1 := bne_eq_false_iff_eq.mpr c11; clear c11
         (first | rw [c11b0] | (simp only [i64_w, i32_w]; rw [c11b0]) | rw [c11b1] | skip)
         have H' := Aside0.mk H; clear H
         go_wp2
         go_roundg k1
         case measure => have := HK1.out; omega
         case rel => exact ⟨(wrap64 (x11_1 + 1)), Q11, H', ⟨Q95⟩, Q40⟩
        ·rw [if_neg c11] at H
         have c11b0 := beq_eq_false_iff_ne.mpr c11; have c11b1 := bne_iff_ne.mpr c11
         (first | rw [c11b0] | (simp only [i64_w, i32_w]; rw [c11b0]) | rw [c11b1] | skip)
         obtain rfl := Option.some.inj H
         go_wp2
         go_ret
         exact ⟨Q11, Q40⟩
       ·rw [if_neg c8] at H
        exact absurd H (by simp)
     ·rw [if_neg c5] at H
      exact absurd H (by simp)
    ·rw [if_neg c4] at H
     exact absurd H (by simp)
   ·rw [if_neg c3] at H
    have c3b0 : decide (x11_1 < (l0.length : Int)) = false := decide_eq_false c3; clear c3
    by_cases c12 : (l0.length : Int) < (l1.length : Int)
    ·rw [if_pos c12] at H
     have c12b0 := decide_eq_true c12; have c12b1 : decide (l0.length < l1.length) = true := decide_eq_true (Int.ofNat_lt.mp c12); clear c12; obtain rfl := Option.some.inj H
     go_wp2
     go_ret
     exact ⟨Q11, Q40⟩
    ·rw [if_neg c12] at H
     have c12b0 := decide_eq_false c12; have c12b1 : decide (l0.length < l1.length) = false := decide_eq_false (fun h => c12 (Int.ofNat_lt.mpr h)); clear c12; obtain rfl := Option.some.inj H
     go_wp2
     go_ret
     exact ⟨Q11, Q40⟩
/-! ### impl_IsGraph: function 71 -/
/-- How two pairs compare, by their first numbers and then by their second ones. -/
def pcmp (a b : S71) : Int := if a.f0 < b.f0 then -1 else if a.f0 > b.f0 then 1 else if a.f1 < b.f1 then -1 else if a.f1 > b.f1 then 1 else 0
theorem cmp_int (a b : Int) : cmp_Compare_int.f a b = some (if a < b then -1 else if a > b then 1 else 0) := by
 unfold cmp_Compare_int.f cmp_isNaN_int.f
 simp only [bne_self_eq_false, Option.bind_some, Bool.false_eq_true, if_false]
 split
 ·rfl
 ·split <;> rfl
theorem pcmp_f (a b : S71) : slices_Compare_int_int.f 4 [a.f0, a.f1] [b.f0, b.f1] = some (pcmp a b) := by
 have h1 : wrap64 (0 + 1) = 1 := by unfold wrap64; omega
 have h2 : wrap64 (1 + 1) = 2 := by unfold wrap64; omega
 unfold slices_Compare_int_int.f pcmp
 simp only [slices_Compare_int_int.l0, cmp_int, Option.bind_some, List.length_cons, List.length_nil, rd, h1, h2]
 by_cases c1 : a.f0 < b.f0
 ·simp [c1]
 ·by_cases c2 : a.f0 > b.f0
  ·simp [c1, c2]
  ·by_cases c3 : a.f1 < b.f1
   ·simp [c1, c2, c3]
   ·by_cases c4 : a.f1 > b.f1
    ·simp [c1, c2, c3, c4]
    ·simp [c1, c2, c3, c4]
theorem pair_reads {w : World} {ad : Addr} {x y : Int} (h0 : w.cell? ad = some (.int .i64 x)) (h1 : w.cell? ⟨ad.block, ad.off + 1, none⟩ = some (.int .i64 y)) : Kd.C (Kd.int .i64) w (some ad) [x, y].length [x, y] := by
 refine ⟨rfl, by simp, fun _ => ⟨ad, rfl, fun j p hj => ?_⟩⟩
 match j, hj with
 | 0, hj =>
  obtain rfl : x = p := by simpa using hj
  refine ⟨[.int .i64 x], rfl, rfl, fun i u hi => ?_⟩
  match i, hi with
  | 0, hi =>
   obtain rfl : Value.int .i64 x = u := by simpa using hi
   exact h0
 | 1, hj =>
  obtain rfl : y = p := by simpa using hj
  refine ⟨[.int .i64 y], rfl, rfl, fun i u hi => ?_⟩
  match i, hi with
  | 0, hi =>
   obtain rfl : Value.int .i64 y = u := by simpa using hi
   exact h1
theorem pcmp_calls (adA adB : Addr) (a b : S71) (w : World) (hA0 : w.cell? adA = some (.int .i64 a.f0)) (hA1 : w.cell? ⟨adA.block, adA.off + 1, none⟩ = some (.int .i64 a.f1))
  (hB0 : w.cell? adB = some (.int .i64 b.f0)) (hB1 : w.cell? ⟨adB.block, adB.off + 1, none⟩ = some (.int .i64 b.f1)) :
  Calls Try.prog 158 #[.slice (some adA) 2 2, .slice (some adB) 2 2] w fun e w' => e = .returned (.int .i64 (pcmp a b)) ∧ Drawn0 w w' :=
 slices_Compare_int_int.calls 4 (some adA) 2 [a.f0, a.f1] (some adB) 2 [b.f0, b.f1] (pcmp a b) w (pair_reads hA0 hA1) (Nat.le_refl _) (pair_reads hB0 hB1) (Nat.le_refl _) (pcmp_f a b)
theorem pcmp_quiet (adA adB : Addr) (a b : S71) (w : World) (n : Nat) (hA0 : w.cell? adA = some (.int .i64 a.f0)) (hA1 : w.cell? ⟨adA.block, adA.off + 1, none⟩ = some (.int .i64 a.f1))
  (hB0 : w.cell? adB = some (.int .i64 b.f0)) (hB1 : w.cell? ⟨adB.block, adB.off + 1, none⟩ = some (.int .i64 b.f1)) :
  Calls Try.prog 158 #[.slice (some adA) 2 2, .slice (some adB) 2 2] (w.drewN n) fun e w'' => e = .returned (.int .i64 (pcmp a b)) ∧ ∃ m, w'' = w.drewN m :=
 Calls.quiet_of ((pcmp_calls adA adB a b (w.drewN n) hA0 hA1 hB0 hB1).mono (fun _ _ h => And.imp id Drawn0.out h))
def impl_IsGraph.l0 : Nat → List (S71) → Int → Int → Option Bool
 | 0, _, _, _ => none
 | k + 1, l, s, i => if i < (l.length : Int) then (if 0 ≤ i then (if (rd_T71 l i).f0 < 0 then some false else if (rd_T71 l i).f0 ≥ (rd_T71 l i).f1 then some false else if (rd_T71 l i).f1 ≥ s then some false else if i > 0 then (if 0 ≤ pcmp (rd_T71 l (wrap64 (i - 1))) (rd_T71 l i) then some false else impl_IsGraph.l0 k l s (wrap64 (i + 1))) else impl_IsGraph.l0 k l s (wrap64 (i + 1))) else none) else some true
def impl_IsGraph.f (k : Nat) (a0_0 : Int) (l0_1 : List (S71)) : Option Bool := if 0 ≤ a0_0 ∧ a0_0 ≤ 8 then impl_IsGraph.l0 k l0_1 a0_0 0 else some false
theorem impl_IsGraph.mono_l : ∀ k l s i, LeO (impl_IsGraph.l0 k l s i) (impl_IsGraph.l0 (k + 1) l s i)
 | 0, _, _, _ => fun r h => by simp [impl_IsGraph.l0] at h
 | k + 1, l, s, i => by
  have ih := impl_IsGraph.mono_l k
  unfold impl_IsGraph.l0
  exact LeO.ite (LeO.ite (LeO.ite (LeO.refl _) (LeO.ite (LeO.refl _) (LeO.ite (LeO.refl _) (LeO.ite (LeO.ite (LeO.refl _) (ih _ _ _)) (ih _ _ _))))) (LeO.refl _)) (LeO.refl _)
theorem impl_IsGraph.mono : ∀ a0 a1 k, LeO (impl_IsGraph.f k a0 a1) (impl_IsGraph.f (k + 1) a0 a1) := by
 intro a0 a1 k
 unfold impl_IsGraph.f
 exact LeO.ite (impl_IsGraph.mono_l _ _ _ _) (LeO.refl _)
set_option maxHeartbeats 8000000 in
set_option maxRecDepth 100000 in
theorem impl_IsGraph.calls (k : Nat) (a0_0 : Int) (A0_1 : Option Addr) (c0_1 : Nat) (l0_1 : List (S71)) (r : Bool) (w : World) (hr0_1 : Kd.C k71 w A0_1 l0_1.length l0_1) (hc0_1 : l0_1.length ≤ c0_1) (h : impl_IsGraph.f k a0_0 l0_1 = some r) :
  Calls Try.prog 71 #[.agg #[.int .i64 a0_0, .slice A0_1 l0_1.length c0_1]] w fun e w' => e = .returned (.bool r) ∧ Below w.heap.size w w' := by
 have hu29 := Try.underlying30
 have hu57 := Try.underlying71
 have HR0_1 := Aside0.mk hr0_1
 have HC0_1 := Aside0.mk hc0_1
 clear hr0_1 hc0_1
 have HB := am (Below.refl w.heap.size w)
 unfold impl_IsGraph.f at h
 by_cases c3 : 0 ≤ a0_0 ∧ a0_0 ≤ 8
 ·rw [if_pos c3] at h
  have A2 := am (show impl_within.f a0_0 0 8 = some true by unfold impl_within.f; rw [if_pos c3.1]; simp [c3.2]); clear c3; have H' := Aside0.mk h; clear h
  go_enter Try.func71, Try.ntmps71
  go_wp2_with (first | ((with_reducible refine gate_dst (N := 1) rfl ?_); refine box_event ?hg (N := 1) ?hd (cs := #[.int .i64 a0_0, .slice A0_1 l0_1.length c0_1]) (t := 30) ?hr ?_; (case hd => rfl); (case hg => rfl); (case hr => first | (go_simp; done) | (go_simp; rfl)); intro gb141 hg w4 hbox hb; replace HB := am (below_step HB.out hb); have BK141 := am (hbox); have GE141 := am ((by rw [hg]; exact Nat.le_refl _) : w.heap.size ≤ gb141); clear hb hbox hg; have hcz5_0 : w4.cell? ⟨gb141, 0, none⟩ = some (.int .i64 a0_0) := (blk_cell BK141.out 0).trans rfl; have hcz5_1 : w4.cell? ⟨gb141, 1, none⟩ = some (.slice A0_1 l0_1.length c0_1) := (blk_cell BK141.out 1).trans rfl; have hfz5_0 := blk_frozen BK141.out 0; have hfz5_1 := blk_frozen BK141.out 1) | ((with_reducible refine gate_callee (f := 107) rfl ?_); refine goesL_ (some 7) rfl rfl Try.func107 (by kernel_rfl) rfl #[.int .i64 a0_0, .int .i64 0, .int .i64 8] rfl Q159 ?_; (with_reducible refine (impl_within.calls a0_0 0 8 true _ A2.out).mono ?_); rintro e w' ⟨rfl, ⟨nd, rfl⟩⟩; refine ⟨_, rfl, ?_⟩))
  go_loopg [12] k (fun kq v12 w' => ∃ (i : Int), v12 = .int .i64 i ∧ Aside0 (impl_IsGraph.l0 kq l0_1 a0_0 i = some r) ∧ Aside0 (kq ≤ k) ∧ Aside0 (w'.heap[gb141]? = some (.cells #[.int .i64 a0_0, .slice A0_1 l0_1.length c0_1] 30 (0, 0))) ∧ Aside0 (Below w.heap.size w w'))
  case atStart => exact ⟨0, Q11, H', ⟨Nat.le_refl _⟩, ⟨Q0 BK141⟩, ⟨Q5 HB GE141⟩⟩
  case round =>
   clear H'
   try clear hcz5_0
   try clear hcz5_1
   try clear hfz5_0
   try clear hfz5_1
   obtain ⟨i, rfl, HA, HK1, BK141, HB⟩ := hrel
   cases gk with
   | zero => exact absurd HA.out (by simp [impl_IsGraph.l0])
   | succ k1 =>
    have H := HA.out; clear HA
    simp only [impl_IsGraph.l0] at H
    by_cases c6 : i < (l0_1.length : Int)
    ·rw [if_pos c6] at H
     have c6b0 : decide (i < (l0_1.length : Int)) = true := decide_eq_true c6
     by_cases c7 : 0 ≤ i
     ·rw [if_pos c7] at H
      have c7b0 : decide (0 ≤ i) = true := decide_eq_true c7; obtain ⟨ad143, e143, hx143_0, hx143_1⟩ := at_T71 HR0_1.out i c7 c6
      cases e143
      replace hx143_0 := (HB.out.cell (World.block_lt_of_cell? w _ hx143_0)).trans hx143_0; replace hx143_1 := (HB.out.cell (World.block_lt_of_cell? w _ hx143_1)).trans hx143_1; have C6 := Aside0.mk c6; have C7 := Aside0.mk c7; replace c7 := eq_true c7; replace c6 := eq_true c6; have H' := Aside0.mk H; clear H
      go_upto_region 6 with (first | ((with_reducible refine gate_dst (N := 4) rfl ?_); refine box_event ?hg (N := 4) ?hd (cs := #[.int .i64 0, .int .i64 0]) (t := 71) ?hr ?_; (case hd => rfl); (case hg => rfl); (case hr => first | (go_simp; done) | (go_simp; rfl)); intro gb144 hg w10 hbox hb; have BK144 := am (hbox); have GE144 := am ((by rw [hg]; exact below_size (Q5 HB GE141)) : w.heap.size ≤ gb144); replace HB := am (below_step (Q5 HB GE141) hb); have NB := am ((by rw [hg]; exact Nat.ne_of_lt (blk_lt (Q0 BK141 : _ = some (.cells #[.int .i64 a0_0, .slice (some ad143) l0_1.length c0_1] 30 (0, 0))))) : gb141 ≠ gb144); replace BK141 := am (blk_below (g := gb141) (o := .cells #[.int .i64 a0_0, .slice (some ad143) l0_1.length c0_1] 30 (0, 0)) (Q0 BK141) hb); clear hb hbox hg; have hcz11_0 : w10.cell? ⟨gb144, 0, none⟩ = some (.int .i64 0) := (blk_cell BK144.out 0).trans rfl; have hcz11_1 : w10.cell? ⟨gb144, 1, none⟩ = some (.int .i64 0) := (blk_cell BK144.out 1).trans rfl; have hfz11_0 := blk_frozen BK144.out 0; have hfz11_1 := blk_frozen BK144.out 1))
      have n0_ : Aside0 (((w10.setCell ⟨gb144, 0, none⟩ (.int .i64 (rd_T71 l0_1 i).f0)).setCell ⟨gb144, 1, none⟩ (.int .i64 (rd_T71 l0_1 i).f1)).heap[gb141]? = some (.cells #[.int .i64 a0_0, .slice (some ad143) l0_1.length c0_1] 30 (0, 0))) := ⟨by (with_reducible repeat (first | refine blk_drewN ?_ _ | refine blk_drew ?_ | refine blk_alloc ?_ _)); refine blk_far ?_ NB.out _; (with_reducible repeat (first | refine blk_drewN ?_ _ | refine blk_drew ?_ | refine blk_alloc ?_ _)); refine blk_far ?_ NB.out _; (with_reducible repeat (first | refine blk_drewN ?_ _ | refine blk_drew ?_ | refine blk_alloc ?_ _)); exact BK141.out⟩; have n1_ : Aside0 (((w10.setCell ⟨gb144, 0, none⟩ (.int .i64 (rd_T71 l0_1 i).f0)).setCell ⟨gb144, 1, none⟩ (.int .i64 (rd_T71 l0_1 i).f1)).heap[gb144]? = some (.cells #[.int .i64 (rd_T71 l0_1 i).f0, .int .i64 (rd_T71 l0_1 i).f1] 71 (0, 0))) := ⟨by (with_reducible repeat (first | refine blk_drewN ?_ _ | refine blk_drew ?_ | refine blk_alloc ?_ _)); refine blk_put (cs := #[.int .i64 (rd_T71 l0_1 i).f0, .int .i64 0]) ?_ 1 _ rfl; (with_reducible repeat (first | refine blk_drewN ?_ _ | refine blk_drew ?_ | refine blk_alloc ?_ _)); refine blk_put (cs := #[.int .i64 0, .int .i64 0]) ?_ 0 _ rfl; (with_reducible repeat (first | refine blk_drewN ?_ _ | refine blk_drew ?_ | refine blk_alloc ?_ _)); exact BK144.out⟩; have n2_ : Aside0 (Below w.heap.size w ((w10.setCell ⟨gb144, 0, none⟩ (.int .i64 (rd_T71 l0_1 i).f0)).setCell ⟨gb144, 1, none⟩ (.int .i64 (rd_T71 l0_1 i).f1))) := ⟨Q39 HB GE144 GE141⟩; clear BK141 BK144 HB
      try clear hcz11_0
      try clear hcz11_1
      try clear hfz11_0
      try clear hfz11_1
      try clear hx143_0
      try clear hx143_1
      generalize ((w10.setCell ⟨gb144, 0, none⟩ (.int .i64 (rd_T71 l0_1 i).f0)).setCell ⟨gb144, 1, none⟩ (.int .i64 (rd_T71 l0_1 i).f1)) = w13 at n0_ n1_ n2_ ⊢; have BK141 := n0_; have BK144 := n1_; have HB := n2_; clear n0_ n1_ n2_; have hcz14_0 : w13.cell? ⟨gb141, 0, none⟩ = some (.int .i64 a0_0) := (blk_cell BK141.out 0).trans rfl; have hcz14_1 : w13.cell? ⟨gb141, 1, none⟩ = some (.slice (some ad143) l0_1.length c0_1) := (blk_cell BK141.out 1).trans rfl; have hcz15_0 : w13.cell? ⟨gb144, 0, none⟩ = some (.int .i64 (rd_T71 l0_1 i).f0) := (blk_cell BK144.out 0).trans rfl; have hcz15_1 : w13.cell? ⟨gb144, 1, none⟩ = some (.int .i64 (rd_T71 l0_1 i).f1) := (blk_cell BK144.out 1).trans rfl; have H := H'.out; clear H'
      by_cases d1 : (rd_T71 l0_1 i).f0 < 0
      ·rw [if_pos d1] at H
       obtain rfl := Option.some.inj H; have d1b : decide ((rd_T71 l0_1 i).f0 < 0) = true := decide_eq_true d1; clear d1
       go_quiet (fail)
       go_wp2
       go_ret
       exact ⟨Q11, (Q39 HB GE144 GE141)⟩
      ·rw [if_neg d1] at H
       have d1b : decide ((rd_T71 l0_1 i).f0 < 0) = false := decide_eq_false d1; clear d1
       by_cases d2 : (rd_T71 l0_1 i).f0 ≥ (rd_T71 l0_1 i).f1
       ·rw [if_pos d2] at H
        obtain rfl := Option.some.inj H; have d2b : decide ((rd_T71 l0_1 i).f1 ≤ (rd_T71 l0_1 i).f0) = true := decide_eq_true d2; clear d2
        go_quiet (fail)
        go_wp2
        go_ret
        exact ⟨Q11, (Q39 HB GE144 GE141)⟩
       ·rw [if_neg d2] at H
        have d2b : decide ((rd_T71 l0_1 i).f1 ≤ (rd_T71 l0_1 i).f0) = false := decide_eq_false d2; clear d2
        by_cases d3 : (rd_T71 l0_1 i).f1 ≥ a0_0
        ·rw [if_pos d3] at H
         obtain rfl := Option.some.inj H; have d3b : decide (a0_0 ≤ (rd_T71 l0_1 i).f1) = true := decide_eq_true d3; clear d3
         go_quiet (fail)
         go_wp2
         go_ret
         exact ⟨Q11, (Q39 HB GE144 GE141)⟩
        ·rw [if_neg d3] at H
         have d3b : decide (a0_0 ≤ (rd_T71 l0_1 i).f1) = false := decide_eq_false d3; clear d3
         by_cases d4 : i > 0
         ·rw [if_pos d4] at H
          have d4b : decide (0 < i) = true := decide_eq_true d4; obtain ⟨j, hj⟩ : ∃ j : Int, wrap64 (i - 1) = j := ⟨_, rfl⟩; rw [hj] at H; have hjn : j = i - 1 := by have h1 := C6.out; have h2 := HR0_1.out.2.1; have h3 := hj.symm; unfold wrap64 at h3; omega
          have p1 : 0 ≤ j := by omega
          have q1 : j < (l0_1.length : Int) := by have h1 := C6.out; omega
          have HJN := Aside0.mk hjn; clear hjn d4; have hjw : (IntKind.i64.wrap (i - 1)) = j := (i64_w _).trans hj; obtain ⟨ad1, e1, hy0, hy1⟩ := at_T71 HR0_1.out j p1 q1
          cases e1
          replace hy0 := (HB.out.cell (World.block_lt_of_cell? w _ hy0)).trans hy0; replace hy1 := (HB.out.cell (World.block_lt_of_cell? w _ hy1)).trans hy1; replace p1 := eq_true p1; replace q1 := eq_true q1; have HP := Lib.hid hy0; have HP1 := Lib.hid hy1; clear hy0 hy1; have HE0 := Lib.hid hcz15_0; have HE1 := Lib.hid hcz15_1
          by_cases d5 : 0 ≤ pcmp (rd_T71 l0_1 j) (rd_T71 l0_1 i)
          ·rw [if_pos d5] at H
           obtain rfl := Option.some.inj H; have d5b : decide (0 ≤ pcmp (rd_T71 l0_1 j) (rd_T71 l0_1 i)) = true := decide_eq_true d5; clear d5
           go_quiet ((go_at_call 158; exact pcmp_quiet (ad143.add (j.toNat * 2)) ⟨gb144, 0, none⟩ (rd_T71 l0_1 j) (rd_T71 l0_1 i) _ _ HP.out HP1.out HE0.out HE1.out))
           go_wp2
           go_ret
           exact ⟨Q11, (Q39 HB GE144 GE141)⟩
          ·rw [if_neg d5] at H
           have d5b : decide (0 ≤ pcmp (rd_T71 l0_1 j) (rd_T71 l0_1 i)) = false := decide_eq_false d5; clear d5; have H' := Aside0.mk H; clear H
           go_quiet ((go_at_call 158; exact pcmp_quiet (ad143.add (j.toNat * 2)) ⟨gb144, 0, none⟩ (rd_T71 l0_1 j) (rd_T71 l0_1 i) _ _ HP.out HP1.out HE0.out HE1.out))
           go_wp2
           go_roundg k1
           case measure => have := HK1.out; omega
           case rel => exact ⟨(wrap64 (i + 1)), Q11, H', ⟨Q95⟩, ⟨Q0 BK141⟩, ⟨Q39 HB GE144 GE141⟩⟩
         ·rw [if_neg d4] at H
          have d4b : decide (0 < i) = false := decide_eq_false d4; clear d4; have H' := Aside0.mk H; clear H
          go_quiet (fail)
          go_wp2
          go_roundg k1
          case measure => have := HK1.out; omega
          case rel => exact ⟨(wrap64 (i + 1)), Q11, H', ⟨Q95⟩, ⟨Q0 BK141⟩, ⟨Q39 HB GE144 GE141⟩⟩
     ·rw [if_neg c7] at H
      exact absurd H (by simp)
    ·rw [if_neg c6] at H
     have c6b0 : decide (i < (l0_1.length : Int)) = false := decide_eq_false c6; clear c6; obtain rfl := Option.some.inj H
     go_wp2
     go_ret
     exact ⟨Q11, (Q5 HB GE141)⟩
 ·rw [if_neg c3] at h
  obtain rfl := Option.some.inj h; have A2 := am (show impl_within.f a0_0 0 8 = some false by unfold impl_within.f; split <;> simp; omega); clear c3 h
  go_enter Try.func71, Try.ntmps71
  go_wp2_with (first | ((with_reducible refine gate_dst (N := 1) rfl ?_); refine box_event ?hg (N := 1) ?hd (cs := #[.int .i64 a0_0, .slice A0_1 l0_1.length c0_1]) (t := 30) ?hr ?_; (case hd => rfl); (case hg => rfl); (case hr => first | (go_simp; done) | (go_simp; rfl)); intro gb141 hg w4 hbox hb; replace HB := am (below_step HB.out hb); have BK141 := am (hbox); have GE141 := am ((by rw [hg]; exact Nat.le_refl _) : w.heap.size ≤ gb141); clear hb hbox hg; have hcz5_0 : w4.cell? ⟨gb141, 0, none⟩ = some (.int .i64 a0_0) := (blk_cell BK141.out 0).trans rfl; have hcz5_1 : w4.cell? ⟨gb141, 1, none⟩ = some (.slice A0_1 l0_1.length c0_1) := (blk_cell BK141.out 1).trans rfl; have hfz5_0 := blk_frozen BK141.out 0; have hfz5_1 := blk_frozen BK141.out 1) | ((with_reducible refine gate_callee (f := 107) rfl ?_); refine goesL_ (some 7) rfl rfl Try.func107 (by kernel_rfl) rfl #[.int .i64 a0_0, .int .i64 0, .int .i64 8] rfl Q159 ?_; (with_reducible refine (impl_within.calls a0_0 0 8 false _ A2.out).mono ?_); rintro e w' ⟨rfl, ⟨nd, rfl⟩⟩; refine ⟨_, rfl, ?_⟩))
  go_ret
  exact ⟨Q11, (Q5 HB GE141)⟩
/-! ### impl_allWithin: function 190 -/
def impl_allWithin.l0 : Nat → Int → Int → List Int → Int → Int → Option (Bool)
 | 0, _, _, _, _, _ => none
 | k + 1, x1, x2, x9, x10, x11 => if x11 < x10 then (if 0 ≤ x11 then (if x11 < (x9.length : Int) then ((impl_within.f (rd x9 x11) x1 x2).bind fun t102 => (if t102 = true then (impl_allWithin.l0 k x1 x2 x9 x10 (wrap64 (x11 + 1))) else (some false))) else (none)) else (none)) else (some true)
def impl_allWithin.f (k : Nat) (l0 : List Int) (a1 : Int) (a2 : Int) : Option (Bool) := impl_allWithin.l0 k a1 a2 l0 (l0.length : Int) 0
theorem impl_allWithin.mono_l : ∀ k, (∀ y0 y1 y2 y3 y4, LeO (impl_allWithin.l0 k y0 y1 y2 y3 y4) (impl_allWithin.l0 (k + 1) y0 y1 y2 y3 y4))
 | 0 => fun _ _ _ _ _ r h => by simp [impl_allWithin.l0] at h
 | k + 1 => by
  have ih0 := impl_allWithin.mono_l k
  all_goals
   intros
   first | unfold impl_allWithin.l0
   repeat' first | (with_reducible first | exact ih0 _ _ _ _ _ | exact LeO.refl _ | exact LeO.none _ | refine LeO.ite ?_ ?_ | refine LeO.bind ?_ (fun _ => ?_))
theorem impl_allWithin.mono : ∀ a0 a1 a2 k, LeO (impl_allWithin.f k a0 a1 a2) (impl_allWithin.f (k + 1) a0 a1 a2) := by
 intro a0 a1 a2 k
 have ih0 := impl_allWithin.mono_l k
 unfold impl_allWithin.f
 repeat' first | (with_reducible first | exact ih0 _ _ _ _ _ | exact LeO.refl _ | exact LeO.none _ | refine LeO.ite ?_ ?_ | refine LeO.bind ?_ (fun _ => ?_))
set_option maxHeartbeats 8000000 in
set_option maxRecDepth 100000 in
theorem impl_allWithin.calls (k : Nat) (A0 : Option Addr) (c0 : Nat) (l0 : List Int) (a1 : Int) (a2 : Int) (r : Bool) (w : World) (hr0 : Kd.C (Kd.int .i64) w A0 l0.length l0) (hc0 : l0.length ≤ c0) (h : impl_allWithin.f k l0 a1 a2 = some r) :
  Calls Try.prog 190 #[.slice A0 l0.length c0, .int .i64 a1, .int .i64 a2] w fun e w' => e = .returned (.bool r) ∧ Drawn0 w w' := by
 have HR0 := Aside0.mk hr0
 have HC0 := Aside0.mk hc0
 clear hr0 hc0
 have H : (impl_allWithin.l0 k a1 a2 l0 (l0.length : Int) 0) = some r := h
 clear h
 have H' := Aside0.mk H
 clear H
 go_enter Try.func190, Try.ntmps190
 go_wp2
 go_loopg [11] k (fun kq v11 w' => ∃ (x11_1 : Int), v11 = .int .i64 x11_1 ∧ Aside0 (impl_allWithin.l0 kq a1 a2 l0 (l0.length : Int) x11_1 = some r) ∧ Aside0 (kq ≤ k) ∧ Drawn0 w w')
 case atStart => exact ⟨(0), Q11, H', ⟨Nat.le_refl _⟩, Q40⟩
 case round =>
  clear H'
  try clear c1
  try clear p2
  obtain ⟨x11_1, rfl, HA, HK1, ⟨m1, rfl⟩⟩ := hrel
  cases gk with
  | zero => exact absurd HA.out (by simp [impl_allWithin.l0])
  | succ k1 =>
   have H := HA.out; clear HA
   simp only [impl_allWithin.l0] at H
   by_cases c4 : x11_1 < (l0.length : Int)
   ·rw [if_pos c4] at H
    have c4b0 : decide (x11_1 < (l0.length : Int)) = true := decide_eq_true c4; clear c4
    by_cases c5 : 0 ≤ x11_1
    ·rw [if_pos c5] at H
     have c5b0 : decide (0 ≤ x11_1) = true := decide_eq_true c5; clear c5
     by_cases c6 : x11_1 < (l0.length : Int)
     ·rw [if_pos c6] at H
      have c6b0 : decide (x11_1 < (l0.length : Int)) = true := decide_eq_true c6; clear c6; replace H := (ob H); obtain ⟨t102, A70, H⟩ := H; (try dsimp only at H); have A7 := Aside0.mk A70; clear A70; have HU8 := Aside0.mk H; clear H; have p101 : 0 ≤ (x11_1 : Int) := of_decide_eq_true Q12; have q101 : x11_1 < (l0.length : Int) := of_decide_eq_true Q12; obtain ⟨ad101, e101, hx101_0⟩ := Kd.at_int HR0.out x11_1 p101 q101
      cases e101
      replace p101 := eq_true p101; replace q101 := eq_true q101
      go_upto_if 19 with (first | ((with_reducible refine gate_callee (f := 107) rfl ?_); refine goesL_ (some 18) rfl rfl Try.func107 (by kernel_rfl) rfl #[.int .i64 (rd l0 x11_1), .int .i64 a1, .int .i64 a2] rfl Q3 ?_; (with_reducible refine (impl_within.calls (rd l0 x11_1) a1 a2 t102 _ A7.out).mono ?_); rintro e w' ⟨rfl, ⟨nd, rfl⟩⟩; refine ⟨_, rfl, ?_⟩))
      (try simp only [Act.put, List.setIfInBounds_toArray, List.set_cons_zero, List.set_cons_succ]); have H := HU8.out; clear HU8
      by_cases c9 : t102 = true
      ·subst c9
       have H1 : (impl_allWithin.l0 k1 a1 a2 l0 (l0.length : Int) (wrap64 (x11_1 + 1))) = some r := by rw [if_pos rfl] at H; exact H
       clear H; have H := H1; clear H1; have H' := Aside0.mk H; clear H
       go_wp2
       go_roundg k1
       case measure => have := HK1.out; omega
       case rel => exact ⟨(wrap64 (x11_1 + 1)), Q11, H', ⟨Q95⟩, Q40⟩
      ·replace c9 := Bool.eq_false_iff.mpr c9
       subst c9; have H1 : (some false) = some r := by rw [if_neg (show ¬ (false = true) by decide)] at H; exact H
       clear H; have H := H1; clear H1; obtain rfl := Option.some.inj H
       go_wp2
       go_ret
       exact ⟨Q11, Q40⟩
     ·rw [if_neg c6] at H
      exact absurd H (by simp)
    ·rw [if_neg c5] at H
     exact absurd H (by simp)
   ·rw [if_neg c4] at H
    have c4b0 : decide (x11_1 < (l0.length : Int)) = false := decide_eq_false c4; clear c4; obtain rfl := Option.some.inj H
    go_wp2
    go_ret
    exact ⟨Q11, Q40⟩
/-! ### impl_hasNodes: function 123 -/
def impl_hasNodes.f (k : Nat) (a0_0 : Int) (l0_1 : List (S71)) (l1 : List Int) : Option (Bool) := (impl_IsGraph.f k a0_0 l0_1).bind fun t102 => (if t102 = true then ((impl_allWithin.f k l1 0 (wrap64 (a0_0 - 1))).bind fun t103 => (some t103)) else (some false))
theorem impl_hasNodes.mono : ∀ a0 a1 a2 k, LeO (impl_hasNodes.f k a0 a1 a2) (impl_hasNodes.f (k + 1) a0 a1 a2) := by
 intro a0 a1 a2 k
 unfold impl_hasNodes.f
 repeat' first | (with_reducible first | exact impl_IsGraph.mono _ _ _ | exact impl_allWithin.mono _ _ _ _ | exact LeO.refl _ | exact LeO.none _ | refine LeO.ite ?_ ?_ | refine LeO.bind ?_ (fun _ => ?_))
set_option maxHeartbeats 8000000 in
set_option maxRecDepth 100000 in
theorem impl_hasNodes.calls (k : Nat) (a0_0 : Int) (A0_1 : Option Addr) (c0_1 : Nat) (l0_1 : List (S71)) (A1 : Option Addr) (c1 : Nat) (l1 : List Int) (r : Bool) (w : World) (hr0_1 : Kd.C k71 w A0_1 l0_1.length l0_1) (hc0_1 : l0_1.length ≤ c0_1) (hr1 : Kd.C (Kd.int .i64) w A1 l1.length l1) (hc1 : l1.length ≤ c1) (h : impl_hasNodes.f k a0_0 l0_1 l1 = some r) :
  Calls Try.prog 123 #[.agg #[.int .i64 a0_0, .slice A0_1 l0_1.length c0_1], .slice A1 l1.length c1] w fun e w' => e = .returned (.bool r) ∧ Below w.heap.size w w' := by
 have hu30 := Try.underlying30
 have HR0_1 := Aside0.mk hr0_1
 have HC0_1 := Aside0.mk hc0_1
 clear hr0_1 hc0_1
 have HR1 := Aside0.mk hr1
 have HC1 := Aside0.mk hc1
 clear hr1 hc1
 have HB := am (Below.refl w.heap.size w)
 have H : ((impl_IsGraph.f k a0_0 l0_1).bind fun t102 => (if t102 = true then ((impl_allWithin.f k l1 0 (wrap64 (a0_0 - 1))).bind fun t103 => (some t103)) else (some false))) = some r := h
 clear h
 have HU3 := Aside0.mk H
 clear H
 go_enter Try.func123, Try.ntmps123
 go_upto_region 1 with (first | ((with_reducible refine gate_dst (N := 2) rfl ?_); refine box_event ?hg (N := 2) ?hd (cs := #[.int .i64 a0_0, .slice A0_1 l0_1.length c0_1]) (t := 30) ?hr ?_; (case hd => rfl); (case hg => rfl); (case hr => first | (go_simp; done) | (go_simp; rfl)); intro gb101 hg w4 hbox hb; have BK101 := am (hbox); have GW101 := am ((Q25 : w.heap.size ≤ gb101)); have GE101 := am ((Q25 : w.heap.size ≤ gb101)); replace HB := am (below_step (Q1 HB) hb); clear hb hbox hg))
 (try simp only [Act.put, List.setIfInBounds_toArray, List.set_cons_zero, List.set_cons_succ])
 have H := HU3.out
 clear HU3
 replace H := (ob H)
 obtain ⟨t102, A50, H⟩ := H
 (try dsimp only at H)
 have A5 := Aside0.mk A50
 clear A50
 by_cases c6 : t102 = true
 ·subst c6
  have H1 : ((impl_allWithin.f k l1 0 (wrap64 (a0_0 - 1))).bind fun t103 => (some t103)) = some r := by rw [if_pos rfl] at H; exact H
  clear H; have H := H1; clear H1; replace H := (ob H); obtain ⟨t103, A70, H⟩ := H; (try dsimp only at H); have A7 := Aside0.mk A70; clear A70; obtain rfl := Option.some.inj H; have hcz8_0 : w4.cell? ⟨gb101, 0, none⟩ = some (.int .i64 a0_0) := (blk_cell BK101.out 0).trans rfl; have hcz8_1 : w4.cell? ⟨gb101, 1, none⟩ = some (.slice A0_1 l0_1.length c0_1) := (blk_cell BK101.out 1).trans rfl; have hfz8_0 := blk_frozen BK101.out 0; have hfz8_1 := blk_frozen BK101.out 1
  go_wp2_with (first | ((with_reducible refine gate_callee (f := 71) rfl ?_); refine goesL_ (some 6) rfl rfl Try.func71 (by kernel_rfl) rfl #[.agg #[.int .i64 a0_0, .slice A0_1 l0_1.length c0_1]] rfl Q3 ?_; (with_reducible refine (impl_IsGraph.calls k a0_0 _ _ l0_1 true _ ?side1 ?side2 A5.out).mono ?_); (case side1 => exact (Q9 HR0_1 HB)); (case side2 => exact HC0_1.out); rintro e w9 ⟨rfl, hb⟩; refine ⟨_, rfl, ?_⟩; replace BK101 := am (blk_below (g := gb101) (o := .cells #[.int .i64 a0_0, .slice A0_1 l0_1.length c0_1] 30 (0, 0)) (Q0 BK101) hb); replace HB := am (below_step (Q1 HB) hb); (try clear hb); (try clear hb2); (try clear hk); (try clear hi); have hcz10_0 : w9.cell? ⟨gb101, 0, none⟩ = some (.int .i64 a0_0) := (blk_cell BK101.out 0).trans rfl; have hcz10_1 : w9.cell? ⟨gb101, 1, none⟩ = some (.slice A0_1 l0_1.length c0_1) := (blk_cell BK101.out 1).trans rfl; have hfz10_0 := blk_frozen BK101.out 0; have hfz10_1 := blk_frozen BK101.out 1) | (go_at_call 190; (with_reducible refine (impl_allWithin.calls k _ _ l1 0 (wrap64 (a0_0 - 1)) t103 _ ?side1 ?side2 A7.out).mono ?_); (case side1 => exact (Q9 HR1 HB)); (case side2 => exact HC1.out); rintro e w' ⟨rfl, ⟨nd, rfl⟩⟩))
  go_ret
  exact ⟨Q10, Q1 HB⟩
 ·replace c6 := Bool.eq_false_iff.mpr c6
  subst c6; have H1 : (some false) = some r := by rw [if_neg (show ¬ (false = true) by decide)] at H; exact H
  clear H; have H := H1; clear H1; obtain rfl := Option.some.inj H; have hcz11_0 : w4.cell? ⟨gb101, 0, none⟩ = some (.int .i64 a0_0) := (blk_cell BK101.out 0).trans rfl; have hcz11_1 : w4.cell? ⟨gb101, 1, none⟩ = some (.slice A0_1 l0_1.length c0_1) := (blk_cell BK101.out 1).trans rfl; have hfz11_0 := blk_frozen BK101.out 0; have hfz11_1 := blk_frozen BK101.out 1
  go_wp2_with (first | ((with_reducible refine gate_callee (f := 71) rfl ?_); refine goesL_ (some 6) rfl rfl Try.func71 (by kernel_rfl) rfl #[.agg #[.int .i64 a0_0, .slice A0_1 l0_1.length c0_1]] rfl Q3 ?_; (with_reducible refine (impl_IsGraph.calls k a0_0 _ _ l0_1 false _ ?side1 ?side2 A5.out).mono ?_); (case side1 => exact (Q9 HR0_1 HB)); (case side2 => exact HC0_1.out); rintro e w12 ⟨rfl, hb⟩; refine ⟨_, rfl, ?_⟩; replace BK101 := am (blk_below (g := gb101) (o := .cells #[.int .i64 a0_0, .slice A0_1 l0_1.length c0_1] 30 (0, 0)) (Q0 BK101) hb); replace HB := am (below_step (Q1 HB) hb); (try clear hb); (try clear hb2); (try clear hk); (try clear hi)))
  go_ret
  exact ⟨Q10, Q1 HB⟩
/-! ### impl_net_all: function 117 -/
def impl_net_all.f (l0_0 : List Int) : Option (Int) := some (wrap64 ((shl .i64 1 (l0_0.length : Int)) - 1))
set_option maxHeartbeats 8000000 in
set_option maxRecDepth 100000 in
theorem impl_net_all.calls (A0_0 : Option Addr) (c0_0 : Nat) (l0_0 : List Int) (r : Int) (w : World) (hr0_0 : Kd.C (Kd.int .i64) w A0_0 l0_0.length l0_0) (hc0_0 : l0_0.length ≤ c0_0) (h : impl_net_all.f l0_0 = some r) :
  Calls Try.prog 117 #[.agg #[.slice A0_0 l0_0.length c0_0]] w fun e w' => e = .returned (.int .i64 r) ∧ Below w.heap.size w w' := by
 have hu90 := Try.underlying90
 have HR0_0 := Aside0.mk hr0_0
 have HC0_0 := Aside0.mk hc0_0
 clear hr0_0 hc0_0
 have HB := am (Below.refl w.heap.size w)
 have H : (some (wrap64 ((shl .i64 1 (l0_0.length : Int)) - 1))) = some r := h
 clear h
 obtain ⟨ji2, hji2⟩ : ∃ j_ : Int, (shl .i64 1 (l0_0.length : Int)) = j_ := ⟨_, rfl⟩
 replace H : (some (wrap64 ((ji2) - 1))) = some r := by first | (rw [hji2] at H; exact H) | (simp only [hji2] at H ⊢; exact H)
 have hji2_ : (IntKind.i64.wrap (1 * 2 ^ min (l0_0.length : Int).toNat 64)) = ji2 := hji2
 have hji2z : (l0_0.length : Int) ≤ 64 → (IntKind.i64.wrap (1 * 2 ^ (l0_0.length : Int).toNat)) = ji2 := shl_small hji2
 have hji2p : (IntKind.i64.wrap (1 * 2 ^ min l0_0.length 64)) = ji2 := hji2_
 have hji2q : (l0_0.length : Int) ≤ 64 → (IntKind.i64.wrap (1 * 2 ^ l0_0.length)) = ji2 := hji2z
 have hji2r : (IntKind.i64.wrap (2 ^ min l0_0.length 64)) = ji2 := by have h_ := hji2p; rw [Int.one_mul] at h_; exact h_
 have hji2s : (l0_0.length : Int) ≤ 64 → (IntKind.i64.wrap (2 ^ l0_0.length)) = ji2 := fun hle_ => by have h_ := hji2q hle_; rw [Int.one_mul] at h_; exact h_
 have hji2u : (IntKind.i64.wrap (2 ^ min (l0_0.length : Int).toNat 64)) = ji2 := by have h_ := hji2_; rw [Int.one_mul] at h_; exact h_
 have hji2v : (l0_0.length : Int) ≤ 64 → (IntKind.i64.wrap (2 ^ (l0_0.length : Int).toNat)) = ji2 := fun hle_ => by have h_ := hji2z hle_; rw [Int.one_mul] at h_; exact h_
 have hji2y : (wrap64 (1 * 2 ^ min (l0_0.length : Int).toNat 64)) = ji2 := (i64_w _).symm.trans hji2_
 have hji2x : (l0_0.length : Int) ≤ 64 → (wrap64 (1 * 2 ^ (l0_0.length : Int).toNat)) = ji2 := fun h_ => (i64_w _).symm.trans (hji2z h_)
 obtain rfl := Option.some.inj H
 go_enter Try.func117, Try.ntmps117
 go_wp2_with (first | ((with_reducible refine gate_dst (N := 1) rfl ?_); refine box_event ?hg (N := 1) ?hd (cs := #[.slice A0_0 l0_0.length c0_0]) (t := 90) ?hr ?_; (case hd => rfl); (case hg => rfl); (case hr => first | (go_simp; done) | (go_simp; rfl)); intro gb101 hg w3 hbox hb; have BK101 := am (hbox); have GW101 := am ((Q25 : w.heap.size ≤ gb101)); have GE101 := am ((Q25 : w.heap.size ≤ gb101)); replace HB := am (below_step (Q1 HB) hb); clear hb hbox hg; have hcz4_0 : w3.cell? ⟨gb101, 0, none⟩ = some (.slice A0_0 l0_0.length c0_0) := (blk_cell BK101.out 0).trans rfl; have hfz4_0 := blk_frozen BK101.out 0))
 go_ret
 exact ⟨by first | rfl | (simp [errW_none, errW_some] <;> rfl) | (simp only [← hji2]; first | rfl | (simp [errW_none, errW_some] <;> rfl)) | (simp [*, errW_none, errW_some] <;> rfl), Q1 HB⟩
/-! ### impl_setOf: function 122 -/
def impl_setOf.l0 : Nat → Int → List Int → Int → Option (List Int)
 | 0, _, _, _ => none
 | k + 1, x0, x3, x4 => if 0 ≤ x4 then (if (shr .i64 x0 x4) = 0 then (some x3) else (if (Go.bits .and .i64 (shr .i64 x0 x4) 1) = 1 then (if x3.length < 17592186044416 then (impl_setOf.l0 k x0 (x3 ++ [x4]) (wrap64 (x4 + 1))) else (none)) else (impl_setOf.l0 k x0 x3 (wrap64 (x4 + 1))))) else (none)
def impl_setOf.f (k : Nat) (a0 : Int) : Option (List Int) := impl_setOf.l0 k a0 ([] : List Int) 0
theorem impl_setOf.mono_l : ∀ k, (∀ y0 y1 y2, LeO (impl_setOf.l0 k y0 y1 y2) (impl_setOf.l0 (k + 1) y0 y1 y2))
 | 0 => fun _ _ _ r h => by simp [impl_setOf.l0] at h
 | k + 1 => by
  have ih0 := impl_setOf.mono_l k
  all_goals
   intros
   first | unfold impl_setOf.l0
   repeat' first | (with_reducible first | exact ih0 _ _ _ | exact LeO.refl _ | exact LeO.none _ | refine LeO.ite ?_ ?_ | refine LeO.bind ?_ (fun _ => ?_))
theorem impl_setOf.mono : ∀ a0 k, LeO (impl_setOf.f k a0) (impl_setOf.f (k + 1) a0) := by
 intro a0 k
 have ih0 := impl_setOf.mono_l k
 unfold impl_setOf.f
 repeat' first | (with_reducible first | exact ih0 _ _ _ | exact LeO.refl _ | exact LeO.none _ | refine LeO.ite ?_ ?_ | refine LeO.bind ?_ (fun _ => ?_))
set_option maxHeartbeats 8000000 in
set_option maxRecDepth 100000 in
theorem impl_setOf.calls (k : Nat) (a0 : Int) (r : List Int) (w : World) (h : impl_setOf.f k a0 = some r) :
  Calls Try.prog 122 #[.int .i64 a0] w fun e w' => ∃ v0_ : Value, e = .returned (v0_) ∧ Kd.R (Kd.int .i64) 3 w' w.heap.size (fun _ => True) v0_ r ∧ Below w.heap.size w w' := by
 have HB := am (Below.refl w.heap.size w)
 have H : (impl_setOf.l0 k a0 ([] : List Int) 0) = some r := h
 clear h
 have H' := Aside0.mk H
 clear H
 go_enter Try.func122, Try.ntmps122
 go_wp2
 go_loopg [3, 4] k (fun kq v3 v4 w' => ∃ (x3_1 : List Int) (x4_1 : Int), v4 = .int .i64 x4_1 ∧ Aside0 (impl_setOf.l0 kq a0 x3_1 x4_1 = some r) ∧ Aside0 (kq ≤ k) ∧ Aside0 (Kd.R (Kd.int .i64) 3 w' w.heap.size (fun _ => True) v3 x3_1) ∧ Aside0 (Below w.heap.size w w'))
 case atStart => exact ⟨(([] : List Int)), (0), Q11, H', ⟨Nat.le_refl _⟩, ⟨Q43⟩, ⟨Q1 HB⟩⟩
 case round =>
  clear H'
  try clear c1
  obtain ⟨x3_1, x4_1, rfl, HA, HK1, HO_3, HB⟩ := hrel
  cases gk with
  | zero => exact absurd HA.out (by simp [impl_setOf.l0])
  | succ k1 =>
   have H := HA.out; clear HA
   simp only [impl_setOf.l0] at H
   by_cases c2 : 0 ≤ x4_1
   ·rw [if_pos c2] at H
    have c2b0 := eq_true c2; have c2b1 := decide_eq_true c2; clear c2; obtain ⟨ji3, hji3⟩ : ∃ j_ : Int, (shr .i64 a0 x4_1) = j_ := ⟨_, rfl⟩; replace H : (if (ji3) = 0 then (some x3_1) else (if (Go.bits .and .i64 (ji3) 1) = 1 then (if x3_1.length < 17592186044416 then (impl_setOf.l0 k1 a0 (x3_1 ++ [x4_1]) (wrap64 (x4_1 + 1))) else (none)) else (impl_setOf.l0 k1 a0 x3_1 (wrap64 (x4_1 + 1))))) = some r := by first | (rw [hji3] at H; exact H) | (simp only [hji3] at H ⊢; exact H)
    have hji3_ : (a0 / 2 ^ min x4_1.toNat 64) = ji3 := hji3; have hji3z : x4_1 ≤ 64 → (a0 / 2 ^ x4_1.toNat) = ji3 := shr_small hji3
    by_cases c4 : (ji3) = 0
    ·rw [if_pos c4] at H
     have c4b0 := beq_iff_eq.mpr c4; have c4b1 := bne_eq_false_iff_eq.mpr c4; clear c4; obtain rfl := Option.some.inj H
     go_wp2
     go_ret
     exact ⟨_, Q170, Q164, Q1 HB⟩
    ·rw [if_neg c4] at H
     have c4b0 := beq_eq_false_iff_ne.mpr c4; have c4b1 := bne_iff_ne.mpr c4; have c5b0 := eq_true (of_decide_eq_true Q12 : 0 ≤ x4_1)
     by_cases c6 : (Go.bits .and .i64 (ji3) 1) = 1
     ·rw [if_pos c6] at H
      have c6b0 := beq_iff_eq.mpr c6; have c6b1 := bne_eq_false_iff_eq.mpr c6; clear c6
      by_cases c7 : x3_1.length < 17592186044416
      ·rw [if_pos c7] at H
       have LMc7 := Aside0.mk c7; clear c7; obtain ⟨y101, hy101⟩ : ∃ y_ : List Int, y_ = (x3_1 ++ [x4_1]) := ⟨_, rfl⟩; replace H : (impl_setOf.l0 k1 a0 y101 (wrap64 (x4_1 + 1))) = some r := RH hy101 H; have Ny101 := Aside0.mk hy101; clear hy101; have H' := Aside0.mk H; clear H
       go_wp2_with (first | ((with_reducible refine gate_builtin (b := .append) (xs := #[.tmp 16, .tmp 18]) rfl ?_); at_builtin; refine Kd.R_append (Kd.int .i64) (w0 := w) w.heap.size rfl (.tmp 16) (.tmp 18) 25 3 (.int .i64 0) 8 rfl Try.underlying25 info3 rfl (by decide) (by omega) u3 x3_1 x4_1 [.int .i64 x4_1] (fun _ => True) (fun _ => False) rfl rfl ?aP (fun _ hk => hk.elim) ?aF ?aO ?aB ?aS ?aL ?_; (case aP => exact rfl); (case aB => exact (Q1 HB)); (case aF => exact (fun _ _ => trivial)); (case aO => exact Q164); (case aS => exact (below_size (Q1 HB))); (case aL => have := LMc7.out; omega); intro v102 w8 ho hb hg hat; rw [← Ny101.out] at ho; replace HB := am (hb); have HO103 := am (ho); clear HO_3; clear ho hb hg hat))
       go_roundg k1
       case measure => have := HK1.out; omega
       case rel => exact ⟨(y101), (wrap64 (x4_1 + 1)), Q11, H', ⟨Q95⟩, ⟨Q6 HO103⟩, ⟨Q1 HB⟩⟩
      ·rw [if_neg c7] at H
       exact absurd H (by simp)
     ·rw [if_neg c6] at H
      have c6b0 := beq_eq_false_iff_ne.mpr c6; have c6b1 := bne_iff_ne.mpr c6; have H' := Aside0.mk H; clear H
      go_wp2
      go_roundg k1
      case measure => have := HK1.out; omega
      case rel => exact ⟨(x3_1), (wrap64 (x4_1 + 1)), Q11, H', ⟨Q95⟩, ⟨Q164⟩, ⟨Q1 HB⟩⟩
   ·rw [if_neg c2] at H
    exact absurd H (by simp)
/-! ### impl_net_has: function 136 -/
def impl_net_has.f (l0_0 : List Int) (a1 : Int) (a2 : Int) : Option (Bool) := if 0 ≤ a1 then (if a1 < (l0_0.length : Int) then (if 0 ≤ a2 then (some ((Go.bits .and .i64 (shr .i64 (rd l0_0 a1) a2) 1) == 1)) else (none)) else (none)) else (none)
set_option maxHeartbeats 8000000 in
set_option maxRecDepth 100000 in
theorem impl_net_has.calls (A0_0 : Option Addr) (c0_0 : Nat) (l0_0 : List Int) (a1 : Int) (a2 : Int) (r : Bool) (w : World) (hr0_0 : Kd.C (Kd.int .i64) w A0_0 l0_0.length l0_0) (hc0_0 : l0_0.length ≤ c0_0) (h : impl_net_has.f l0_0 a1 a2 = some r) :
  Calls Try.prog 136 #[.agg #[.slice A0_0 l0_0.length c0_0], .int .i64 a1, .int .i64 a2] w fun e w' => e = .returned (.bool r) ∧ Below w.heap.size w w' := by
 have hu90 := Try.underlying90
 have HR0_0 := Aside0.mk hr0_0
 have HC0_0 := Aside0.mk hc0_0
 clear hr0_0 hc0_0
 have HB := am (Below.refl w.heap.size w)
 have H : (if 0 ≤ a1 then (if a1 < (l0_0.length : Int) then (if 0 ≤ a2 then (some ((Go.bits .and .i64 (shr .i64 (rd l0_0 a1) a2) 1) == 1)) else (none)) else (none)) else (none)) = some r := h
 clear h
 by_cases c4 : 0 ≤ a1
 ·rw [if_pos c4] at H
  have c4b0 : decide (0 ≤ a1) = true := decide_eq_true c4; clear c4
  by_cases c5 : a1 < (l0_0.length : Int)
  ·rw [if_pos c5] at H
   have c5b0 := decide_eq_true c5; clear c5
   by_cases c6 : 0 ≤ a2
   ·rw [if_pos c6] at H
    have c6b0 := eq_true c6; have c6b1 : decide (0 ≤ a2) = true := decide_eq_true c6; clear c6; obtain ⟨ji7, hji7⟩ : ∃ j_ : Int, (shr .i64 (rd l0_0 a1) a2) = j_ := ⟨_, rfl⟩; replace H : (some ((Go.bits .and .i64 (ji7) 1) == 1)) = some r := by first | (rw [hji7] at H; exact H) | (simp only [hji7] at H ⊢; exact H)
    have hji7_ : ((rd l0_0 a1) / 2 ^ min a2.toNat 64) = ji7 := hji7; have hji7z : a2 ≤ 64 → ((rd l0_0 a1) / 2 ^ a2.toNat) = ji7 := shr_small hji7; obtain rfl := Option.some.inj H
    go_enter Try.func136, Try.ntmps136
    go_wp2_with (first | ((with_reducible refine gate_dst (N := 3) rfl ?_); refine box_event ?hg (N := 3) ?hd (cs := #[.slice A0_0 l0_0.length c0_0]) (t := 90) ?hr ?_; (case hd => rfl); (case hg => rfl); (case hr => first | (go_simp; done) | (go_simp; rfl)); intro gb101 hg w8 hbox hb; have BK101 := am (hbox); have GW101 := am ((Q25 : w.heap.size ≤ gb101)); have GE101 := am ((Q25 : w.heap.size ≤ gb101)); replace HB := am (below_step (Q1 HB) hb); clear hb hbox hg; have hcz9_0 : w8.cell? ⟨gb101, 0, none⟩ = some (.slice A0_0 l0_0.length c0_0) := (blk_cell BK101.out 0).trans rfl; have hfz9_0 := blk_frozen BK101.out 0; have p102 : 0 ≤ (a1 : Int) := of_decide_eq_true Q12; have q102 : a1 < (l0_0.length : Int) := of_decide_eq_true Q12; obtain ⟨ad102, e102, hx102_0⟩ := Kd.at_int HR0_0.out a1 p102 q102; cases e102; replace hx102_0 := (HB.out.cell (World.block_lt_of_cell? w _ hx102_0)).trans hx102_0; replace p102 := eq_true p102; replace q102 := eq_true q102))
    go_ret
    exact ⟨by first | rfl | (simp [errW_none, errW_some] <;> rfl) | (simp only [← hji7]; first | rfl | (simp [errW_none, errW_some] <;> rfl)) | (simp [*, errW_none, errW_some] <;> rfl), Q1 HB⟩
   ·rw [if_neg c6] at H
    exact absurd H (by simp)
  ·rw [if_neg c5] at H
   exact absurd H (by simp)
 ·rw [if_neg c4] at H
  exact absurd H (by simp)
/-! ### impl_graphBy: function 108 -/
/-- A closure answers for all pairs within the bounds. -/
def okBy (c : Int → Int → Option Bool) (n : Int) : Bool := (List.range n.toNat).all fun y => (List.range y).all fun x => (c x y).isSome
theorem okBy_spec {c : Int → Int → Option Bool} {n x y : Int} (h : okBy c n = true) (hx : 0 ≤ x) (hxy : x < y) (hy : y < n) : c x y = some ((c x y).getD false) := by
 unfold okBy at h
 rw [List.all_eq_true] at h
 have h1 := h y.toNat (by rw [List.mem_range]; omega)
 rw [List.all_eq_true] at h1
 have h2 := h1 x.toNat (by rw [List.mem_range]; omega)
 rw [Int.toNat_of_nonneg hx, Int.toNat_of_nonneg (by omega)] at h2
 obtain ⟨b, hb⟩ := Option.isSome_iff_exists.1 h2
 rw [hb]
 rfl
mutual
def impl_graphBy.l0 : Nat → (Int → Int → Bool) → Int → Int → List (S71) → Option (List (S71))
 | 0, _, _, _, _ => none
 | k + 1, h, n, x, es => if x < n then (impl_graphBy.l1 k h n x (wrap64 (x + 1)) es) else (some es)
def impl_graphBy.l1 : Nat → (Int → Int → Bool) → Int → Int → Int → List (S71) → Option (List (S71))
 | 0, _, _, _, _, _ => none
 | k + 1, h, n, x, y, es => if y < n then (if h x y = true then (if es.length < 8796093022208 then (impl_graphBy.l1 k h n x (wrap64 (y + 1)) (es ++ [(⟨x, y⟩ : S71)])) else none) else (impl_graphBy.l1 k h n x (wrap64 (y + 1)) es)) else (impl_graphBy.l0 k h n (wrap64 (x + 1)) es)
end
def impl_graphBy.f (k : Nat) (h : Int → Int → Bool) (n : Int) : Option (List (S71)) := impl_graphBy.l0 k h n 0 []
set_option maxHeartbeats 8000000 in
set_option maxRecDepth 100000 in
/-- What a call of graphBy does, for any function value of which each call within the bounds answers as 'h' says and only makes memory. -/
theorem impl_graphBy.gen (k : Nat) (h : Int → Int → Bool) (a0 : Int) (F : Nat) (fi cp : Array Value) (r : List (S71)) (w : World) (ha : 0 ≤ a0 ∧ a0 ≤ 1000) (hHas : Own.Has Try.prog F)
  (hF : ∀ (x y : Int) (W : World), 0 ≤ x → x < y → y < a0 → Below w.heap.size w W → Calls Try.prog F (fi ++ #[.int .i64 x, .int .i64 y] ++ cp) W fun e W' => e = .returned (.bool (h x y)) ∧ Below W.heap.size W W')
  (hr : impl_graphBy.f k h a0 = some r) :
  Calls Try.prog 108 #[.int .i64 a0, .func (.func F) fi cp] w fun e w' => ∃ v1_ : Value, e = .returned (.agg #[.int .i64 a0, v1_]) ∧ Kd.R k71 71 w' w.heap.size (fun _ => True) v1_ r ∧ Below w.heap.size w w' := by
 have hu29 := Try.underlying30
 have hu57 := Try.underlying71
 have HA0 := Aside0.mk ha
 clear ha
 have HF := Aside0.mk hF
 clear hF
 have HHas := Aside0.mk hHas
 clear hHas
 have HB := am (Below.refl w.heap.size w)
 have H' := am (show impl_graphBy.l0 k h a0 0 [] = some r from hr)
 clear hr
 go_enter Try.func108, Try.ntmps108
 go_wp2_with (first | ((with_reducible refine gate_dst (N := 4) rfl ?_); refine box_event ?hg (N := 4) ?hd (cs := #[.int .i64 0, .slice none 0 0]) (t := 30) ?hr ?_; (case hd => rfl); (case hg => rfl); (case hr => first | (go_simp; done) | (go_simp; rfl)); intro gb140 hg w2 hbox hb; replace HB := am (below_step HB.out hb); have BK140 := am (hbox); have GE140 := am ((by rw [hg]; exact (Nat.le_refl _)) : w.heap.size ≤ gb140); clear hb hbox hg) | ((with_reducible refine gate_dst (N := 5) rfl ?_); refine box_event ?hg (N := 5) ?hd (cs := #[.int .i64 0, .slice none 0 0]) (t := 30) ?hr ?_; (case hd => rfl); (case hg => rfl); (case hr => first | (go_simp; done) | (go_simp; rfl)); intro gb144 hg w6 hbox hb; have nn1_ := am ((by rw [hg]; exact Nat.ne_of_lt (blk_lt BK140.out)) : gb140 ≠ gb144); have nn2_ := am ((by rw [hg]; exact Nat.ne_of_gt (blk_lt BK140.out)) : gb144 ≠ gb140); have n1_ := am (blk_below (g := gb140) (o := .cells #[.int .i64 0, .slice none 0 0] 30 (0, 0)) BK140.out hb); have n3_ := am (hbox); have n4_ := am ((by rw [hg]; exact HB.out.size) : w.heap.size ≤ gb144); have n2_ := am (below_step HB.out hb); clear BK140; clear HB; have BK140 := n1_; have BK144 := n3_; have GE144 := n4_; have HB := n2_; have NB140_144 := nn1_; have NB144_140 := nn2_; clear nn1_ nn2_; clear n1_ n2_ n3_ n4_; clear hb hbox hg; have hcz7_0 : w6.cell? ⟨gb144, 0, none⟩ = some (.int .i64 0) := (blk_cell BK144.out 0).trans rfl; have hcz7_1 : w6.cell? ⟨gb144, 1, none⟩ = some (.slice none 0 0) := (blk_cell BK144.out 1).trans rfl; have hfz7_0 := blk_frozen BK144.out 0; have hfz7_1 := blk_frozen BK144.out 1))
 go_loopg [11] k (fun kq v11 w' => ∃ (x : Int) (es : List (S71)) (u : Value), v11 = .int .i64 x ∧ Aside0 (impl_graphBy.l0 kq h a0 x es = some r) ∧ Aside0 (kq ≤ k) ∧ Aside0 (0 ≤ x) ∧ Aside0 (Kd.R k71 71 w' w.heap.size (fun _ => True) u es) ∧ Aside0 (w'.heap[gb140]? = some (.cells #[.int .i64 0, .slice none 0 0] 30 (0, 0))) ∧ Aside0 (w'.heap[gb144]? = some (.cells #[.int .i64 a0, u] 30 (0, 0))) ∧ Aside0 (Below w.heap.size w w'))
 case atStart => exact ⟨0, [], .slice none 0 0, Q11, H', ⟨Nat.le_refl _⟩, ⟨Int.le_refl _⟩, ⟨Kd.R_nil _ _ _ _ _⟩, ⟨Q2 NB140_144 BK140⟩, ⟨Q32 BK144⟩, ⟨Q5 HB GE144⟩⟩
 case round =>
  clear H'
  try clear hcz7_0
  try clear hcz7_1
  try clear hfz7_0
  try clear hfz7_1
  obtain ⟨x, es, u, rfl, HA, HK1, HX, HO, BK140, BK144, HB⟩ := hrel
  cases gk with
  | zero => exact absurd HA.out (by simp [impl_graphBy.l0])
  | succ k1 =>
   have H := HA.out; clear HA
   simp only [impl_graphBy.l0] at H
   by_cases c9 : x < a0
   ·rw [if_pos c9] at H
    have c9b0 := decide_eq_true c9; have HXn := Aside0.mk c9; clear c9; have H' := Aside0.mk H; clear H
    go_wp2
    go_loopg [7] k1 (fun kq v7 w' => ∃ (y : Int) (es : List (S71)) (u : Value), v7 = .int .i64 y ∧ Aside0 (impl_graphBy.l1 kq h a0 x y es = some r) ∧ Aside0 (kq ≤ k1) ∧ Aside0 (x < y) ∧ Aside0 (Kd.R k71 71 w' w.heap.size (fun _ => True) u es) ∧ Aside0 (w'.heap[gb140]? = some (.cells #[.int .i64 0, .slice none 0 0] 30 (0, 0))) ∧ Aside0 (w'.heap[gb144]? = some (.cells #[.int .i64 a0, u] 30 (0, 0))) ∧ Aside0 (Below w.heap.size w w'))
    case atStart => exact ⟨(wrap64 (x + 1)), es, u, Q11, H', ⟨Nat.le_refl _⟩, ⟨by have h1 := HX.out; have h2 := HXn.out; have h3 := HA0.out; unfold wrap64; omega⟩, ⟨Q93⟩, ⟨Q0 BK140⟩, ⟨Q0 BK144⟩, ⟨Q5 HB GE144⟩⟩
    case round =>
     clear H'
     try clear c9b0
     obtain ⟨y, es, u, rfl, HA, HK2, HXY, HO, BK140, BK144, HB⟩ := hrel
     cases gk with
     | zero => exact absurd HA.out (by simp [impl_graphBy.l1])
     | succ k2 =>
      have H := HA.out; clear HA
      simp only [impl_graphBy.l1] at H
      by_cases c10 : y < a0
      ·rw [if_pos c10] at H
       have c10b0 := decide_eq_true c10; have HYn := Aside0.mk c10; clear c10
       by_cases c12 : h x y = true
       ·rw [if_pos c12] at H
        by_cases c11 : es.length < 8796093022208
        ·rw [if_pos c11] at H
         have LMc11 := Aside0.mk c11; clear c11; obtain ⟨y145, hy145⟩ : ∃ y_ : List (S71), y_ = (es ++ [(⟨x, y⟩ : S71)]) := ⟨_, rfl⟩; rw [← hy145] at H; have Ny145 := Aside0.mk hy145; clear hy145; have H' := Aside0.mk H; clear H
         go_wp2_with (first | ((with_reducible refine gate_dst (N := 24) rfl ?_); refine Own.goesC_ (some 24) rfl rfl HHas.out #[.int .i64 x, .int .i64 y] rfl rfl Q159 ?_; refine (HF.out x y _ HX.out HXY.out HYn.out (Q5 HB GE144)).mono ?_; rintro e w12 ⟨he_, hb⟩; rw [c12] at he_; subst he_; refine ⟨_, rfl, ?_⟩; replace HO := am (Kd.R_below Q93 hb); replace BK140 := am (blk_below (g := gb140) (o := .cells #[.int .i64 0, .slice none 0 0] 30 (0, 0)) (Q0 BK140) hb); replace BK144 := am (blk_below (g := gb144) (o := .cells #[.int .i64 a0, u] 30 (0, 0)) (Q0 BK144) hb); replace HB := am (below_step (Q5 HB GE144) hb); have hcz13_0 : w12.cell? ⟨gb144, 0, none⟩ = some (.int .i64 a0) := (blk_cell BK144.out 0).trans rfl; have hcz13_1 : w12.cell? ⟨gb144, 1, none⟩ = some u := (blk_cell BK144.out 1).trans rfl; have hfz13_0 := blk_frozen BK144.out 0; have hfz13_1 := blk_frozen BK144.out 1) | ((with_reducible refine gate_builtin (b := .append) (xs := #[.tmp 26, .tmp 30]) rfl ?_); at_builtin; refine Kd.R_append k71 (w0 := w) w.heap.size rfl (.tmp 26) (.tmp 30) 22 71 (.agg #[(.int .i64 0), (.int .i64 0)]) 16 rfl Try.underlying22 info71 rfl (by decide) (by omega) u es (⟨x, y⟩ : S71) [.int .i64 x, .int .i64 y] (fun _ => True) (fun _ => False) rfl rfl ?aP (fun _ hk => hk.elim) ?aF ?aO ?aB ?aS ?aL ?_; (case aP => exact k71_mkM _ _ _ (⟨x, y⟩ : S71)); (case aB => exact (Q5 HB GE144)); (case aF => exact (fun _ _ => trivial)); (case aO => exact Q93); (case aS => exact (below_size (Q5 HB GE144))); (case aL => have := LMc11.out; omega); intro v146 w14 ho hb hg hat; rw [← Ny145.out] at ho; replace BK140 := am (blk_grown (g := gb140) (o := .cells #[.int .i64 0, .slice none 0 0] 30 (0, 0)) (Q0 BK140) hg (Kd.R_ne HO.out BK140.out (by decide))); replace BK144 := am (blk_grown (g := gb144) (o := .cells #[.int .i64 a0, u] 30 (0, 0)) (Q0 BK144) hg (Kd.R_ne HO.out BK144.out (by decide))); replace HB := am (hb); have HO147 := am (ho); clear HO; clear ho hb hg hat; obtain ⟨Ao15, co15, eo15⟩ := Kd.R_slice HO147.out; subst eo15; have hcz16_0 : w14.cell? ⟨gb144, 0, none⟩ = some (.int .i64 a0) := (blk_cell BK144.out 0).trans rfl; have hcz16_1 : w14.cell? ⟨gb144, 1, none⟩ = some u := (blk_cell BK144.out 1).trans rfl; have hfz16_0 := blk_frozen BK144.out 0; have hfz16_1 := blk_frozen BK144.out 1))
         go_roundg k2
         case measure => have := HK1.out; have := HK2.out; omega
         case rel => exact ⟨(wrap64 (y + 1)), y145, (.slice Ao15 y145.length co15), Q11, H', ⟨Q111⟩, ⟨by have h1 := HXY.out; have h2 := HYn.out; have h3 := HA0.out; have h4 := HX.out; unfold wrap64; omega⟩, ⟨by (with_reducible repeat (first | apply Kd.R_alloc | apply Kd.R_drewN | apply Kd.R_drew)); exact Kd.R_mono (Kd.R_far (p := ⟨gb144, 1, none⟩) (Kd.R_types HO147.out BK144.out (by decide)) (fun _ hk => hk.2) (.slice Ao15 y145.length co15)) (fun _ hk => trivial)⟩, ⟨Q27 NB140_144 BK140⟩, ⟨by (with_reducible repeat (first | refine blk_drewN ?_ _ | refine blk_drew ?_ | refine blk_alloc ?_ _)); refine blk_put (cs := #[.int .i64 a0, u]) ?_ 1 _ rfl; (with_reducible repeat (first | refine blk_drewN ?_ _ | refine blk_drew ?_ | refine blk_alloc ?_ _)); exact BK144.out⟩, ⟨Q5 HB GE144⟩⟩
        ·rw [if_neg c11] at H
         exact absurd H (by simp)
       ·rw [if_neg c12] at H
        replace c12 := Bool.eq_false_iff.mpr c12; have H' := Aside0.mk H; clear H
        go_wp2_with (first | ((with_reducible refine gate_dst (N := 24) rfl ?_); refine Own.goesC_ (some 24) rfl rfl HHas.out #[.int .i64 x, .int .i64 y] rfl rfl Q159 ?_; refine (HF.out x y _ HX.out HXY.out HYn.out (Q5 HB GE144)).mono ?_; rintro e w12 ⟨he_, hb⟩; rw [c12] at he_; subst he_; refine ⟨_, rfl, ?_⟩; replace HO := am (Kd.R_below Q93 hb); replace BK140 := am (blk_below (g := gb140) (o := .cells #[.int .i64 0, .slice none 0 0] 30 (0, 0)) (Q0 BK140) hb); replace BK144 := am (blk_below (g := gb144) (o := .cells #[.int .i64 a0, u] 30 (0, 0)) (Q0 BK144) hb); replace HB := am (below_step (Q5 HB GE144) hb); have hcz13_0 : w12.cell? ⟨gb144, 0, none⟩ = some (.int .i64 a0) := (blk_cell BK144.out 0).trans rfl; have hcz13_1 : w12.cell? ⟨gb144, 1, none⟩ = some u := (blk_cell BK144.out 1).trans rfl; have hfz13_0 := blk_frozen BK144.out 0; have hfz13_1 := blk_frozen BK144.out 1))
        go_roundg k2
        case measure => have := HK1.out; have := HK2.out; omega
        case rel => exact ⟨(wrap64 (y + 1)), es, u, Q11, H', ⟨Q111⟩, ⟨by have h1 := HXY.out; have h2 := HYn.out; have h3 := HA0.out; have h4 := HX.out; unfold wrap64; omega⟩, ⟨Q93⟩, ⟨Q0 BK140⟩, ⟨Q0 BK144⟩, ⟨Q5 HB GE144⟩⟩
      ·rw [if_neg c10] at H
       have c10b0 := decide_eq_false c10; clear c10; have H' := Aside0.mk H; clear H
       go_wp2
       go_roundg k2
       case measure => have := HK1.out; have := HK2.out; omega
       case rel => exact ⟨(wrap64 (x + 1)), es, u, Q11, H', ⟨Q111⟩, ⟨by have h1 := HX.out; have h2 := HXn.out; have h3 := HA0.out; unfold wrap64; omega⟩, ⟨Q93⟩, ⟨Q0 BK140⟩, ⟨Q0 BK144⟩, ⟨Q5 HB GE144⟩⟩
   ·rw [if_neg c9] at H
    have c9b0 := decide_eq_false c9; clear c9; obtain rfl := Option.some.inj H; have hnb17 := NB144_140.out; have hnc17 := NB140_144.out; have hcz18_0 : wr.cell? ⟨gb144, 0, none⟩ = some (.int .i64 a0) := (blk_cell BK144.out 0).trans rfl; have hcz18_1 : wr.cell? ⟨gb144, 1, none⟩ = some (u) := (blk_cell BK144.out 1).trans rfl; have hfz18_0 := blk_frozen BK144.out 0; have hfz18_1 := blk_frozen BK144.out 1; have hcz19_0 : wr.cell? ⟨gb140, 0, none⟩ = some (.int .i64 0) := (blk_cell BK140.out 0).trans rfl; have hcz19_1 : wr.cell? ⟨gb140, 1, none⟩ = some (.slice none 0 0) := (blk_cell BK140.out 1).trans rfl; have hfz19_0 := blk_frozen BK140.out 0; have hfz19_1 := blk_frozen BK140.out 1; obtain ⟨Ao20, co20, eo20⟩ := Kd.R_slice HO.out; subst eo20
    go_wp2
    refine bodyPost_ret (results_cell_row rfl _ _ gb140 30 #[.int .i64 a0, .slice Ao20 es.length co20] (0, 0) _ rfl (Q32 BK140) Try.underlying30 rfl (by kernel_rfl)) rfl ?_; exact ⟨_, Q11, by (with_reducible repeat (first | apply Kd.R_alloc | apply Kd.R_drewN | apply Kd.R_drew)); exact Kd.R_mono (Kd.R_far (p := ⟨gb140, 1, none⟩) (Kd.R_far (p := ⟨gb140, 0, none⟩) (Kd.R_types HO.out BK140.out (by decide)) (fun _ hk => hk.2) (.int .i64 a0)) (fun _ hk => hk.2) (.slice Ao20 es.length co20)) (fun _ hk => trivial), Q39 HB GE140 GE144⟩
theorem impl_graphBy.mono_l (h : Int → Int → Bool) : ∀ k, (∀ n x es, LeO (impl_graphBy.l0 k h n x es) (impl_graphBy.l0 (k + 1) h n x es)) ∧ (∀ n x y es, LeO (impl_graphBy.l1 k h n x y es) (impl_graphBy.l1 (k + 1) h n x y es))
 | 0 => ⟨fun _ _ _ r h => by simp [impl_graphBy.l0] at h, fun _ _ _ _ r h => by simp [impl_graphBy.l1] at h⟩
 | k + 1 => by
  obtain ⟨ih0, ih1⟩ := impl_graphBy.mono_l h k; refine ⟨?_, ?_⟩
  ·intro n x es
   unfold impl_graphBy.l0
   exact LeO.ite (ih1 _ _ _ _) (LeO.refl _)
  ·intro n x y es
   unfold impl_graphBy.l1
   exact LeO.ite (LeO.ite (LeO.ite (ih1 _ _ _ _) (LeO.refl _)) (ih1 _ _ _ _)) (ih0 _ _ _)
theorem impl_graphBy.mono (h : Int → Int → Bool) (n : Int) (k : Nat) : LeO (impl_graphBy.f k h n) (impl_graphBy.f (k + 1) h n) := (impl_graphBy.mono_l h k).1 _ _ _
/-! ### impl_graphBy_has -/
def impl_graphBy_has.c (near : List Int) (x y : Int) : Option Bool := impl_net_has.f near x y
def impl_graphBy_has.f (k : Nat) (a0 : Int) (near : List Int) : Option (Int × List (S71)) := if (0 ≤ a0 ∧ a0 ≤ 1000) ∧ okBy (impl_graphBy_has.c near) a0 = true then (impl_graphBy.f k (fun x y => (impl_graphBy_has.c near x y).getD false) a0).map (fun es => (a0, es)) else none
theorem impl_graphBy_has.mono : ∀ a0 near k, LeO (impl_graphBy_has.f k a0 near) (impl_graphBy_has.f (k + 1) a0 near) := by
 intro a0 near k
 unfold impl_graphBy_has.f
 exact LeO.ite (LeO.map _ (impl_graphBy.mono _ _ _)) (LeO.refl _)
theorem impl_graphBy_has.calls (k : Nat) (a0 : Int)  (Anear : Option Addr) (cnear : Nat) (near : List Int) (r1 : Int) (r2 : List (S71)) (w : World) (hrnear : Kd.C (Kd.int .i64) w Anear near.length near) (hcnear : near.length ≤ cnear) (h : impl_graphBy_has.f k a0 near = some (r1, r2)) :
  Calls Try.prog 108 #[.int .i64 a0, .func (.func 136) #[.agg #[.slice Anear near.length cnear]] #[]] w fun e w' => ∃ v1_ : Value, e = .returned (.agg #[.int .i64 r1, v1_]) ∧ Kd.R k71 71 w' w.heap.size (fun _ => True) v1_ r2 ∧ Below w.heap.size w w' := by
 unfold impl_graphBy_has.f at h
 by_cases hc : (0 ≤ a0 ∧ a0 ≤ 1000) ∧ okBy (impl_graphBy_has.c near) a0 = true
 ·rw [if_pos hc] at h
  obtain ⟨es, hes, he⟩ := Option.map_eq_some_iff.1 h
  simp only [Prod.mk.injEq] at he
  obtain ⟨rfl, rfl⟩ := he; refine impl_graphBy.gen k _ a0 136 #[.agg #[.slice Anear near.length cnear]] #[] es w hc.1 ⟨_, Try.func136, by kernel_rfl, rfl⟩ (fun x y W hx hxy hy hb => ?_) hes; refine (show Calls Try.prog 136 #[.agg #[.slice Anear near.length cnear], .int .i64 x, .int .i64 y] W _ from ?_); refine (impl_net_has.calls Anear cnear near x y _ W (Kd.C_below hrnear hb) hcnear  (show impl_net_has.f near x y = some _ from okBy_spec (c := impl_graphBy_has.c near) hc.2 hx hxy hy)).mono ?_; rintro e W' ⟨he, hd⟩; exact ⟨he, hd⟩
 ·rw [if_neg hc] at h
  cases h
/-! ### impl_CompleteGraph_1: function 114 -/
def impl_CompleteGraph_1.f (a0 : Int) (a1 : Int) : Option (Bool) := some true
set_option maxHeartbeats 8000000 in
set_option maxRecDepth 100000 in
theorem impl_CompleteGraph_1.calls (a0 : Int) (a1 : Int) (r : Bool) (w : World) (h : impl_CompleteGraph_1.f a0 a1 = some r) :
  Calls Try.prog 114 #[.int .i64 a0, .int .i64 a1] w fun e w' => e = .returned (.bool r) ∧ Drawn0 w w' := by
 have H : (some true) = some r := h
 clear h
 obtain rfl := Option.some.inj H
 go_enter Try.func114, Try.ntmps114
 go_wp2
 go_ret
 exact ⟨Q11, Q40⟩
/-! ### impl_graphBy_CompleteGraph -/
def impl_graphBy_CompleteGraph.c  (x y : Int) : Option Bool := impl_CompleteGraph_1.f x y
def impl_graphBy_CompleteGraph.f (k : Nat) (a0 : Int)  : Option (Int × List (S71)) := if (0 ≤ a0 ∧ a0 ≤ 1000) ∧ okBy (impl_graphBy_CompleteGraph.c ) a0 = true then (impl_graphBy.f k (fun x y => (impl_graphBy_CompleteGraph.c  x y).getD false) a0).map (fun es => (a0, es)) else none
theorem impl_graphBy_CompleteGraph.mono : ∀ a0  k, LeO (impl_graphBy_CompleteGraph.f k a0 ) (impl_graphBy_CompleteGraph.f (k + 1) a0 ) := by
 intro a0  k
 unfold impl_graphBy_CompleteGraph.f
 exact LeO.ite (LeO.map _ (impl_graphBy.mono _ _ _)) (LeO.refl _)
theorem impl_graphBy_CompleteGraph.calls (k : Nat) (a0 : Int)   (r1 : Int) (r2 : List (S71)) (w : World) (h : impl_graphBy_CompleteGraph.f k a0  = some (r1, r2)) :
  Calls Try.prog 108 #[.int .i64 a0, .func (.func 114) #[] #[]] w fun e w' => ∃ v1_ : Value, e = .returned (.agg #[.int .i64 r1, v1_]) ∧ Kd.R k71 71 w' w.heap.size (fun _ => True) v1_ r2 ∧ Below w.heap.size w w' := by
 unfold impl_graphBy_CompleteGraph.f at h
 by_cases hc : (0 ≤ a0 ∧ a0 ≤ 1000) ∧ okBy (impl_graphBy_CompleteGraph.c ) a0 = true
 ·rw [if_pos hc] at h
  obtain ⟨es, hes, he⟩ := Option.map_eq_some_iff.1 h
  simp only [Prod.mk.injEq] at he
  obtain ⟨rfl, rfl⟩ := he; refine impl_graphBy.gen k _ a0 114 #[] #[] es w hc.1 ⟨_, Try.func114, by kernel_rfl, rfl⟩ (fun x y W hx hxy hy hb => ?_) hes; refine (show Calls Try.prog 114 #[.int .i64 x, .int .i64 y] W _ from ?_); refine (impl_CompleteGraph_1.calls x y  _ W   (show impl_CompleteGraph_1.f x y = some _ from okBy_spec (c := impl_graphBy_CompleteGraph.c ) hc.2 hx hxy hy)).mono ?_; rintro e W' ⟨he, hd⟩; exact ⟨he, hd.below⟩
 ·rw [if_neg hc] at h
  cases h
/-! ### impl_CompleteGraph: function 28 -/
def impl_CompleteGraph.f (k : Nat) (a0 : Int) : Option (Int × (List (S71)) × Bool) := (impl_within.f a0 0 8).bind fun t102 => (if t102 = true then ((impl_graphBy_CompleteGraph.f k a0).bind fun bt103 => (some (bt103.1, bt103.2, true))) else (some (0, ([] : List (S71)), false)))
theorem impl_CompleteGraph.mono : ∀ a0 k, LeO (impl_CompleteGraph.f k a0) (impl_CompleteGraph.f (k + 1) a0) := by
 intro a0 k
 unfold impl_CompleteGraph.f
 repeat' first | (with_reducible first | exact impl_graphBy_CompleteGraph.mono _ _ | exact LeO.refl _ | exact LeO.none _ | refine LeO.ite ?_ ?_ | refine LeO.bind ?_ (fun _ => ?_))
set_option maxHeartbeats 8000000 in
set_option maxRecDepth 100000 in
theorem impl_CompleteGraph.calls (k : Nat) (a0 : Int) (r1 : Int) (r2 : List (S71)) (r3 : Bool) (w : World) (h : impl_CompleteGraph.f k a0 = some (r1, r2, r3)) :
  Calls Try.prog 28 #[.int .i64 a0] w fun e w' => ∃ v1_ : Value, e = .returned (.tuple #[.agg #[.int .i64 r1, v1_], .bool r3]) ∧ Kd.R k71 71 w' w.heap.size (fun _ => True) v1_ r2 ∧ Below w.heap.size w w' := by
 have hu30 := Try.underlying30
 have HB := am (Below.refl w.heap.size w)
 have H : ((impl_within.f a0 0 8).bind fun t102 => (if t102 = true then ((impl_graphBy_CompleteGraph.f k a0).bind fun bt103 => (some (bt103.1, bt103.2, true))) else (some (0, ([] : List (S71)), false)))) = some (r1, r2, r3) := h
 clear h
 replace H := (ob H)
 obtain ⟨t102, A20, H⟩ := H
 (try dsimp only at H)
 have A2 := Aside0.mk A20
 clear A20
 have HU3 := Aside0.mk H
 clear H
 go_enter Try.func28, Try.ntmps28
 go_upto_if 6 with (first | ((with_reducible refine gate_dst (N := 2) rfl ?_); refine box_event ?hg (N := 2) ?hd (cs := #[.int .i64 0, .slice none 0 0]) (t := 30) ?hr ?_; (case hd => rfl); (case hg => rfl); (case hr => first | (go_simp; done) | (go_simp; rfl)); intro gb101 hg w4 hbox hb; have BK101 := am (hbox); have GW101 := am ((Q25 : w.heap.size ≤ gb101)); have GE101 := am ((Q25 : w.heap.size ≤ gb101)); replace HB := am (below_step (Q1 HB) hb); clear hb hbox hg) | ((with_reducible refine gate_callee (f := 107) rfl ?_); refine goesL_ (some 5) rfl rfl Try.func107 (by kernel_rfl) rfl #[.int .i64 a0, .int .i64 0, .int .i64 8] rfl Q3 ?_; (with_reducible refine (impl_within.calls a0 0 8 t102 _ A2.out).mono ?_); rintro e w' ⟨rfl, ⟨nd, rfl⟩⟩; refine ⟨_, rfl, ?_⟩))
 (try simp only [Act.put, List.setIfInBounds_toArray, List.set_cons_zero, List.set_cons_succ])
 have H := HU3.out
 clear HU3
 by_cases c5 : t102 = true
 ·subst c5
  have H1 : ((impl_graphBy_CompleteGraph.f k a0).bind fun bt103 => (some (bt103.1, bt103.2, true))) = some (r1, r2, r3) := by rw [if_pos rfl] at H; exact H
  clear H; have H := H1; clear H1; replace H := (ob H); obtain ⟨⟨t103, t104⟩, A60, H⟩ := H; (try dsimp only at H); have A6 := Aside0.mk A60; clear A60
  simp only [Option.some.injEq, Prod.mk.injEq] at H
  obtain ⟨rfl, rfl, rfl⟩ := H
  go_wp2_with (first | ((with_reducible refine gate_callee (f := 108) rfl ?_); refine goesL_ (some 9) rfl rfl Try.func108 (by kernel_rfl) rfl #[.int .i64 a0, .func (.func 114) #[] #[]] rfl Q3 ?_; (with_reducible refine (impl_graphBy_CompleteGraph.calls k a0  t103 t104 _ A6.out).mono ?_); rintro e w7 ⟨v105, rfl, ho0, hb⟩; refine ⟨_, rfl, ?_⟩; have HO106 := am (Kd.R_lower ho0 (below_size (Q1 HB))); replace BK101 := am (blk_below (g := gb101) (o := .cells #[.int .i64 0, .slice none 0 0] 30 (0, 0)) (Q0 BK101) hb); replace HB := am (below_step (Q1 HB) hb); (try clear hb); (try clear hb2); (try clear hk); (try clear hi); (try clear ho0); have hcz8_0 : w7.cell? ⟨gb101, 0, none⟩ = some (.int .i64 0) := (blk_cell BK101.out 0).trans rfl; have hcz8_1 : w7.cell? ⟨gb101, 1, none⟩ = some (.slice none 0 0) := (blk_cell BK101.out 1).trans rfl; have hfz8_0 := blk_frozen BK101.out 0; have hfz8_1 := blk_frozen BK101.out 1; obtain ⟨Ao9, co9, eo9⟩ := Kd.R_slice HO106.out; subst eo9))
  refine bodyPost_ret (results_ct rfl _ _ gb101 30 #[.int .i64 t103, .slice Ao9 t104.length co9] (0, 0) _ rfl (Q31 BK101) Try.underlying30 rfl (by kernel_rfl)) rfl ?_; exact ⟨_, Q10, Q48 HO106 BK101, Q5 HB GE101⟩
 ·replace c5 := Bool.eq_false_iff.mpr c5
  subst c5; have H1 : (some (0, ([] : List (S71)), false)) = some (r1, r2, r3) := by rw [if_neg (show ¬ (false = true) by decide)] at H; exact H
  clear H; have H := H1; clear H1
  simp only [Option.some.injEq, Prod.mk.injEq] at H
  obtain ⟨rfl, rfl, rfl⟩ := H; have hcz10_0 : w4.cell? ⟨gb101, 0, none⟩ = some (.int .i64 0) := (blk_cell BK101.out 0).trans rfl; have hcz10_1 : w4.cell? ⟨gb101, 1, none⟩ = some (.slice none 0 0) := (blk_cell BK101.out 1).trans rfl; have hfz10_0 := blk_frozen BK101.out 0; have hfz10_1 := blk_frozen BK101.out 1
  go_wp2
  refine bodyPost_ret (results_ct rfl _ _ gb101 30 #[.int .i64 0, .slice none 0 0] (0, 0) _ rfl (Q26 BK101) Try.underlying30 rfl (by kernel_rfl)) rfl ?_; exact ⟨_, Q10, Q43, Q5 HB GE101⟩
/-! ### impl_CycleGraph_1: function 112 -/
def impl_CycleGraph_1.f (a0 : Int) (a1 : Int) (a2_0 : Int) : Option (Bool) := if a1 = (wrap64 (a0 + 1)) then (some true) else (if a0 = 0 then (some (a1 == (wrap64 (a2_0 - 1)))) else (some false))
set_option maxHeartbeats 8000000 in
set_option maxRecDepth 100000 in
theorem impl_CycleGraph_1.calls (a0 : Int) (a1 : Int) (g2 : Nat) (a2_0 : Int) (r : Bool) (w : World) (hb2 : w.heap[g2]? = some (.cells #[.int .i64 a2_0] 3 (0, 0))) (h : impl_CycleGraph_1.f a0 a1 a2_0 = some r) :
  Calls Try.prog 112 #[.int .i64 a0, .int .i64 a1, .pointer (some ⟨g2, 0, none⟩)] w fun e w' => e = .returned (.bool r) ∧ Drawn0 w w' := by
 have BK2 := Aside0.mk hb2
 clear hb2
 have H : (if a1 = (wrap64 (a0 + 1)) then (some true) else (if a0 = 0 then (some (a1 == (wrap64 (a2_0 - 1)))) else (some false))) = some r := h
 clear h
 by_cases c4 : a1 = (wrap64 (a0 + 1))
 ·rw [if_pos c4] at H
  have c4b0 := beq_iff_eq.mpr c4; have c4b1 := bne_eq_false_iff_eq.mpr c4; clear c4; obtain rfl := Option.some.inj H
  go_enter Try.func112, Try.ntmps112
  go_wp2
  go_ret
  exact ⟨Q11, Q40⟩
 ·rw [if_neg c4] at H
  have c4b0 := beq_eq_false_iff_ne.mpr c4; have c4b1 := bne_iff_ne.mpr c4
  by_cases c5 : a0 = 0
  ·rw [if_pos c5] at H
   have c5b0 := beq_iff_eq.mpr c5; have c5b1 := bne_eq_false_iff_eq.mpr c5; clear c5; obtain rfl := Option.some.inj H; have hcz6_0 : w.cell? ⟨g2, 0, none⟩ = some (.int .i64 a2_0) := (blk_cell BK2.out 0).trans rfl; have hfz6_0 := blk_frozen BK2.out 0
   go_enter Try.func112, Try.ntmps112
   go_wp2
   go_ret
   exact ⟨Q11, Q40⟩
  ·rw [if_neg c5] at H
   have c5b0 := beq_eq_false_iff_ne.mpr c5; have c5b1 := bne_iff_ne.mpr c5; obtain rfl := Option.some.inj H
   go_enter Try.func112, Try.ntmps112
   go_wp2
   go_ret
   exact ⟨Q11, Q40⟩
/-! ### impl_graphBy_CycleGraph -/
def impl_graphBy_CycleGraph.c (n : Int) (x y : Int) : Option Bool := impl_CycleGraph_1.f x y n
def impl_graphBy_CycleGraph.f (k : Nat) (a0 : Int) (n : Int) : Option (Int × List (S71)) := if (0 ≤ a0 ∧ a0 ≤ 1000) ∧ okBy (impl_graphBy_CycleGraph.c n) a0 = true then (impl_graphBy.f k (fun x y => (impl_graphBy_CycleGraph.c n x y).getD false) a0).map (fun es => (a0, es)) else none
theorem impl_graphBy_CycleGraph.mono : ∀ a0 n k, LeO (impl_graphBy_CycleGraph.f k a0 n) (impl_graphBy_CycleGraph.f (k + 1) a0 n) := by
 intro a0 n k
 unfold impl_graphBy_CycleGraph.f
 exact LeO.ite (LeO.map _ (impl_graphBy.mono _ _ _)) (LeO.refl _)
theorem impl_graphBy_CycleGraph.calls (k : Nat) (a0 : Int) (g0_ : Nat) (n : Int) (r1 : Int) (r2 : List (S71)) (w : World) (hb0 : w.heap[g0_]? = some (.cells #[.int .i64 n] 3 (0, 0))) (h : impl_graphBy_CycleGraph.f k a0 n = some (r1, r2)) :
  Calls Try.prog 108 #[.int .i64 a0, .func (.func 112) #[] #[.pointer (some ⟨g0_, 0, none⟩)]] w fun e w' => ∃ v1_ : Value, e = .returned (.agg #[.int .i64 r1, v1_]) ∧ Kd.R k71 71 w' w.heap.size (fun _ => True) v1_ r2 ∧ Below w.heap.size w w' := by
 unfold impl_graphBy_CycleGraph.f at h
 by_cases hc : (0 ≤ a0 ∧ a0 ≤ 1000) ∧ okBy (impl_graphBy_CycleGraph.c n) a0 = true
 ·rw [if_pos hc] at h
  obtain ⟨es, hes, he⟩ := Option.map_eq_some_iff.1 h
  simp only [Prod.mk.injEq] at he
  obtain ⟨rfl, rfl⟩ := he; refine impl_graphBy.gen k _ a0 112 #[] #[.pointer (some ⟨g0_, 0, none⟩)] es w hc.1 ⟨_, Try.func112, by kernel_rfl, rfl⟩ (fun x y W hx hxy hy hb => ?_) hes; refine (show Calls Try.prog 112 #[.int .i64 x, .int .i64 y, .pointer (some ⟨g0_, 0, none⟩)] W _ from ?_); refine (impl_CycleGraph_1.calls x y g0_ n _ W  (blk_below hb0 hb) (show impl_CycleGraph_1.f x y n = some _ from okBy_spec (c := impl_graphBy_CycleGraph.c n) hc.2 hx hxy hy)).mono ?_; rintro e W' ⟨he, hd⟩; exact ⟨he, hd.below⟩
 ·rw [if_neg hc] at h
  cases h
/-! ### impl_CycleGraph: function 26 -/
def impl_CycleGraph.f (k : Nat) (a0 : Int) : Option (Int × (List (S71)) × Bool) := (impl_within.f a0 3 8).bind fun t103 => (if t103 = true then ((impl_graphBy_CycleGraph.f k a0 a0).bind fun bt104 => (some (bt104.1, bt104.2, true))) else (some (0, ([] : List (S71)), false)))
theorem impl_CycleGraph.mono : ∀ a0 k, LeO (impl_CycleGraph.f k a0) (impl_CycleGraph.f (k + 1) a0) := by
 intro a0 k
 unfold impl_CycleGraph.f
 repeat' first | (with_reducible first | exact impl_graphBy_CycleGraph.mono _ _ _ | exact LeO.refl _ | exact LeO.none _ | refine LeO.ite ?_ ?_ | refine LeO.bind ?_ (fun _ => ?_))
set_option maxHeartbeats 8000000 in
set_option maxRecDepth 100000 in
theorem impl_CycleGraph.calls (k : Nat) (a0 : Int) (r1 : Int) (r2 : List (S71)) (r3 : Bool) (w : World) (h : impl_CycleGraph.f k a0 = some (r1, r2, r3)) :
  Calls Try.prog 26 #[.int .i64 a0] w fun e w' => ∃ v1_ : Value, e = .returned (.tuple #[.agg #[.int .i64 r1, v1_], .bool r3]) ∧ Kd.R k71 71 w' w.heap.size (fun _ => True) v1_ r2 ∧ Below w.heap.size w w' := by
 have hu30 := Try.underlying30
 have HB := am (Below.refl w.heap.size w)
 have H : ((impl_within.f a0 3 8).bind fun t103 => (if t103 = true then ((impl_graphBy_CycleGraph.f k a0 a0).bind fun bt104 => (some (bt104.1, bt104.2, true))) else (some (0, ([] : List (S71)), false)))) = some (r1, r2, r3) := h
 clear h
 replace H := (ob H)
 obtain ⟨t103, A20, H⟩ := H
 (try dsimp only at H)
 have A2 := Aside0.mk A20
 clear A20
 have HU3 := Aside0.mk H
 clear H
 go_enter Try.func26, Try.ntmps26
 go_upto_if 6 with (first | ((with_reducible refine gate_dst (N := 1) rfl ?_); refine box_event ?hg (N := 1) ?hd (cs := #[.int .i64 a0]) (t := 3) ?hr ?_; (case hd => rfl); (case hg => rfl); (case hr => first | (go_simp; done) | (go_simp; rfl)); intro gb101 hg w4 hbox hb; have BK101 := am (hbox); have GW101 := am ((Q25 : w.heap.size ≤ gb101)); have GE101 := am ((Q25 : w.heap.size ≤ gb101)); replace HB := am (below_step (Q1 HB) hb); clear hb hbox hg) | ((with_reducible refine gate_dst (N := 2) rfl ?_); refine box_event ?hg (N := 2) ?hd (cs := #[.int .i64 0, .slice none 0 0]) (t := 30) ?hr ?_; (case hd => rfl); (case hg => rfl); (case hr => first | (go_simp; done) | (go_simp; rfl)); intro gb102 hg w5 hbox hb; have BK102 := am (hbox); have GW102 := am ((Q25 : w.heap.size ≤ gb102)); have GE102 := am ((Q25 : w.heap.size ≤ gb102)); replace HB := am (below_step (Q1 HB) hb); have NB101_102 := am ((by rw [hg]; exact Nat.ne_of_lt (blk_lt (g := gb101) (o := .cells #[.int .i64 a0] 3 (0, 0)) (Q0 BK101)) : gb101 ≠ gb102)); have NB102_101 := am ((by rw [hg]; exact Nat.ne_of_gt (blk_lt (g := gb101) (o := .cells #[.int .i64 a0] 3 (0, 0)) (Q0 BK101)) : gb102 ≠ gb101)); replace BK101 := am (blk_below (g := gb101) (o := .cells #[.int .i64 a0] 3 (0, 0)) (Q0 BK101) hb); clear hb hbox hg; have hnb6 := NB101_102.out; have hnc6 := NB102_101.out; have hcz7_0 : w5.cell? ⟨gb101, 0, none⟩ = some (.int .i64 a0) := (blk_cell BK101.out 0).trans rfl; have hfz7_0 := blk_frozen BK101.out 0) | ((with_reducible refine gate_callee (f := 107) rfl ?_); refine goesL_ (some 5) rfl rfl Try.func107 (by kernel_rfl) rfl #[.int .i64 a0, .int .i64 3, .int .i64 8] rfl Q3 ?_; (with_reducible refine (impl_within.calls a0 3 8 t103 _ A2.out).mono ?_); rintro e w' ⟨rfl, ⟨nd, rfl⟩⟩; refine ⟨_, rfl, ?_⟩))
 (try simp only [Act.put, List.setIfInBounds_toArray, List.set_cons_zero, List.set_cons_succ])
 have H := HU3.out
 clear HU3
 by_cases c8 : t103 = true
 ·subst c8
  have H1 : ((impl_graphBy_CycleGraph.f k a0 a0).bind fun bt104 => (some (bt104.1, bt104.2, true))) = some (r1, r2, r3) := by rw [if_pos rfl] at H; exact H
  clear H; have H := H1; clear H1; replace H := (ob H); obtain ⟨⟨t104, t105⟩, A90, H⟩ := H; (try dsimp only at H); have A9 := Aside0.mk A90; clear A90
  simp only [Option.some.injEq, Prod.mk.injEq] at H
  obtain ⟨rfl, rfl, rfl⟩ := H; have hnb10 := NB101_102.out; have hnc10 := NB102_101.out; have hcz11_0 : w5.cell? ⟨gb101, 0, none⟩ = some (.int .i64 a0) := (blk_cell BK101.out 0).trans rfl; have hfz11_0 := blk_frozen BK101.out 0
  go_wp2_with (first | ((with_reducible refine gate_callee (f := 108) rfl ?_); refine goesL_ (some 10) rfl rfl Try.func108 (by kernel_rfl) rfl #[.int .i64 a0, .func (.func 112) #[] #[.pointer (some ⟨gb101, 0, none⟩)]] rfl Q3 ?_; (with_reducible refine (impl_graphBy_CycleGraph.calls k a0 gb101 a0 t104 t105 _ ?side1 A9.out).mono ?_); (case side1 => exact by (with_reducible repeat (first | refine blk_drewN ?_ _ | refine blk_drew ?_ | refine blk_alloc ?_ _)); exact BK101.out); rintro e w12 ⟨v106, rfl, ho0, hb⟩; refine ⟨_, rfl, ?_⟩; have HO107 := am (Kd.R_lower ho0 (below_size (Q1 HB))); replace BK101 := am (blk_below (g := gb101) (o := .cells #[.int .i64 a0] 3 (0, 0)) (Q0 BK101) hb); replace BK102 := am (blk_below (g := gb102) (o := .cells #[.int .i64 0, .slice none 0 0] 30 (0, 0)) (Q0 BK102) hb); replace HB := am (below_step (Q1 HB) hb); (try clear hb); (try clear hb2); (try clear hk); (try clear hi); (try clear ho0); have hcz13_0 : w12.cell? ⟨gb102, 0, none⟩ = some (.int .i64 0) := (blk_cell BK102.out 0).trans rfl; have hcz13_1 : w12.cell? ⟨gb102, 1, none⟩ = some (.slice none 0 0) := (blk_cell BK102.out 1).trans rfl; have hfz13_0 := blk_frozen BK102.out 0; have hfz13_1 := blk_frozen BK102.out 1; obtain ⟨Ao14, co14, eo14⟩ := Kd.R_slice HO107.out; subst eo14))
  refine bodyPost_ret (results_ct rfl _ _ gb102 30 #[.int .i64 t104, .slice Ao14 t105.length co14] (0, 0) _ rfl (Q100 BK102) Try.underlying30 rfl (by kernel_rfl)) rfl ?_; exact ⟨_, Q10, by (with_reducible repeat (first | apply Kd.R_alloc | apply Kd.R_drewN | apply Kd.R_drew)); exact Kd.R_mono (Kd.R_far (p := ⟨gb102, 1, none⟩) (Kd.R_far (p := ⟨gb102, 0, none⟩) (Kd.R_types HO107.out BK102.out (by decide)) (fun _ hk => hk.2) (.int .i64 t104)) (fun _ hk => hk.2) (.slice Ao14 t105.length co14)) (fun _ hk => trivial), Q5 HB GE102⟩
 ·replace c8 := Bool.eq_false_iff.mpr c8
  subst c8; have H1 : (some (0, ([] : List (S71)), false)) = some (r1, r2, r3) := by rw [if_neg (show ¬ (false = true) by decide)] at H; exact H
  clear H; have H := H1; clear H1
  simp only [Option.some.injEq, Prod.mk.injEq] at H
  obtain ⟨rfl, rfl, rfl⟩ := H; have hnb15 := NB102_101.out; have hnc15 := NB101_102.out; have hcz16_0 : w5.cell? ⟨gb102, 0, none⟩ = some (.int .i64 0) := (blk_cell BK102.out 0).trans rfl; have hcz16_1 : w5.cell? ⟨gb102, 1, none⟩ = some (.slice none 0 0) := (blk_cell BK102.out 1).trans rfl; have hfz16_0 := blk_frozen BK102.out 0; have hfz16_1 := blk_frozen BK102.out 1
  go_wp2
  refine bodyPost_ret (results_ct rfl _ _ gb102 30 #[.int .i64 0, .slice none 0 0] (0, 0) _ rfl (Q26 BK102) Try.underlying30 rfl (by kernel_rfl)) rfl ?_; exact ⟨_, Q10, Q43, Q5 HB GE102⟩
end Go.Proofs.Ytcjddikalgnhpaa.P
