/- Functions of the program as Lean functions, that each call comes to what they say, and what holds of them; part 2 of 15; no conditions beyond those that each theorem names. -/
import Derived.Test.YtcjddikalgnhpaaK1
namespace Go.Proofs.Ytcjddikalgnhpaa.P
open Go.RowKit Go.Proofs.YtcjddikalgnhpaaW.PrintWords Go.Proofs.YtcjddikalgnhpaaW.PrintLast Go.Proofs.YtcjddikalgnhpaaW.PrintMore
attribute [local go_sem] max2_int min2_int max_two min_two max_three min_three max_four min_four   -- for this text's walks alone
set_option linter.unusedVariables false
set_option linter.unusedSimpArgs false
/-! ### impl_within: function 107 -/
def impl_within.f (a0 : Int) (a1 : Int) (a2 : Int) : Option (Bool) := if a0 ≥ a1 then (some (decide (a0 ≤ a2))) else (some false)
set_option maxHeartbeats 8000000 in
set_option maxRecDepth 100000 in
theorem impl_within.calls (a0 : Int) (a1 : Int) (a2 : Int) (r : Bool) (w : World) (h : impl_within.f a0 a1 a2 = some r) :
  Calls Try.prog 107 #[.int .i64 a0, .int .i64 a1, .int .i64 a2] w fun e w' => e = .returned (.bool r) ∧ Drawn0 w w' := by
 have H : (if a0 ≥ a1 then (some (decide (a0 ≤ a2))) else (some false)) = some r := h
 clear h
 by_cases c4 : a0 ≥ a1
 ·rw [if_pos c4] at H
  have c4b0 : decide (a1 ≤ a0) = true := decide_eq_true c4; clear c4; obtain rfl := Option.some.inj H
  go_enter Try.func107, Try.ntmps107
  go_wp2
  go_ret
  exact ⟨Q17, Q51⟩
 ·rw [if_neg c4] at H
  have c4b0 : decide (a1 ≤ a0) = false := decide_eq_false c4; clear c4; obtain rfl := Option.some.inj H
  go_enter Try.func107, Try.ntmps107
  go_wp2
  go_ret
  exact ⟨Q17, Q51⟩
/-! ### cmp_isNaN_int: function 219 -/
def cmp_isNaN_int.f (a0 : Int) : Option (Bool) := some (a0 != a0)
set_option maxHeartbeats 8000000 in
set_option maxRecDepth 100000 in
theorem cmp_isNaN_int.calls (a0 : Int) (r : Bool) (w : World) (h : cmp_isNaN_int.f a0 = some r) :
  Calls Try.prog 219 #[.int .i64 a0] w fun e w' => e = .returned (.bool r) ∧ Drawn0 w w' := by
 have H : (some (a0 != a0)) = some r := h
 clear h
 obtain rfl := Option.some.inj H
 go_enter Try.func219, Try.ntmps219
 go_wp2
 go_ret
 exact ⟨Q17, Q51⟩
/-! ### cmp_Compare_int: function 203 -/
def cmp_Compare_int.f (a0 : Int) (a1 : Int) : Option (Int) := (cmp_isNaN_int.f a0).bind fun t101 => ((cmp_isNaN_int.f a1).bind fun t102 => (if t101 = true then (if t102 = true then (some 0) else (some (-1))) else (if t102 = true then (some 1) else (if a0 < a1 then (some (-1)) else (if a0 > a1 then (some 1) else (some 0))))))
set_option maxHeartbeats 8000000 in
set_option maxRecDepth 100000 in
theorem cmp_Compare_int.calls (a0 : Int) (a1 : Int) (r : Int) (w : World) (h : cmp_Compare_int.f a0 a1 = some r) :
  Calls Try.prog 203 #[.int .i64 a0, .int .i64 a1] w fun e w' => e = .returned (.int .i64 r) ∧ Drawn0 w w' := by
 have H : ((cmp_isNaN_int.f a0).bind fun t101 => ((cmp_isNaN_int.f a1).bind fun t102 => (if t101 = true then (if t102 = true then (some 0) else (some (-1))) else (if t102 = true then (some 1) else (if a0 < a1 then (some (-1)) else (if a0 > a1 then (some 1) else (some 0))))))) = some r := h
 clear h
 replace H := (ob H)
 obtain ⟨t101, A30, H⟩ := H
 (try dsimp only at H)
 have A3 := Aside0.mk A30
 clear A30
 replace H := (ob H)
 obtain ⟨t102, A40, H⟩ := H
 (try dsimp only at H)
 have A4 := Aside0.mk A40
 clear A40
 have HU5 := Aside0.mk H
 clear H
 go_enter Try.func203, Try.ntmps203
 go_upto_if 11 with (first | ((with_reducible refine gate_callee (f := 219) rfl ?_); refine goesL_ (some 8) rfl rfl Try.func219 (by kernel_rfl) rfl #[.int .i64 a0] rfl Q6 ?_; (with_reducible refine (cmp_isNaN_int.calls a0 t101 _ A3.out).mono ?_); rintro e w' ⟨rfl, ⟨nd, rfl⟩⟩; refine ⟨_, rfl, ?_⟩) | ((with_reducible refine gate_callee (f := 219) rfl ?_); refine goesL_ (some 10) rfl rfl Try.func219 (by kernel_rfl) rfl #[.int .i64 a1] rfl Q6 ?_; (with_reducible refine (cmp_isNaN_int.calls a1 t102 _ A4.out).mono ?_); rintro e w' ⟨rfl, ⟨nd, rfl⟩⟩; refine ⟨_, rfl, ?_⟩))
 (try simp only [Act.put, List.setIfInBounds_toArray, List.set_cons_zero, List.set_cons_succ])
 have H := HU5.out
 clear HU5
 by_cases c6 : t101 = true
 ·subst c6
  have H1 : (if t102 = true then (some 0) else (some (-1))) = some r := by rw [if_pos rfl] at H; exact H
  clear H; have H := H1; clear H1
  by_cases c7 : t102 = true
  ·subst c7
   have H1 : (some 0) = some r := by rw [if_pos rfl] at H; exact H
   clear H; have H := H1; clear H1; obtain rfl := Option.some.inj H
   go_wp2
   go_ret
   exact ⟨Q17, Q51⟩
  ·replace c7 := Bool.eq_false_iff.mpr c7
   subst c7; have H1 : (some (-1)) = some r := by rw [if_neg (show ¬ (false = true) by decide)] at H; exact H
   clear H; have H := H1; clear H1; obtain rfl := Option.some.inj H
   go_wp2
   go_ret
   exact ⟨Q17, Q51⟩
 ·replace c6 := Bool.eq_false_iff.mpr c6
  subst c6; have H1 : (if t102 = true then (some 1) else (if a0 < a1 then (some (-1)) else (if a0 > a1 then (some 1) else (some 0)))) = some r := by rw [if_neg (show ¬ (false = true) by decide)] at H; exact H
  clear H; have H := H1; clear H1
  by_cases c8 : t102 = true
  ·subst c8
   have H1 : (some 1) = some r := by rw [if_pos rfl] at H; exact H
   clear H; have H := H1; clear H1; obtain rfl := Option.some.inj H
   go_wp2
   go_ret
   exact ⟨Q17, Q51⟩
  ·replace c8 := Bool.eq_false_iff.mpr c8
   subst c8; have H1 : (if a0 < a1 then (some (-1)) else (if a0 > a1 then (some 1) else (some 0))) = some r := by rw [if_neg (show ¬ (false = true) by decide)] at H; exact H
   clear H; have H := H1; clear H1
   by_cases c9 : a0 < a1
   ·rw [if_pos c9] at H
    have c9b0 := decide_eq_true c9; clear c9
    (first | rw [c9b0] | (simp only [i64_w, i32_w]; rw [c9b0]) | skip)
    obtain rfl := Option.some.inj H
    go_wp2
    go_ret
    exact ⟨Q17, Q51⟩
   ·rw [if_neg c9] at H
    have c9b0 := decide_eq_false c9; clear c9
    (first | rw [c9b0] | (simp only [i64_w, i32_w]; rw [c9b0]) | skip)
    by_cases c10 : a0 > a1
    ·rw [if_pos c10] at H
     have c10b0 : decide (a1 < a0) = true := decide_eq_true c10; clear c10; obtain rfl := Option.some.inj H
     go_wp2
     go_ret
     exact ⟨Q17, Q51⟩
    ·rw [if_neg c10] at H
     have c10b0 : decide (a1 < a0) = false := decide_eq_false c10; clear c10; obtain rfl := Option.some.inj H
     go_wp2
     go_ret
     exact ⟨Q17, Q51⟩
/-! ### slices_Compare_int_int: function 158 -/
def slices_Compare_int_int.l0 : Nat → List Int → List Int → List Int → Int → Int → Option (Int)
 | 0, _, _, _, _, _ => none
 | k + 1, x0, x1, x9, x10, x11 => if x11 < x10 then (if 0 ≤ x11 then (if x11 < (x9.length : Int) then (if x11 ≥ (x1.length : Int) then (some 1) else (if x11 < (x1.length : Int) then ((cmp_Compare_int.f (rd x9 x11) (rd x1 x11)).bind fun t103 => (if t103 = 0 then (slices_Compare_int_int.l0 k x0 x1 x9 x10 (wrap64 (x11 + 1))) else (some t103))) else (none))) else (none)) else (none)) else (if (x0.length : Int) < (x1.length : Int) then (some (-1)) else (some 0))
def slices_Compare_int_int.f (k : Nat) (l0 : List Int) (l1 : List Int) : Option (Int) := slices_Compare_int_int.l0 k l0 l1 l0 (l0.length : Int) 0
theorem slices_Compare_int_int.mono_l : ∀ k, (∀ y0 y1 y2 y3 y4, LeO (slices_Compare_int_int.l0 k y0 y1 y2 y3 y4) (slices_Compare_int_int.l0 (k + 1) y0 y1 y2 y3 y4))
 | 0 => fun _ _ _ _ _ r h => by simp [slices_Compare_int_int.l0] at h
 | k + 1 => by
  have ih0 := slices_Compare_int_int.mono_l k
  all_goals
   intros
   first | unfold slices_Compare_int_int.l0
   repeat' first | (with_reducible first | exact ih0 _ _ _ _ _ | exact LeO.refl _ | exact LeO.none _ | refine LeO.ite ?_ ?_ | refine LeO.bind ?_ (fun _ => ?_))
theorem slices_Compare_int_int.mono : ∀ a0 a1 k, LeO (slices_Compare_int_int.f k a0 a1) (slices_Compare_int_int.f (k + 1) a0 a1) := by
 intro a0 a1 k
 have ih0 := slices_Compare_int_int.mono_l k
 unfold slices_Compare_int_int.f
 repeat' first | (with_reducible first | exact ih0 _ _ _ _ _ | exact LeO.refl _ | exact LeO.none _ | refine LeO.ite ?_ ?_ | refine LeO.bind ?_ (fun _ => ?_))
set_option maxHeartbeats 8000000 in
set_option maxRecDepth 100000 in
theorem slices_Compare_int_int.calls (k : Nat) (A0 : Option Addr) (c0 : Nat) (l0 : List Int) (A1 : Option Addr) (c1 : Nat) (l1 : List Int) (r : Int) (w : World) (hr0 : Kd.C (Kd.int .i64) w A0 l0.length l0) (hc0 : l0.length ≤ c0) (hr1 : Kd.C (Kd.int .i64) w A1 l1.length l1) (hc1 : l1.length ≤ c1) (h : slices_Compare_int_int.f k l0 l1 = some r) :
  Calls Try.prog 158 #[.slice A0 l0.length c0, .slice A1 l1.length c1] w fun e w' => e = .returned (.int .i64 r) ∧ Drawn0 w w' := by
 have HR0 := Aside0.mk hr0
 have HC0 := Aside0.mk hc0
 clear hr0 hc0
 have HR1 := Aside0.mk hr1
 have HC1 := Aside0.mk hc1
 clear hr1 hc1
 have H : (slices_Compare_int_int.l0 k l0 l1 l0 (l0.length : Int) 0) = some r := h
 clear h
 have H' := Aside0.mk H
 clear H
 go_enter Try.func158, Try.ntmps158
 go_wp2
 go_loopg [11] k (fun kq v11 w' => ∃ (x11_1 : Int), v11 = .int .i64 x11_1 ∧ Aside0 (slices_Compare_int_int.l0 kq l0 l1 l0 (l0.length : Int) x11_1 = some r) ∧ Aside0 (kq ≤ k) ∧ Drawn0 w w')
 case atStart => exact ⟨(0), Q17, H', ⟨Nat.le_refl _⟩, Q51⟩
 case round =>
  clear H'
  obtain ⟨x11_1, rfl, HA, HK1, ⟨m1, rfl⟩⟩ := hrel
  cases gk with
  | zero => exact absurd HA.out (by simp [slices_Compare_int_int.l0])
  | succ k1 =>
   have H := HA.out; clear HA
   simp only [slices_Compare_int_int.l0] at H
   by_cases c3 : x11_1 < (l0.length : Int)
   ·rw [if_pos c3] at H
    have c3b0 : decide (x11_1 < (l0.length : Int)) = true := decide_eq_true c3; clear c3
    obtain ⟨c4, H⟩ := ifn H
    have c4b0 : decide (0 ≤ x11_1) = true := decide_eq_true c4; clear c4
    obtain ⟨c5, H⟩ := ifn H
    have c5b0 := decide_eq_true c5; clear c5; have HU6 := Aside0.mk H; clear H; have p101 : 0 ≤ (x11_1 : Int) := D4; have q101 : x11_1 < (l0.length : Int) := D4; obtain ⟨ad101, e101, hx101_0⟩ := Kd.at_int HR0.out x11_1 p101 q101
    cases e101
    replace p101 := eq_true p101; replace q101 := eq_true q101
    go_upto_if 19 with (fail)
    have H := HU6.out; clear HU6
    by_cases c7 : x11_1 ≥ (l1.length : Int)
    ·rw [if_pos c7] at H
     have c7b0 : decide ((l1.length : Int) ≤ x11_1) = true := decide_eq_true c7; clear c7
     (first | rw [c7b0] | (simp only [i64_w, i32_w]; rw [c7b0]) | skip)
     obtain rfl := Option.some.inj H
     go_wp2
     go_ret
     exact ⟨Q17, Q51⟩
    ·rw [if_neg c7] at H
     have c7b0 : decide ((l1.length : Int) ≤ x11_1) = false := decide_eq_false c7; clear c7
     (first | rw [c7b0] | (simp only [i64_w, i32_w]; rw [c7b0]) | skip)
     obtain ⟨c8, H⟩ := ifn H
     have c8b0 : decide (x11_1 < (l1.length : Int)) = true := decide_eq_true c8; clear c8; replace H := (ob H); obtain ⟨t103, A90, H⟩ := H; (try dsimp only at H); have A9 := Aside0.mk A90; clear A90; have HU10 := Aside0.mk H; clear H; have p102 : 0 ≤ (x11_1 : Int) := D4; have q102 : x11_1 < (l1.length : Int) := D4; obtain ⟨ad102, e102, hx102_0⟩ := Kd.at_int HR1.out x11_1 p102 q102
     cases e102
     replace p102 := eq_true p102; replace q102 := eq_true q102
     go_upto_if 28 with (first | ((with_reducible refine gate_callee (f := 203) rfl ?_); refine goesL_ (some 26) rfl rfl Try.func203 (by kernel_rfl) rfl #[.int .i64 (rd l0 x11_1), .int .i64 (rd l1 x11_1)] rfl Q6 ?_; (with_reducible refine (cmp_Compare_int.calls (rd l0 x11_1) (rd l1 x11_1) t103 _ A9.out).mono ?_); rintro e w' ⟨rfl, ⟨nd, rfl⟩⟩; refine ⟨_, rfl, ?_⟩))
     (try simp only [Act.put, List.setIfInBounds_toArray, List.set_cons_zero, List.set_cons_succ]); have H := HU10.out; clear HU10
     by_cases c11 : t103 = 0
     ·rw [if_pos c11] at H
      have c11b0 := beq_iff_eq.mpr c11; have c11b1 := bne_eq_false_iff_eq.mpr c11; clear c11
      (first | rw [c11b0] | (simp only [i64_w, i32_w]; rw [c11b0]) | rw [c11b1] | skip)
      have H' := Aside0.mk H; clear H
      go_wp2
      go_roundg k1
      case measure => have := HK1.out; omega
      case rel => exact ⟨(wrap64 (x11_1 + 1)), Q17, H', ⟨Q163⟩, Q51⟩
     ·rw [if_neg c11] at H
      have c11b0 := beq_eq_false_iff_ne.mpr c11; have c11b1 := bne_iff_ne.mpr c11
      (first | rw [c11b0] | (simp only [i64_w, i32_w]; rw [c11b0]) | rw [c11b1] | skip)
      obtain rfl := Option.some.inj H
      go_wp2
      go_ret
      exact ⟨Q17, Q51⟩
   ·rw [if_neg c3] at H
    have c3b0 : decide (x11_1 < (l0.length : Int)) = false := decide_eq_false c3; clear c3
    by_cases c12 : (l0.length : Int) < (l1.length : Int)
    ·rw [if_pos c12] at H
     have c12b0 := decide_eq_true c12; have c12b1 : decide (l0.length < l1.length) = true := decide_eq_true (Int.ofNat_lt.mp c12); clear c12; obtain rfl := Option.some.inj H
     go_wp2
     go_ret
     exact ⟨Q17, Q51⟩
    ·rw [if_neg c12] at H
     have c12b0 := decide_eq_false c12; have c12b1 : decide (l0.length < l1.length) = false := decide_eq_false (fun h => c12 (Int.ofNat_lt.mpr h)); clear c12; obtain rfl := Option.some.inj H
     go_wp2
     go_ret
     exact ⟨Q17, Q51⟩
/-! ### impl_IsGraph: function 71 -/
/-- How two pairs compare, by their first numbers and then by their second ones. -/
def pcmp (a b : S71) : Int := if a.f0 < b.f0 then -1 else if a.f0 > b.f0 then 1 else if a.f1 < b.f1 then -1 else if a.f1 > b.f1 then 1 else 0
theorem cmp_int (a b : Int) : cmp_Compare_int.f a b = some (if a < b then -1 else if a > b then 1 else 0) := by
 unfold cmp_Compare_int.f cmp_isNaN_int.f
 simp only [bne_self_eq_false, Option.bind_some, Bool.false_eq_true, if_false]
 split
 ·rfl
 ·split <;> rfl
theorem pcmp_f (a b : S71) : slices_Compare_int_int.f 4 [a.f0, a.f1] [b.f0, b.f1] = some (pcmp a b) := by
 have h1 : wrap64 (0 + 1) = 1 := by unfold wrap64; omega
 have h2 : wrap64 (1 + 1) = 2 := by unfold wrap64; omega
 unfold slices_Compare_int_int.f pcmp
 simp only [slices_Compare_int_int.l0, cmp_int, Option.bind_some, List.length_cons, List.length_nil, rd, h1, h2]
 by_cases c1 : a.f0 < b.f0
 ·simp [c1]
 ·by_cases c2 : a.f0 > b.f0
  ·simp [c1, c2]
  ·by_cases c3 : a.f1 < b.f1
   ·simp [c1, c2, c3]
   ·by_cases c4 : a.f1 > b.f1
    ·simp [c1, c2, c3, c4]
    ·simp [c1, c2, c3, c4]
theorem pair_reads {w : World} {ad : Addr} {x y : Int} (h0 : w.cell? ad = some (.int .i64 x)) (h1 : w.cell? ⟨ad.block, ad.off + 1, none⟩ = some (.int .i64 y)) : Kd.C (Kd.int .i64) w (some ad) [x, y].length [x, y] := by
 refine ⟨rfl, by simp, fun _ => ⟨ad, rfl, fun j p hj => ?_⟩⟩
 match j, hj with
 | 0, hj =>
  obtain rfl : x = p := by simpa using hj
  refine ⟨[.int .i64 x], rfl, rfl, fun i u hi => ?_⟩
  match i, hi with
  | 0, hi =>
   obtain rfl : Value.int .i64 x = u := by simpa using hi
   exact h0
 | 1, hj =>
  obtain rfl : y = p := by simpa using hj
  refine ⟨[.int .i64 y], rfl, rfl, fun i u hi => ?_⟩
  match i, hi with
  | 0, hi =>
   obtain rfl : Value.int .i64 y = u := by simpa using hi
   exact h1
theorem pcmp_calls (adA adB : Addr) (a b : S71) (w : World) (hA0 : w.cell? adA = some (.int .i64 a.f0)) (hA1 : w.cell? ⟨adA.block, adA.off + 1, none⟩ = some (.int .i64 a.f1))
  (hB0 : w.cell? adB = some (.int .i64 b.f0)) (hB1 : w.cell? ⟨adB.block, adB.off + 1, none⟩ = some (.int .i64 b.f1)) :
  Calls Try.prog 158 #[.slice (some adA) 2 2, .slice (some adB) 2 2] w fun e w' => e = .returned (.int .i64 (pcmp a b)) ∧ Drawn0 w w' :=
 slices_Compare_int_int.calls 4 (some adA) 2 [a.f0, a.f1] (some adB) 2 [b.f0, b.f1] (pcmp a b) w (pair_reads hA0 hA1) (Nat.le_refl _) (pair_reads hB0 hB1) (Nat.le_refl _) (pcmp_f a b)
theorem pcmp_quiet (adA adB : Addr) (a b : S71) (w : World) (n : Nat) (hA0 : w.cell? adA = some (.int .i64 a.f0)) (hA1 : w.cell? ⟨adA.block, adA.off + 1, none⟩ = some (.int .i64 a.f1))
  (hB0 : w.cell? adB = some (.int .i64 b.f0)) (hB1 : w.cell? ⟨adB.block, adB.off + 1, none⟩ = some (.int .i64 b.f1)) :
  Calls Try.prog 158 #[.slice (some adA) 2 2, .slice (some adB) 2 2] (w.drewN n) fun e w'' => e = .returned (.int .i64 (pcmp a b)) ∧ ∃ m, w'' = w.drewN m :=
 Calls.quiet_of ((pcmp_calls adA adB a b (w.drewN n) hA0 hA1 hB0 hB1).mono (fun _ _ h => And.imp id Drawn0.out h))
def impl_IsGraph.l0 : Nat → List (S71) → Int → Int → Option Bool
 | 0, _, _, _ => none
 | k + 1, l, s, i => if i < (l.length : Int) then (if 0 ≤ i then (if (rd_T71 l i).f0 < 0 then some false else if (rd_T71 l i).f0 ≥ (rd_T71 l i).f1 then some false else if (rd_T71 l i).f1 ≥ s then some false else if i > 0 then (if 0 ≤ pcmp (rd_T71 l (wrap64 (i - 1))) (rd_T71 l i) then some false else impl_IsGraph.l0 k l s (wrap64 (i + 1))) else impl_IsGraph.l0 k l s (wrap64 (i + 1))) else none) else some true
def impl_IsGraph.f (k : Nat) (a0_0 : Int) (l0_1 : List (S71)) : Option Bool := if 0 ≤ a0_0 ∧ a0_0 ≤ 8 then impl_IsGraph.l0 k l0_1 a0_0 0 else some false
theorem impl_IsGraph.mono_l : ∀ k l s i, LeO (impl_IsGraph.l0 k l s i) (impl_IsGraph.l0 (k + 1) l s i)
 | 0, _, _, _ => fun r h => by simp [impl_IsGraph.l0] at h
 | k + 1, l, s, i => by
  have ih := impl_IsGraph.mono_l k
  unfold impl_IsGraph.l0
  exact LeO.ite (LeO.ite (LeO.ite (LeO.refl _) (LeO.ite (LeO.refl _) (LeO.ite (LeO.refl _) (LeO.ite (LeO.ite (LeO.refl _) (ih _ _ _)) (ih _ _ _))))) (LeO.refl _)) (LeO.refl _)
theorem impl_IsGraph.mono : ∀ a0 a1 k, LeO (impl_IsGraph.f k a0 a1) (impl_IsGraph.f (k + 1) a0 a1) := by
 intro a0 a1 k
 unfold impl_IsGraph.f
 exact LeO.ite (impl_IsGraph.mono_l _ _ _ _) (LeO.refl _)
set_option maxHeartbeats 8000000 in
set_option maxRecDepth 100000 in
theorem impl_IsGraph.calls (k : Nat) (a0_0 : Int) (A0_1 : Option Addr) (c0_1 : Nat) (l0_1 : List (S71)) (r : Bool) (w : World) (hr0_1 : Kd.C k71 w A0_1 l0_1.length l0_1) (hc0_1 : l0_1.length ≤ c0_1) (h : impl_IsGraph.f k a0_0 l0_1 = some r) :
  Calls Try.prog 71 #[.agg #[.int .i64 a0_0, .slice A0_1 l0_1.length c0_1]] w fun e w' => e = .returned (.bool r) ∧ Below w.heap.size w w' := by
 have hu29 := Try.underlying30
 have hu57 := Try.underlying71
 have HR0_1 := Aside0.mk hr0_1
 have HC0_1 := Aside0.mk hc0_1
 clear hr0_1 hc0_1
 have HB := am (Below.refl w.heap.size w)
 unfold impl_IsGraph.f at h
 by_cases c3 : 0 ≤ a0_0 ∧ a0_0 ≤ 8
 ·rw [if_pos c3] at h
  have A2 := am (show impl_within.f a0_0 0 8 = some true by unfold impl_within.f; rw [if_pos c3.1]; simp [c3.2]); clear c3; have H' := Aside0.mk h; clear h
  go_enter Try.func71, Try.ntmps71
  go_wp2_with (first | ((with_reducible refine gate_dst (N := 1) rfl ?_); refine box_event (by rfl) (N := 1) (by rfl) (cs := #[.int .i64 a0_0, .slice A0_1 l0_1.length c0_1]) (t := 30) Qr ?_; intro gb141 hg w4 hbox hb; replace HB := am (below_step HB.out hb); have BK141 := am (hbox); have GE141 := am ((by rw [hg]; exact Nat.le_refl _) : w.heap.size ≤ gb141); clear hb hbox hg; obtain ⟨hcz5_0, hfz5_0, hcz5_1, hfz5_1⟩ := b2 BK141) | ((with_reducible refine gate_callee (f := 107) rfl ?_); refine goesL_ (some 7) rfl rfl Try.func107 (by kernel_rfl) rfl #[.int .i64 a0_0, .int .i64 0, .int .i64 8] rfl Q170 ?_; (with_reducible refine (impl_within.calls a0_0 0 8 true _ A2.out).mono ?_); rintro e w' ⟨rfl, ⟨nd, rfl⟩⟩; refine ⟨_, rfl, ?_⟩))
  go_loopg [12] k (fun kq v12 w' => ∃ (i : Int), v12 = .int .i64 i ∧ Aside0 (impl_IsGraph.l0 kq l0_1 a0_0 i = some r) ∧ Aside0 (kq ≤ k) ∧ Aside0 (w'.heap[gb141]? = some (.cells #[.int .i64 a0_0, .slice A0_1 l0_1.length c0_1] 30 (0, 0))) ∧ Aside0 (Below w.heap.size w w'))
  case atStart => exact ⟨0, Q17, H', ⟨Nat.le_refl _⟩, ⟨Q0 BK141⟩, ⟨Q4 HB GE141⟩⟩
  case round =>
   clear H'
   obtain ⟨i, rfl, HA, HK1, BK141, HB⟩ := hrel
   cases gk with
   | zero => exact absurd HA.out (by simp [impl_IsGraph.l0])
   | succ k1 =>
    have H := HA.out; clear HA
    simp only [impl_IsGraph.l0] at H
    by_cases c6 : i < (l0_1.length : Int)
    ·rw [if_pos c6] at H
     have c6b0 : decide (i < (l0_1.length : Int)) = true := decide_eq_true c6
     obtain ⟨c7, H⟩ := ifn H
     have c7b0 : decide (0 ≤ i) = true := decide_eq_true c7; obtain ⟨ad143, e143, hx143_0, hx143_1⟩ := at_T71 HR0_1.out i c7 c6
     cases e143
     replace hx143_0 := (HB.out.cell (World.block_lt_of_cell? w _ hx143_0)).trans hx143_0; replace hx143_1 := (HB.out.cell (World.block_lt_of_cell? w _ hx143_1)).trans hx143_1; have C6 := Aside0.mk c6; have C7 := Aside0.mk c7; replace c7 := eq_true c7; replace c6 := eq_true c6; have H' := Aside0.mk H; clear H
     go_upto_region 6 with (first | ((with_reducible refine gate_dst (N := 4) rfl ?_); refine box_event (by rfl) (N := 4) (by rfl) (cs := #[.int .i64 0, .int .i64 0]) (t := 71) Qr ?_; intro gb144 hg w10 hbox hb; have BK144 := am (hbox); have GE144 := am ((by rw [hg]; exact below_size (Q4 HB GE141)) : w.heap.size ≤ gb144); replace HB := am (below_step (Q4 HB GE141) hb); have NB := am ((by rw [hg]; exact Nat.ne_of_lt (blk_lt (Q0 BK141 : _ = some (.cells #[.int .i64 a0_0, .slice (some ad143) l0_1.length c0_1] 30 (0, 0))))) : gb141 ≠ gb144); replace BK141 := bb BK141 hb; clear hb hbox hg; obtain ⟨hcz11_0, hfz11_0, hcz11_1, hfz11_1⟩ := b2 BK144))
     have n0_ : Aside0 (((w10.setCell ⟨gb144, 0, none⟩ (.int .i64 (rd_T71 l0_1 i).f0)).setCell ⟨gb144, 1, none⟩ (.int .i64 (rd_T71 l0_1 i).f1)).heap[gb141]? = some (.cells #[.int .i64 a0_0, .slice (some ad143) l0_1.length c0_1] 30 (0, 0))) := ⟨by (with_reducible repeat (first | refine blk_drewN ?_ _ | refine blk_drew ?_ | refine blk_alloc ?_ _)); refine blk_far ?_ NB.out _; (with_reducible repeat (first | refine blk_drewN ?_ _ | refine blk_drew ?_ | refine blk_alloc ?_ _)); refine blk_far ?_ NB.out _; (with_reducible repeat (first | refine blk_drewN ?_ _ | refine blk_drew ?_ | refine blk_alloc ?_ _)); exact BK141.out⟩; have n1_ : Aside0 (((w10.setCell ⟨gb144, 0, none⟩ (.int .i64 (rd_T71 l0_1 i).f0)).setCell ⟨gb144, 1, none⟩ (.int .i64 (rd_T71 l0_1 i).f1)).heap[gb144]? = some (.cells #[.int .i64 (rd_T71 l0_1 i).f0, .int .i64 (rd_T71 l0_1 i).f1] 71 (0, 0))) := ⟨by (with_reducible repeat (first | refine blk_drewN ?_ _ | refine blk_drew ?_ | refine blk_alloc ?_ _)); refine blk_put (cs := #[.int .i64 (rd_T71 l0_1 i).f0, .int .i64 0]) ?_ 1 _ rfl; (with_reducible repeat (first | refine blk_drewN ?_ _ | refine blk_drew ?_ | refine blk_alloc ?_ _)); refine blk_put (cs := #[.int .i64 0, .int .i64 0]) ?_ 0 _ rfl; (with_reducible repeat (first | refine blk_drewN ?_ _ | refine blk_drew ?_ | refine blk_alloc ?_ _)); exact BK144.out⟩; have n2_ : Aside0 (Below w.heap.size w ((w10.setCell ⟨gb144, 0, none⟩ (.int .i64 (rd_T71 l0_1 i).f0)).setCell ⟨gb144, 1, none⟩ (.int .i64 (rd_T71 l0_1 i).f1))) := ⟨Q52 HB GE144 GE141⟩; clear BK141 BK144 HB
     generalize ((w10.setCell ⟨gb144, 0, none⟩ (.int .i64 (rd_T71 l0_1 i).f0)).setCell ⟨gb144, 1, none⟩ (.int .i64 (rd_T71 l0_1 i).f1)) = w13 at n0_ n1_ n2_ ⊢; have BK141 := n0_; have BK144 := n1_; have HB := n2_; clear n0_ n1_ n2_; have hcz14_0 : w13.cell? ⟨gb141, 0, none⟩ = some (.int .i64 a0_0) := (blk_cell BK141.out 0).trans rfl; have hcz14_1 : w13.cell? ⟨gb141, 1, none⟩ = some (.slice (some ad143) l0_1.length c0_1) := (blk_cell BK141.out 1).trans rfl; have hcz15_0 : w13.cell? ⟨gb144, 0, none⟩ = some (.int .i64 (rd_T71 l0_1 i).f0) := (blk_cell BK144.out 0).trans rfl; have hcz15_1 : w13.cell? ⟨gb144, 1, none⟩ = some (.int .i64 (rd_T71 l0_1 i).f1) := (blk_cell BK144.out 1).trans rfl; have H := H'.out; clear H'
     by_cases d1 : (rd_T71 l0_1 i).f0 < 0
     ·rw [if_pos d1] at H
      obtain rfl := Option.some.inj H; have d1b : decide ((rd_T71 l0_1 i).f0 < 0) = true := decide_eq_true d1; clear d1
      go_quiet (fail)
      go_wp2
      go_ret
      exact ⟨Q17, (Q52 HB GE144 GE141)⟩
     ·rw [if_neg d1] at H
      have d1b : decide ((rd_T71 l0_1 i).f0 < 0) = false := decide_eq_false d1; clear d1
      by_cases d2 : (rd_T71 l0_1 i).f0 ≥ (rd_T71 l0_1 i).f1
      ·rw [if_pos d2] at H
       obtain rfl := Option.some.inj H; have d2b : decide ((rd_T71 l0_1 i).f1 ≤ (rd_T71 l0_1 i).f0) = true := decide_eq_true d2; clear d2
       go_quiet (fail)
       go_wp2
       go_ret
       exact ⟨Q17, (Q52 HB GE144 GE141)⟩
      ·rw [if_neg d2] at H
       have d2b : decide ((rd_T71 l0_1 i).f1 ≤ (rd_T71 l0_1 i).f0) = false := decide_eq_false d2; clear d2
       by_cases d3 : (rd_T71 l0_1 i).f1 ≥ a0_0
       ·rw [if_pos d3] at H
        obtain rfl := Option.some.inj H; have d3b : decide (a0_0 ≤ (rd_T71 l0_1 i).f1) = true := decide_eq_true d3; clear d3
        go_quiet (fail)
        go_wp2
        go_ret
        exact ⟨Q17, (Q52 HB GE144 GE141)⟩
       ·rw [if_neg d3] at H
        have d3b : decide (a0_0 ≤ (rd_T71 l0_1 i).f1) = false := decide_eq_false d3; clear d3
        by_cases d4 : i > 0
        ·rw [if_pos d4] at H
         have d4b : decide (0 < i) = true := decide_eq_true d4; obtain ⟨j, hj⟩ : ∃ j : Int, wrap64 (i - 1) = j := ⟨_, rfl⟩; rw [hj] at H; have hjn : j = i - 1 := by have h1 := C6.out; have h2 := HR0_1.out.2.1; have h3 := hj.symm; unfold wrap64 at h3; omega
         have p1 : 0 ≤ j := by omega
         have q1 : j < (l0_1.length : Int) := by have h1 := C6.out; omega
         have HJN := Aside0.mk hjn; clear hjn d4; have hjw : (IntKind.i64.wrap (i - 1)) = j := (i64_w _).trans hj; obtain ⟨ad1, e1, hy0, hy1⟩ := at_T71 HR0_1.out j p1 q1
         cases e1
         replace hy0 := (HB.out.cell (World.block_lt_of_cell? w _ hy0)).trans hy0; replace hy1 := (HB.out.cell (World.block_lt_of_cell? w _ hy1)).trans hy1; replace p1 := eq_true p1; replace q1 := eq_true q1; have HP := Lib.hid hy0; have HP1 := Lib.hid hy1; clear hy0 hy1; have HE0 := Lib.hid hcz15_0; have HE1 := Lib.hid hcz15_1
         by_cases d5 : 0 ≤ pcmp (rd_T71 l0_1 j) (rd_T71 l0_1 i)
         ·rw [if_pos d5] at H
          obtain rfl := Option.some.inj H; have d5b : decide (0 ≤ pcmp (rd_T71 l0_1 j) (rd_T71 l0_1 i)) = true := decide_eq_true d5; clear d5
          go_quiet ((go_at_call 158; exact pcmp_quiet (ad143.add (j.toNat * 2)) ⟨gb144, 0, none⟩ (rd_T71 l0_1 j) (rd_T71 l0_1 i) _ _ HP.out HP1.out HE0.out HE1.out))
          go_wp2
          go_ret
          exact ⟨Q17, (Q52 HB GE144 GE141)⟩
         ·rw [if_neg d5] at H
          have d5b : decide (0 ≤ pcmp (rd_T71 l0_1 j) (rd_T71 l0_1 i)) = false := decide_eq_false d5; clear d5; have H' := Aside0.mk H; clear H
          go_quiet ((go_at_call 158; exact pcmp_quiet (ad143.add (j.toNat * 2)) ⟨gb144, 0, none⟩ (rd_T71 l0_1 j) (rd_T71 l0_1 i) _ _ HP.out HP1.out HE0.out HE1.out))
          go_wp2
          go_roundg k1
          case measure => have := HK1.out; omega
          case rel => exact ⟨(wrap64 (i + 1)), Q17, H', ⟨Q163⟩, ⟨Q0 BK141⟩, ⟨Q52 HB GE144 GE141⟩⟩
        ·rw [if_neg d4] at H
         have d4b : decide (0 < i) = false := decide_eq_false d4; clear d4; have H' := Aside0.mk H; clear H
         go_quiet (fail)
         go_wp2
         go_roundg k1
         case measure => have := HK1.out; omega
         case rel => exact ⟨(wrap64 (i + 1)), Q17, H', ⟨Q163⟩, ⟨Q0 BK141⟩, ⟨Q52 HB GE144 GE141⟩⟩
    ·rw [if_neg c6] at H
     have c6b0 : decide (i < (l0_1.length : Int)) = false := decide_eq_false c6; clear c6; obtain rfl := Option.some.inj H
     go_wp2
     go_ret
     exact ⟨Q17, (Q4 HB GE141)⟩
 ·rw [if_neg c3] at h
  obtain rfl := Option.some.inj h; have A2 := am (show impl_within.f a0_0 0 8 = some false by unfold impl_within.f; split <;> simp; omega); clear c3 h
  go_enter Try.func71, Try.ntmps71
  go_wp2_with (first | ((with_reducible refine gate_dst (N := 1) rfl ?_); refine box_event (by rfl) (N := 1) (by rfl) (cs := #[.int .i64 a0_0, .slice A0_1 l0_1.length c0_1]) (t := 30) Qr ?_; intro gb141 hg w4 hbox hb; replace HB := am (below_step HB.out hb); have BK141 := am (hbox); have GE141 := am ((by rw [hg]; exact Nat.le_refl _) : w.heap.size ≤ gb141); clear hb hbox hg; obtain ⟨hcz5_0, hfz5_0, hcz5_1, hfz5_1⟩ := b2 BK141) | ((with_reducible refine gate_callee (f := 107) rfl ?_); refine goesL_ (some 7) rfl rfl Try.func107 (by kernel_rfl) rfl #[.int .i64 a0_0, .int .i64 0, .int .i64 8] rfl Q170 ?_; (with_reducible refine (impl_within.calls a0_0 0 8 false _ A2.out).mono ?_); rintro e w' ⟨rfl, ⟨nd, rfl⟩⟩; refine ⟨_, rfl, ?_⟩))
  go_ret
  exact ⟨Q17, (Q4 HB GE141)⟩
/-! ### impl_netOf: function 101 -/
def impl_netOf.l0 : Nat → List (S71) → Int → Int → List Int → Option (List Int)
 | 0, _, _, _, _ => none
 | k + 1, x11, x12, x13, x107000 => if x13 < x12 then (if 0 ≤ x13 then (if x13 < (x11.length : Int) then (if 0 ≤ ((rd_T71 x11 x13).f0) then (if ((rd_T71 x11 x13).f0) < (x107000.length : Int) then (if 0 ≤ ((rd_T71 x11 x13).f1) then ((some (x107000.set (((rd_T71 x11 x13).f0) : Int).toNat (Go.bits .or .i64 (rd x107000 ((rd_T71 x11 x13).f0)) (shl .i64 1 ((rd_T71 x11 x13).f1))) : List Int)).bind fun y110 => (if ((rd_T71 x11 x13).f1) < (x107000.length : Int) then (impl_netOf.l0 k x11 x12 (wrap64 (x13 + 1)) (y110.set (((rd_T71 x11 x13).f1) : Int).toNat (Go.bits .or .i64 (rd y110 ((rd_T71 x11 x13).f1)) (shl .i64 1 ((rd_T71 x11 x13).f0))))) else (none))) else (none)) else (none)) else (none)) else (none)) else (none)) else (some x107000)
def impl_netOf.f (k : Nat) (a0_0 : Int) (l0_1 : List (S71)) : Option (List Int) := if 0 ≤ a0_0 then (if (a0_0 : Int).toNat ≤ 35184372088832 then (impl_netOf.l0 k l0_1 (l0_1.length : Int) 0 (List.replicate (a0_0 : Int).toNat 0)) else (none)) else (none)
theorem impl_netOf.mono_l : ∀ k, (∀ y0 y1 y2 y3, LeO (impl_netOf.l0 k y0 y1 y2 y3) (impl_netOf.l0 (k + 1) y0 y1 y2 y3))
 | 0 => fun _ _ _ _ r h => by simp [impl_netOf.l0] at h
 | k + 1 => by
  have ih0 := impl_netOf.mono_l k
  all_goals
   intros
   first | unfold impl_netOf.l0
   repeat' first | (with_reducible first | exact ih0 _ _ _ _ | exact LeO.refl _ | exact LeO.none _ | refine LeO.ite ?_ ?_ | refine LeO.bind ?_ (fun _ => ?_))
theorem impl_netOf.mono : ∀ a0 a1 k, LeO (impl_netOf.f k a0 a1) (impl_netOf.f (k + 1) a0 a1) := by
 intro a0 a1 k
 have ih0 := impl_netOf.mono_l k
 unfold impl_netOf.f
 repeat' first | (with_reducible first | exact ih0 _ _ _ _ | exact LeO.refl _ | exact LeO.none _ | refine LeO.ite ?_ ?_ | refine LeO.bind ?_ (fun _ => ?_))
def impl_netOf.T5 : Bool × List (List Nat × List Nat) := (true, [([], []), ([0], [0]), ([], []), ([2], [2]), ([1, 3], [1, 3]), ([4], [4]), ([], []), ([6], [6]), ([7], [7]), ([5, 8], [5, 8]), ([1, 3, 0, 1, 2, 3, 4, 5, 6, 7, 8, 9], [1, 3]), ([10, 9, 0, 1, 2, 3, 4, 5, 6, 7, 8, 9], [9, 10])])
def impl_netOf.B5 : List Nat := [0, 1, 0, 4, 15, 31, 0, 64, 192, 511, 1023, 2047]
theorem impl_netOf.tab5 : rtab .any (opsOf Try.f101 5) = impl_netOf.T5 := by kernel_rfl
theorem impl_netOf.bits5 : waitsOk impl_netOf.T5.2 impl_netOf.B5 = true := by kernel_rfl
def impl_netOf.T6 : Bool × List (List Nat × List Nat) := (true, [([], []), ([0], [0]), ([], []), ([2], [2]), ([1, 3], [1, 3]), ([4], [4]), ([], []), ([6], [6]), ([7], [7]), ([5, 8], [5, 8]), ([1, 3, 0, 1, 2, 3, 4, 5, 6, 7, 8, 9], [1, 3]), ([10, 9, 0, 1, 2, 3, 4, 5, 6, 7, 8, 9], [9, 10])])
def impl_netOf.B6 : List Nat := [0, 1, 0, 4, 15, 31, 0, 64, 192, 511, 1023, 2047]
theorem impl_netOf.tab6 : rtab .any (opsOf Try.f101 6) = impl_netOf.T6 := by kernel_rfl
theorem impl_netOf.bits6 : waitsOk impl_netOf.T6.2 impl_netOf.B6 = true := by kernel_rfl
set_option maxHeartbeats 8000000 in
set_option maxRecDepth 100000 in
theorem impl_netOf.calls (k : Nat) (a0_0 : Int) (A0_1 : Option Addr) (c0_1 : Nat) (l0_1 : List (S71)) (r : List Int) (w : World) (hr0_1 : Kd.C k71 w A0_1 l0_1.length l0_1) (hc0_1 : l0_1.length ≤ c0_1) (h : impl_netOf.f k a0_0 l0_1 = some r) :
  Calls Try.prog 101 #[.agg #[.int .i64 a0_0, .slice A0_1 l0_1.length c0_1]] w fun e w' => ∃ v0_ : Value, e = .returned (.agg #[v0_]) ∧ Kd.R (Kd.int .i64) 3 w' w.heap.size (fun _ => True) v0_ r ∧ Below w.heap.size w w' := by
 have hu30 := Try.underlying30
 have hu90 := Try.underlying90
 have hu71 := Try.underlying71
 have HR0_1 := Aside0.mk hr0_1
 have HC0_1 := Aside0.mk hc0_1
 clear hr0_1 hc0_1
 have HB := am (Below.refl w.heap.size w)
 have H : (if 0 ≤ a0_0 then (if (a0_0 : Int).toNat ≤ 35184372088832 then (impl_netOf.l0 k l0_1 (l0_1.length : Int) 0 (List.replicate (a0_0 : Int).toNat 0)) else (none)) else (none)) = some r := h
 clear h
 by_cases c2 : 0 ≤ a0_0
 ·rw [if_pos c2] at H
  have c2b0 := eq_true c2; have c2b1 := decide_eq_true c2; clear c2
  obtain ⟨c3, H⟩ := ifn H
  have c3b0 := eq_true c3; have c3b1 := decide_eq_true c3; clear c3; obtain ⟨y103, hy103⟩ : ∃ y_ : List Int, y_ = (List.replicate (a0_0 : Int).toNat 0) := ⟨_, rfl⟩; replace H : (impl_netOf.l0 k l0_1 (l0_1.length : Int) 0 y103) = some r := RH hy103 H; have Ny103 := Aside0.mk hy103; clear hy103; have H' := Aside0.mk H; clear H
  go_enter Try.func101, Try.ntmps101
  go_wp2_with (first | ((with_reducible refine gate_dst (N := 1) rfl ?_); refine box_event (by rfl) (N := 1) (by rfl) (cs := #[.int .i64 a0_0, .slice A0_1 l0_1.length c0_1]) (t := 30) Qr ?_; intro gb101 hg w4 hbox hb; have BK101 := am (hbox); have GE101 := ge HB hg; replace HB := bs HB hb; clear hb hbox hg) | ((with_reducible refine gate_dst (N := 2) rfl ?_); refine box_event (by rfl) (N := 2) (by rfl) (cs := #[.slice none 0 0]) (t := 90) Qr ?_; intro gb102 hg w5 hbox hb; have BK102 := am (hbox); have GE102 := ge HB hg; replace HB := bs HB hb; obtain ⟨NB101_102, NB102_101⟩ := ne2 BK101 hg; replace BK101 := bb BK101 hb; clear hb hbox hg; obtain ⟨_, _⟩ := o2 NB101_102 NB102_101; obtain ⟨_, _, _, _⟩ := b2 BK101) | ((with_reducible refine gate_dst (N := 8) rfl ?_); refine Kd.R_make (Kd.int .i64) _ 3 rfl (N := 8) rfl 25 _ _ rfl a0_0 rfl rfl Try.underlying25 (.int .i64 0) 8 info3 rfl (by decide) (by omega) 0 (ok := fun _ => True) (okp := fun _ => True) rfl (fun _ hk => hk) trivial (D4) (Nat.le_trans (Nat.mul_le_mul_right _ (D4 : a0_0.toNat ≤ 35184372088832)) (by omega)) (Below.refl _ _) (Nat.le_refl _) ?_; intro v104 w8 ho9 hb hg_ hnew_; clear hg_ hnew_; (first | rw [← Ny103.out] at ho9 | (simp only [Int.reduceToNat] at ho9; rw [← Ny103.out] at ho9)); have HO105 := am (Kd.R_lower ho9 (below_size (Q1 HB))); replace BK101 := bb BK101 hb; replace BK102 := bb BK102 hb; replace HB := bs HB hb; clear hb ho9; obtain ⟨Ao10, co10, eo10⟩ := Kd.R_slice HO105.out; subst eo10) | ((with_reducible refine gate_dst (N := 3) rfl ?_); refine box_event (by rfl) (N := 3) (by rfl) (cs := #[.slice none 0 0]) (t := 90) Qr ?_; intro gb106 hg w11 hbox hb; replace HO105 := am (Kd.R_below (Q5 HO105) hb); have BK106 := am (hbox); have GE106 := ge HB hg; replace HB := bs HB hb; obtain ⟨NB101_106, NB106_101⟩ := ne2 BK101 hg; replace BK101 := bb BK101 hb; have NB102_106 := am ((by rw [hg]; exact Nat.ne_of_lt (blk_lt (g := gb102) (o := .cells #[.slice none 0 0] 90 (0, 0)) (Q0 BK102)) : gb102 ≠ gb106)); have NB106_102 := am ((by rw [hg]; exact Nat.ne_of_gt (blk_lt (g := gb102) (o := .cells #[.slice none 0 0] 90 (0, 0)) (Q0 BK102)) : gb106 ≠ gb102)); replace BK102 := bb BK102 hb; clear hb hbox hg; obtain ⟨_, _, _, _⟩ := o4 NB106_101 NB101_106 NB106_102 NB102_106; obtain ⟨_, _⟩ := b1 BK106; obtain ⟨_, _, _, _⟩ := b2 BK101))
  go_loopg [13] k (fun kq v13 w' => ∃ (x13_1 : Int) (x107000_1 : List Int) (u107000 : Value), v13 = .int .i64 x13_1 ∧ Aside0 (impl_netOf.l0 kq l0_1 (l0_1.length : Int) x13_1 x107000_1 = some r) ∧ Aside0 (kq ≤ k) ∧ Aside0 (Kd.R (Kd.int .i64) 3 w' w.heap.size (fun _ => True) u107000 x107000_1) ∧ Aside0 (w'.heap[gb101]? = some (.cells #[.int .i64 a0_0, (.slice A0_1 l0_1.length c0_1)] 30 (0, 0))) ∧ Aside0 (w'.heap[gb102]? = some (.cells #[(.slice none 0 0)] 90 (0, 0))) ∧ Aside0 (w'.heap[gb106]? = some (.cells #[u107000] 90 (0, 0))) ∧ Aside0 (Below w.heap.size w w'))
  case atStart => exact ⟨(0), (y103), (.slice Ao10 y103.length co10), Q17, H', ⟨Nat.le_refl _⟩, ⟨by (with_reducible repeat (first | apply Kd.R_alloc | apply Kd.R_drewN | apply Kd.R_drew)); exact Kd.R_mono (Kd.R_far (p := ⟨gb106, 0, none⟩) (Kd.R_types HO105.out BK106.out (by decide)) (fun _ hk => hk.2) (.slice Ao10 y103.length co10)) (fun _ hk => trivial)⟩, ⟨Q26 NB101_106 BK101⟩, ⟨Q26 NB102_106 BK102⟩, ⟨Q152 BK106⟩, ⟨Q4 HB GE106⟩⟩
  case round =>
   clear H'
   obtain ⟨x13_1, x107000_1, u107000, rfl, HA, HK1, HO_107000, BK101, BK102, BK106, HB⟩ := hrel
   cases gk with
   | zero => exact absurd HA.out (by simp [impl_netOf.l0])
   | succ k1 =>
    have H := HA.out; clear HA
    simp only [impl_netOf.l0] at H
    by_cases c16 : x13_1 < (l0_1.length : Int)
    ·rw [if_pos c16] at H
     have c16b0 := decide_eq_true c16; clear c16
     obtain ⟨c17, H⟩ := ifn H
     have c17b0 := decide_eq_true c17; clear c17
     obtain ⟨c18, H⟩ := ifn H
     have c18b0 := decide_eq_true c18; clear c18
     obtain ⟨c19, H⟩ := ifn H
     have c19b0 := decide_eq_true c19; clear c19
     obtain ⟨c20, H⟩ := ifn H
     have c20b0 := decide_eq_true c20; clear c20
     obtain ⟨c21, H⟩ := ifn H
     have c21b0 := eq_true c21; have c21b1 := decide_eq_true c21; clear c21; obtain ⟨ji22, hji22⟩ : ∃ j_ : Int, (shl .i64 1 ((rd_T71 l0_1 x13_1).f1)) = j_ := ⟨_, rfl⟩; replace H : ((some (x107000_1.set (((rd_T71 l0_1 x13_1).f0) : Int).toNat (Go.bits .or .i64 (rd x107000_1 ((rd_T71 l0_1 x13_1).f0)) (ji22)) : List Int)).bind fun y110 => (if ((rd_T71 l0_1 x13_1).f1) < (x107000_1.length : Int) then (impl_netOf.l0 k1 l0_1 (l0_1.length : Int) (wrap64 (x13_1 + 1)) (y110.set (((rd_T71 l0_1 x13_1).f1) : Int).toNat (Go.bits .or .i64 (rd y110 ((rd_T71 l0_1 x13_1).f1)) (shl .i64 1 ((rd_T71 l0_1 x13_1).f0))))) else (none))) = some r := by first | (rw [hji22] at H; exact H) | (simp only [hji22] at H ⊢; exact H)
     have hji22_ : (IntKind.i64.wrap (1 * 2 ^ min ((rd_T71 l0_1 x13_1).f1).toNat 64)) = ji22 := hji22; have hji22z : ((rd_T71 l0_1 x13_1).f1) ≤ 64 → (IntKind.i64.wrap (1 * 2 ^ ((rd_T71 l0_1 x13_1).f1).toNat)) = ji22 := shl_small hji22; have hji22u : (IntKind.i64.wrap (2 ^ min ((rd_T71 l0_1 x13_1).f1).toNat 64)) = ji22 := by have h_ := hji22_; rw [Int.one_mul] at h_; exact h_
     have hji22v : ((rd_T71 l0_1 x13_1).f1) ≤ 64 → (IntKind.i64.wrap (2 ^ ((rd_T71 l0_1 x13_1).f1).toNat)) = ji22 := fun hle_ => by have h_ := hji22z hle_; rw [Int.one_mul] at h_; exact h_
     have hji22y : (wrap64 (1 * 2 ^ min ((rd_T71 l0_1 x13_1).f1).toNat 64)) = ji22 := (i64_w _).symm.trans hji22_; have hji22x : ((rd_T71 l0_1 x13_1).f1) ≤ 64 → (wrap64 (1 * 2 ^ ((rd_T71 l0_1 x13_1).f1).toNat)) = ji22 := fun h_ => (i64_w _).symm.trans (hji22z h_)
     obtain ⟨y110, hy110⟩ : ∃ y_ : List Int, y_ = (x107000_1.set (((rd_T71 l0_1 x13_1).f0) : Int).toNat (Go.bits .or .i64 (rd x107000_1 ((rd_T71 l0_1 x13_1).f0)) (ji22))) := ⟨_, rfl⟩; replace H : (if ((rd_T71 l0_1 x13_1).f1) < (x107000_1.length : Int) then (impl_netOf.l0 k1 l0_1 (l0_1.length : Int) (wrap64 (x13_1 + 1)) (y110.set (((rd_T71 l0_1 x13_1).f1) : Int).toNat (Go.bits .or .i64 (rd y110 ((rd_T71 l0_1 x13_1).f1)) (shl .i64 1 ((rd_T71 l0_1 x13_1).f0))))) else (none)) = some r := RH hy110 H; have Ny110 := Aside0.mk hy110; clear hy110
     obtain ⟨c24, H⟩ := ifn H
     have c24b0 := decide_eq_true c24; clear c24; have c25b0 := eq_true (D4 : 0 ≤ ((rd_T71 l0_1 x13_1).f0)); obtain ⟨ji26, hji26⟩ : ∃ j_ : Int, (shl .i64 1 ((rd_T71 l0_1 x13_1).f0)) = j_ := ⟨_, rfl⟩; replace H : (impl_netOf.l0 k1 l0_1 (l0_1.length : Int) (wrap64 (x13_1 + 1)) (y110.set (((rd_T71 l0_1 x13_1).f1) : Int).toNat (Go.bits .or .i64 (rd y110 ((rd_T71 l0_1 x13_1).f1)) (ji26)))) = some r := by first | (rw [hji26] at H; exact H) | (simp only [hji26] at H ⊢; exact H)
     have hji26_ : (IntKind.i64.wrap (1 * 2 ^ min ((rd_T71 l0_1 x13_1).f0).toNat 64)) = ji26 := hji26; have hji26z : ((rd_T71 l0_1 x13_1).f0) ≤ 64 → (IntKind.i64.wrap (1 * 2 ^ ((rd_T71 l0_1 x13_1).f0).toNat)) = ji26 := shl_small hji26; have hji26u : (IntKind.i64.wrap (2 ^ min ((rd_T71 l0_1 x13_1).f0).toNat 64)) = ji26 := by have h_ := hji26_; rw [Int.one_mul] at h_; exact h_
     have hji26v : ((rd_T71 l0_1 x13_1).f0) ≤ 64 → (IntKind.i64.wrap (2 ^ ((rd_T71 l0_1 x13_1).f0).toNat)) = ji26 := fun hle_ => by have h_ := hji26z hle_; rw [Int.one_mul] at h_; exact h_
     have hji26y : (wrap64 (1 * 2 ^ min ((rd_T71 l0_1 x13_1).f0).toNat 64)) = ji26 := (i64_w _).symm.trans hji26_; have hji26x : ((rd_T71 l0_1 x13_1).f0) ≤ 64 → (wrap64 (1 * 2 ^ ((rd_T71 l0_1 x13_1).f0).toNat)) = ji26 := fun h_ => (i64_w _).symm.trans (hji26z h_)
     obtain ⟨y112, hy112⟩ : ∃ y_ : List Int, y_ = (y110.set (((rd_T71 l0_1 x13_1).f1) : Int).toNat (Go.bits .or .i64 (rd y110 ((rd_T71 l0_1 x13_1).f1)) (ji26))) := ⟨_, rfl⟩; replace H : (impl_netOf.l0 k1 l0_1 (l0_1.length : Int) (wrap64 (x13_1 + 1)) y112) = some r := RH hy112 H; have Ny112 := Aside0.mk hy112; clear hy112; have H' := Aside0.mk H; clear H; have p107 : 0 ≤ (x13_1 : Int) := D4; have q107 : x13_1 < (l0_1.length : Int) := D4; obtain ⟨ad107, e107, hx107_0, hx107_1⟩ := at_T71 HR0_1.out x13_1 p107 q107
     cases e107
     replace hx107_0 := (HB.out.cell (World.block_lt_of_cell? w _ hx107_0)).trans hx107_0; replace hx107_1 := (HB.out.cell (World.block_lt_of_cell? w _ hx107_1)).trans hx107_1; replace p107 := eq_true p107; replace q107 := eq_true q107
     try go_wp2_with (first | ((with_reducible refine gate_dst (N := 5) rfl ?_); refine box_event (by rfl) (N := 5) (by rfl) (cs := #[.int .i64 0, .int .i64 0]) (t := 71) Qr ?_; intro gb108 hg w28 hbox hb; replace HO_107000 := am (Kd.R_below (by (with_reducible repeat (first | apply Kd.R_alloc | apply Kd.R_drewN | apply Kd.R_drew)); exact HO_107000.out) hb); have BK108 := am (hbox); have GE108 := ge HB hg; replace HB := bs HB hb; have NB101_108 := am ((by rw [hg]; exact Nat.ne_of_lt (blk_lt (g := gb101) (o := .cells #[.int .i64 a0_0, .slice (some ad107) l0_1.length c0_1] 30 (0, 0)) (Q0 BK101)) : gb101 ≠ gb108)); have NB108_101 := am ((by rw [hg]; exact Nat.ne_of_gt (blk_lt (g := gb101) (o := .cells #[.int .i64 a0_0, .slice (some ad107) l0_1.length c0_1] 30 (0, 0)) (Q0 BK101)) : gb108 ≠ gb101)); replace BK101 := bb BK101 hb; have NB102_108 := am ((by rw [hg]; exact Nat.ne_of_lt (blk_lt (g := gb102) (o := .cells #[.slice none 0 0] 90 (0, 0)) (Q0 BK102)) : gb102 ≠ gb108)); have NB108_102 := am ((by rw [hg]; exact Nat.ne_of_gt (blk_lt (g := gb102) (o := .cells #[.slice none 0 0] 90 (0, 0)) (Q0 BK102)) : gb108 ≠ gb102)); replace BK102 := bb BK102 hb; have NB106_108 := am ((by rw [hg]; exact Nat.ne_of_lt (blk_lt (g := gb106) (o := .cells #[u107000] 90 (0, 0)) (Q0 BK106)) : gb106 ≠ gb108)); have NB108_106 := am ((by rw [hg]; exact Nat.ne_of_gt (blk_lt (g := gb106) (o := .cells #[u107000] 90 (0, 0)) (Q0 BK106)) : gb108 ≠ gb106)); replace BK106 := bb BK106 hb; clear hb hbox hg; obtain ⟨_, _, _, _, _, _⟩ := o6 NB108_101 NB101_108 NB108_102 NB102_108 NB108_106 NB106_108; obtain ⟨_, _, _, _⟩ := b2 BK108))
     have n0_ : Aside0 (Kd.R (Kd.int .i64) 3 ((w28.setCell ⟨gb108, 0, none⟩ (.int .i64 ((rd_T71 l0_1 x13_1).f0))).setCell ⟨gb108, 1, none⟩ (.int .i64 ((rd_T71 l0_1 x13_1).f1))) w.heap.size (fun _ => True) u107000 x107000_1) := ⟨by (with_reducible repeat (first | apply Kd.R_alloc | apply Kd.R_drewN | apply Kd.R_drew)); exact Kd.R_mono (Kd.R_far (p := ⟨gb108, 1, none⟩) (Kd.R_far (p := ⟨gb108, 0, none⟩) (Kd.R_types HO_107000.out BK108.out (by decide)) (fun _ hk => hk.2) (.int .i64 ((rd_T71 l0_1 x13_1).f0))) (fun _ hk => hk.2) (.int .i64 ((rd_T71 l0_1 x13_1).f1))) (fun _ hk => trivial)⟩; have n1_ : Aside0 (((w28.setCell ⟨gb108, 0, none⟩ (.int .i64 ((rd_T71 l0_1 x13_1).f0))).setCell ⟨gb108, 1, none⟩ (.int .i64 ((rd_T71 l0_1 x13_1).f1))).heap[gb101]? = some (.cells #[.int .i64 a0_0, .slice (some ad107) l0_1.length c0_1] 30 (0, 0))) := ⟨Q2 NB101_108 BK101⟩; have n2_ : Aside0 (((w28.setCell ⟨gb108, 0, none⟩ (.int .i64 ((rd_T71 l0_1 x13_1).f0))).setCell ⟨gb108, 1, none⟩ (.int .i64 ((rd_T71 l0_1 x13_1).f1))).heap[gb102]? = some (.cells #[.slice none 0 0] 90 (0, 0))) := ⟨Q2 NB102_108 BK102⟩; have n3_ : Aside0 (((w28.setCell ⟨gb108, 0, none⟩ (.int .i64 ((rd_T71 l0_1 x13_1).f0))).setCell ⟨gb108, 1, none⟩ (.int .i64 ((rd_T71 l0_1 x13_1).f1))).heap[gb106]? = some (.cells #[u107000] 90 (0, 0))) := ⟨Q2 NB106_108 BK106⟩; have n4_ : Aside0 (((w28.setCell ⟨gb108, 0, none⟩ (.int .i64 ((rd_T71 l0_1 x13_1).f0))).setCell ⟨gb108, 1, none⟩ (.int .i64 ((rd_T71 l0_1 x13_1).f1))).heap[gb108]? = some (.cells #[.int .i64 ((rd_T71 l0_1 x13_1).f0), .int .i64 ((rd_T71 l0_1 x13_1).f1)] 71 (0, 0))) := ⟨by (with_reducible repeat (first | refine blk_drewN ?_ _ | refine blk_drew ?_ | refine blk_alloc ?_ _)); refine blk_put (cs := #[.int .i64 ((rd_T71 l0_1 x13_1).f0), .int .i64 0]) ?_ 1 _ rfl; (with_reducible repeat (first | refine blk_drewN ?_ _ | refine blk_drew ?_ | refine blk_alloc ?_ _)); refine blk_put (cs := #[.int .i64 0, .int .i64 0]) ?_ 0 _ rfl; (with_reducible repeat (first | refine blk_drewN ?_ _ | refine blk_drew ?_ | refine blk_alloc ?_ _)); exact BK108.out⟩; have n5_ : Aside0 (Below w.heap.size w ((w28.setCell ⟨gb108, 0, none⟩ (.int .i64 ((rd_T71 l0_1 x13_1).f0))).setCell ⟨gb108, 1, none⟩ (.int .i64 ((rd_T71 l0_1 x13_1).f1)))) := ⟨Q4 HB GE108⟩; (try clear HO_107000); (try clear BK101); (try clear BK102); (try clear BK106); (try clear BK108); (try clear HB); generalize ((w28.setCell ⟨gb108, 0, none⟩ (.int .i64 ((rd_T71 l0_1 x13_1).f0))).setCell ⟨gb108, 1, none⟩ (.int .i64 ((rd_T71 l0_1 x13_1).f1))) = w33 at n0_ n1_ n2_ n3_ n4_ n5_ ⊢; have HO_107000 := n0_; have BK101 := n1_; have BK102 := n2_; have BK106 := n3_; have BK108 := n4_; have HB := n5_; clear n0_ n1_ n2_ n3_ n4_ n5_; replace HO_107000 := am (Kd.R_drew HO_107000.out); replace BK101 := am (blk_drew BK101.out); replace BK102 := am (blk_drew BK102.out); replace BK106 := am (blk_drew BK106.out); replace BK108 := am (blk_drew BK108.out); replace HB := am (below_drew1 HB.out); obtain ⟨Ao35, co35, eo35⟩ := Kd.R_slice HO_107000.out
     (first | subst eo35 | (injection eo35 with f1_ f2_ f3_; have f4_ := f1_.symm; have f5_ := f3_.symm; clear f1_ f2_ f3_; subst f4_; subst f5_))
     have p109 : 0 ≤ (((rd_T71 l0_1 x13_1).f0) : Int) := D4; have q109 : ((rd_T71 l0_1 x13_1).f0) < (x107000_1.length : Int) := D4; obtain ⟨ad109, e109, hx109_0⟩ := Kd.at_int (Kd.R_reads' HO_107000.out).2.2 ((rd_T71 l0_1 x13_1).f0) p109 q109
     cases e109
     replace p109 := eq_true p109; replace q109 := eq_true q109; have p23 : 0 ≤ (((rd_T71 l0_1 x13_1).f0) : Int) := D4; have q23 : (((rd_T71 l0_1 x13_1).f0) : Int) < ((x107000_1.length : Int) : Int) := D4; obtain ⟨go23, co23, eo23, gb23, gl23, cl23, HG23⟩ := Kd.R_form HO_107000.out (by omega)
     (first | cases eo23 | (injection eo23 with ea_ en_ ec_; (first | subst ea_ | (injection ea_ with ea_; subst ea_)); subst ec_; clear en_))
     have GB23 := Aside0.mk gb23; have GG23 := Aside0.mk HG23; clear gb23 gl23 HG23
     (first | simp only [add_plain] at hx109_0 | skip)
     obtain ⟨hx23_0, hf23_0⟩ := Kd.R_celln 0 HO_107000.out (((rd_T71 l0_1 x13_1).f0) : Int) p23 q23; replace p23 := eq_true p23; replace q23 := eq_true q23; have HP36 := Kd.R_putn HO_107000.out (((rd_T71 l0_1 x13_1).f0) : Int) (Go.bits .or .i64 (rd x107000_1 ((rd_T71 l0_1 x13_1).f0)) (ji22)); rw [← Ny110.out] at HP36; have HQ36 := Aside0.mk HP36; clear HP36; refine start_ (n := 12) (S := fun w' => w'.cell? ⟨gb106, 0, none⟩ = some (.slice (some ⟨go23, 0, none⟩) x107000_1.length co35) ∧ w'.cell? ⟨gb108, 0, none⟩ = some (.int .i64 ((rd_T71 l0_1 x13_1).f0)) ∧ w'.cell? ⟨gb108, 1, none⟩ = some (.int .i64 ((rd_T71 l0_1 x13_1).f1)) ∧ w'.cell? ⟨go23, (((rd_T71 l0_1 x13_1).f0)).toNat, none⟩ = some (.int .i64 (rd x107000_1 ((rd_T71 l0_1 x13_1).f0)))) (ds := [11]) #[false, false, false, false, false, false, false, false, false, false, false, false] (by kernel_rfl) rfl rfl ⟨(blk_cell BK106.out 0).trans rfl, (blk_cell BK108.out 0).trans rfl, (blk_cell BK108.out 1).trans rfl, hx109_0⟩ (fun hHeld => ?_); refine with_tabW impl_netOf.tab5 impl_netOf.bits5 (fun HT_ HW_ => ?_); generalize w33.drew = w34 at HO_107000 BK101 BK102 BK106 BK108 HB GG23 HQ36 hf23_0 hx109_0 hx23_0 hHeld ⊢; refine pq 0 17 rfl rfl HT_ ?_; refine pq 2 19 rfl rfl HT_ ?_; refine pq 6 23 rfl rfl HT_ ?_; refine tq4 1 18 rfl rfl HT_ HW_ hHeld ?_; refine tq4 3 20 rfl rfl HT_ HW_ hHeld ?_; refine pq 4 21 rfl rfl HT_ ?_; refine tq4 5 22 rfl rfl HT_ HW_ hHeld ?_; refine tq4 7 24 rfl rfl HT_ HW_ hHeld ?_; refine pq 8 25 rfl rfl HT_ ?_; refine pq 9 26 rfl rfl HT_ ?_; refine pq 10 27 rfl rfl HT_ ?_; refine last_ (i := 11) (N := none) #[true, true, true, true, true, true, true, true, true, true, true, true] rfl rfl (one_of HT_.out (by kernel_rfl)) (by decide) (fun K hK => ?_); refine skip_ (w1 := ?_) (by rfl) rfl ?_ ?_
     rotate_left
     ·go_simp
      rfl
     refine hK.out _ _ ?_; clear hK K; refine done_ (done_of HT_.out (by kernel_rfl)) ?_
     try go_wp2
     have n0_ : Aside0 (Kd.R (Kd.int .i64) 3 (w34.setCell ⟨go23, (((rd_T71 l0_1 x13_1).f0) : Int).toNat, none⟩ (.int .i64 (Go.bits .or .i64 (rd x107000_1 ((rd_T71 l0_1 x13_1).f0)) (ji22)))) w.heap.size (fun _ => True) (.slice (some ⟨go23, 0, none⟩) x107000_1.length co35) y110) := ⟨by (with_reducible repeat (first | apply Kd.R_alloc | apply Kd.R_drewN | apply Kd.R_drew)); exact HQ36.out⟩; have n1_ : Aside0 ((w34.setCell ⟨go23, (((rd_T71 l0_1 x13_1).f0) : Int).toNat, none⟩ (.int .i64 (Go.bits .or .i64 (rd x107000_1 ((rd_T71 l0_1 x13_1).f0)) (ji22)))).heap[gb101]? = some (.cells #[.int .i64 a0_0, .slice (some ad107) l0_1.length c0_1] 30 (0, 0))) := ⟨Q60 BK101⟩; have n2_ : Aside0 ((w34.setCell ⟨go23, (((rd_T71 l0_1 x13_1).f0) : Int).toNat, none⟩ (.int .i64 (Go.bits .or .i64 (rd x107000_1 ((rd_T71 l0_1 x13_1).f0)) (ji22)))).heap[gb102]? = some (.cells #[.slice none 0 0] 90 (0, 0))) := ⟨Q60 BK102⟩; have n3_ : Aside0 ((w34.setCell ⟨go23, (((rd_T71 l0_1 x13_1).f0) : Int).toNat, none⟩ (.int .i64 (Go.bits .or .i64 (rd x107000_1 ((rd_T71 l0_1 x13_1).f0)) (ji22)))).heap[gb106]? = some (.cells #[.slice (some ⟨go23, 0, none⟩) x107000_1.length co35] 90 (0, 0))) := ⟨Q60 BK106⟩; have n4_ : Aside0 ((w34.setCell ⟨go23, (((rd_T71 l0_1 x13_1).f0) : Int).toNat, none⟩ (.int .i64 (Go.bits .or .i64 (rd x107000_1 ((rd_T71 l0_1 x13_1).f0)) (ji22)))).heap[gb108]? = some (.cells #[.int .i64 ((rd_T71 l0_1 x13_1).f0), .int .i64 ((rd_T71 l0_1 x13_1).f1)] 71 (0, 0))) := ⟨Q60 BK108⟩; have n5_ : Aside0 (Below w.heap.size w (w34.setCell ⟨go23, (((rd_T71 l0_1 x13_1).f0) : Int).toNat, none⟩ (.int .i64 (Go.bits .or .i64 (rd x107000_1 ((rd_T71 l0_1 x13_1).f0)) (ji22))))) := ⟨by repeat (first | (with_reducible first | exact HB.out | apply below_alloc | apply pw_below_drewN | apply below_drew1 | refine below_set ?_ GB23.out) | exact HB.out)⟩; (try clear HO_107000); (try clear BK101); (try clear BK102); (try clear BK106); (try clear BK108); (try clear HB); generalize (w34.setCell ⟨go23, (((rd_T71 l0_1 x13_1).f0) : Int).toNat, none⟩ (.int .i64 (Go.bits .or .i64 (rd x107000_1 ((rd_T71 l0_1 x13_1).f0)) (ji22)))) = w37 at n0_ n1_ n2_ n3_ n4_ n5_ ⊢; have HO_107000 := n0_; have BK101 := n1_; have BK102 := n2_; have BK106 := n3_; have BK108 := n4_; have HB := n5_; clear n0_ n1_ n2_ n3_ n4_ n5_; replace HO_107000 := am (Kd.R_drew HO_107000.out); replace BK101 := am (blk_drew BK101.out); replace BK102 := am (blk_drew BK102.out); replace BK106 := am (blk_drew BK106.out); replace BK108 := am (blk_drew BK108.out); replace HB := am (below_drew1 HB.out); have p111 : 0 ≤ (((rd_T71 l0_1 x13_1).f1) : Int) := D4; have q111 : ((rd_T71 l0_1 x13_1).f1) < (y110.length : Int) := (by have h_ : (((rd_T71 l0_1 x13_1).f1) : Int) < ((x107000_1.length : Int) : Int) := D4; first | (have e_ := (Kd.R_reads' HO_107000.out).1; omega) | simpa only [Ny110.out, List.length_set] using h_); have ql111 : ((((rd_T71 l0_1 x13_1).f1) : Int) < ((x107000_1.length : Int) : Int)) = True := eq_true (D4); obtain ⟨ad111, e111, hx111_0⟩ := Kd.at_int (Kd.R_reads' HO_107000.out).2.2 ((rd_T71 l0_1 x13_1).f1) p111 q111; obtain rfl : (⟨go23, 0, none⟩ : Addr) = ad111 := (by injection e111)
     (first | simp only [add_plain] at hx111_0 | simp only [add_at] at hx111_0 | simp only [Addr.add, Nat.zero_add] at hx111_0 | skip)
     replace p111 := eq_true p111; replace q111 := eq_true q111; have p27 : 0 ≤ (((rd_T71 l0_1 x13_1).f1) : Int) := D4; have q27 : (((rd_T71 l0_1 x13_1).f1) : Int) < ((x107000_1.length : Int) : Int) := D4; obtain ⟨hx27_0, hf27_0⟩ := Kd.R_celln 0 HO_107000.out (((rd_T71 l0_1 x13_1).f1) : Int) p27 q27; replace p27 := eq_true p27; replace q27 := eq_true q27; have HP39 := Kd.R_putn HO_107000.out (((rd_T71 l0_1 x13_1).f1) : Int) (Go.bits .or .i64 (rd y110 ((rd_T71 l0_1 x13_1).f1)) (ji26)); rw [← Ny112.out] at HP39; have HQ39 := Aside0.mk HP39; clear HP39; refine start_ (n := 12) (S := fun w' => w'.cell? ⟨gb106, 0, none⟩ = some (.slice (some ⟨go23, 0, none⟩) x107000_1.length co35) ∧ w'.cell? ⟨gb108, 0, none⟩ = some (.int .i64 ((rd_T71 l0_1 x13_1).f0)) ∧ w'.cell? ⟨gb108, 1, none⟩ = some (.int .i64 ((rd_T71 l0_1 x13_1).f1)) ∧ w'.cell? ⟨go23, (((rd_T71 l0_1 x13_1).f1)).toNat, none⟩ = some (.int .i64 (rd y110 ((rd_T71 l0_1 x13_1).f1)))) (ds := [11]) #[false, false, false, false, false, false, false, false, false, false, false, false] (by kernel_rfl) rfl rfl ⟨(blk_cell BK106.out 0).trans rfl, (blk_cell BK108.out 0).trans rfl, (blk_cell BK108.out 1).trans rfl, hx111_0⟩ (fun hHeld => ?_); refine with_tabW impl_netOf.tab6 impl_netOf.bits6 (fun HT_ HW_ => ?_); generalize w37.drew = w38 at HO_107000 BK101 BK102 BK106 BK108 HB HQ36 HQ39 hf27_0 hx111_0 hx27_0 hHeld ⊢; refine pq 0 28 rfl rfl HT_ ?_; refine pq 2 30 rfl rfl HT_ ?_; refine pq 6 34 rfl rfl HT_ ?_; refine tq4 1 29 rfl rfl HT_ HW_ hHeld ?_; refine tq4 3 31 rfl rfl HT_ HW_ hHeld ?_; refine pq 4 32 rfl rfl HT_ ?_; refine tq4 5 33 rfl rfl HT_ HW_ hHeld ?_; refine tq4 7 35 rfl rfl HT_ HW_ hHeld ?_; refine pq 8 36 rfl rfl HT_ ?_; refine pq 9 37 rfl rfl HT_ ?_; refine pq 10 38 rfl rfl HT_ ?_; refine last_ (i := 11) (N := none) #[true, true, true, true, true, true, true, true, true, true, true, true] rfl rfl (one_of HT_.out (by kernel_rfl)) (by decide) (fun K hK => ?_); refine skip_ (w1 := ?_) (by rfl) rfl ?_ ?_
     rotate_left
     ·go_simp
      rfl
     refine hK.out _ _ ?_; clear hK K; refine done_ (done_of HT_.out (by kernel_rfl)) ?_
     try go_wp2
     go_roundg k1
     case measure => have := HK1.out; omega
     case rel => exact ⟨(wrap64 (x13_1 + 1)), (y112), (.slice (some ⟨go23, 0, none⟩) x107000_1.length co35), Q17, H', ⟨Q163⟩, ⟨by (with_reducible repeat (first | apply Kd.R_alloc | apply Kd.R_drewN | apply Kd.R_drew)); exact HQ39.out⟩, ⟨Q60 BK101⟩, ⟨Q60 BK102⟩, ⟨Q60 BK106⟩, ⟨by repeat (first | (with_reducible first | exact HB.out | apply below_alloc | apply pw_below_drewN | apply below_drew1 | refine below_set ?_ GB23.out) | exact HB.out)⟩⟩
    ·rw [if_neg c16] at H
     have c16b0 := decide_eq_false c16; clear c16; obtain rfl := Option.some.inj H; obtain ⟨_, _, _, _⟩ := o4 NB106_101 NB101_106 NB106_102 NB102_106; obtain ⟨_, _⟩ := b1 BK106; obtain ⟨Ao43, co43, eo43⟩ := Kd.R_slice HO_107000.out; subst eo43; obtain ⟨_, _⟩ := o2 NB102_101 NB101_102; obtain ⟨_, _⟩ := b1 BK102
     go_wp2
     refine bodyPost_ret (results_cell_row rfl _ _ gb102 90 #[.slice Ao43 x107000_1.length co43] (0, 0) _ rfl (Q152 BK102) Try.underlying90 rfl (by kernel_rfl)) rfl ?_; exact ⟨_, Q19, by (with_reducible repeat (first | apply Kd.R_alloc | apply Kd.R_drewN | apply Kd.R_drew)); exact Kd.R_mono (Kd.R_far (p := ⟨gb102, 0, none⟩) (Kd.R_types HO_107000.out BK102.out (by decide)) (fun _ hk => hk.2) (.slice Ao43 x107000_1.length co43)) (fun _ hk => trivial), Q4 HB GE102⟩
 ·rw [if_neg c2] at H
  exact absurd H (by simp)
/-! ### impl_CartesianProduct_1: function 131 -/
def impl_CartesianProduct_1.f (a0 : Bool) (a1 : Bool) (a2 : Bool) (a3 : Bool) : Option (Bool) := if a0 = true then (if a3 = true then (some true) else (if a1 = true then (some a2) else (some false))) else (if a1 = true then (some a2) else (some false))
set_option maxHeartbeats 8000000 in
set_option maxRecDepth 100000 in
theorem impl_CartesianProduct_1.calls (a0 : Bool) (a1 : Bool) (a2 : Bool) (a3 : Bool) (r : Bool) (w : World) (h : impl_CartesianProduct_1.f a0 a1 a2 a3 = some r) :
  Calls Try.prog 131 #[.bool a0, .bool a1, .bool a2, .bool a3] w fun e w' => e = .returned (.bool r) ∧ Drawn0 w w' := by
 have H : (if a0 = true then (if a3 = true then (some true) else (if a1 = true then (some a2) else (some false))) else (if a1 = true then (some a2) else (some false))) = some r := h
 clear h
 by_cases c5 : a0 = true
 ·subst c5
  have H1 : (if a3 = true then (some true) else (if a1 = true then (some a2) else (some false))) = some r := by rw [if_pos rfl] at H; exact H
  clear H; have H := H1; clear H1
  by_cases c6 : a3 = true
  ·subst c6
   have H1 : (some true) = some r := by rw [if_pos rfl] at H; exact H
   clear H; have H := H1; clear H1; obtain rfl := Option.some.inj H
   go_enter Try.func131, Try.ntmps131
   go_wp2
   go_ret
   exact ⟨Q17, Q51⟩
  ·replace c6 := Bool.eq_false_iff.mpr c6
   subst c6; have H1 : (if a1 = true then (some a2) else (some false)) = some r := by rw [if_neg (show ¬ (false = true) by decide)] at H; exact H
   clear H; have H := H1; clear H1
   by_cases c7 : a1 = true
   ·subst c7
    have H1 : (some a2) = some r := by rw [if_pos rfl] at H; exact H
    clear H; have H := H1; clear H1; obtain rfl := Option.some.inj H
    go_enter Try.func131, Try.ntmps131
    go_wp2
    go_ret
    exact ⟨Q17, Q51⟩
   ·replace c7 := Bool.eq_false_iff.mpr c7
    subst c7; have H1 : (some false) = some r := by rw [if_neg (show ¬ (false = true) by decide)] at H; exact H
    clear H; have H := H1; clear H1; obtain rfl := Option.some.inj H
    go_enter Try.func131, Try.ntmps131
    go_wp2
    go_ret
    exact ⟨Q17, Q51⟩
 ·replace c5 := Bool.eq_false_iff.mpr c5
  subst c5; have H1 : (if a1 = true then (some a2) else (some false)) = some r := by rw [if_neg (show ¬ (false = true) by decide)] at H; exact H
  clear H; have H := H1; clear H1
  by_cases c8 : a1 = true
  ·subst c8
   have H1 : (some a2) = some r := by rw [if_pos rfl] at H; exact H
   clear H; have H := H1; clear H1; obtain rfl := Option.some.inj H
   go_enter Try.func131, Try.ntmps131
   go_wp2
   go_ret
   exact ⟨Q17, Q51⟩
  ·replace c8 := Bool.eq_false_iff.mpr c8
   subst c8; have H1 : (some false) = some r := by rw [if_neg (show ¬ (false = true) by decide)] at H; exact H
   clear H; have H := H1; clear H1; obtain rfl := Option.some.inj H
   go_enter Try.func131, Try.ntmps131
   go_wp2
   go_ret
   exact ⟨Q17, Q51⟩
/-! ### impl_StrongProduct_1: function 133 -/
def impl_StrongProduct_1.f (a0 : Bool) (a1 : Bool) (a2 : Bool) (a3 : Bool) : Option (Bool) := if a0 = true then (if a2 = true then (some true) else (some a3)) else (if a1 = true then (if a2 = true then (some true) else (some a3)) else (some false))
set_option maxHeartbeats 8000000 in
set_option maxRecDepth 100000 in
theorem impl_StrongProduct_1.calls (a0 : Bool) (a1 : Bool) (a2 : Bool) (a3 : Bool) (r : Bool) (w : World) (h : impl_StrongProduct_1.f a0 a1 a2 a3 = some r) :
  Calls Try.prog 133 #[.bool a0, .bool a1, .bool a2, .bool a3] w fun e w' => e = .returned (.bool r) ∧ Drawn0 w w' := by
 have H : (if a0 = true then (if a2 = true then (some true) else (some a3)) else (if a1 = true then (if a2 = true then (some true) else (some a3)) else (some false))) = some r := h
 clear h
 by_cases c5 : a0 = true
 ·subst c5
  have H1 : (if a2 = true then (some true) else (some a3)) = some r := by rw [if_pos rfl] at H; exact H
  clear H; have H := H1; clear H1
  by_cases c6 : a2 = true
  ·subst c6
   have H1 : (some true) = some r := by rw [if_pos rfl] at H; exact H
   clear H; have H := H1; clear H1; obtain rfl := Option.some.inj H
   go_enter Try.func133, Try.ntmps133
   go_wp2
   go_ret
   exact ⟨Q17, Q51⟩
  ·replace c6 := Bool.eq_false_iff.mpr c6
   subst c6; have H1 : (some a3) = some r := by rw [if_neg (show ¬ (false = true) by decide)] at H; exact H
   clear H; have H := H1; clear H1; obtain rfl := Option.some.inj H
   go_enter Try.func133, Try.ntmps133
   go_wp2
   go_ret
   exact ⟨Q17, Q51⟩
 ·replace c5 := Bool.eq_false_iff.mpr c5
  subst c5; have H1 : (if a1 = true then (if a2 = true then (some true) else (some a3)) else (some false)) = some r := by rw [if_neg (show ¬ (false = true) by decide)] at H; exact H
  clear H; have H := H1; clear H1
  by_cases c7 : a1 = true
  ·subst c7
   have H1 : (if a2 = true then (some true) else (some a3)) = some r := by rw [if_pos rfl] at H; exact H
   clear H; have H := H1; clear H1
   by_cases c8 : a2 = true
   ·subst c8
    have H1 : (some true) = some r := by rw [if_pos rfl] at H; exact H
    clear H; have H := H1; clear H1; obtain rfl := Option.some.inj H
    go_enter Try.func133, Try.ntmps133
    go_wp2
    go_ret
    exact ⟨Q17, Q51⟩
   ·replace c8 := Bool.eq_false_iff.mpr c8
    subst c8; have H1 : (some a3) = some r := by rw [if_neg (show ¬ (false = true) by decide)] at H; exact H
    clear H; have H := H1; clear H1; obtain rfl := Option.some.inj H
    go_enter Try.func133, Try.ntmps133
    go_wp2
    go_ret
    exact ⟨Q17, Q51⟩
  ·replace c7 := Bool.eq_false_iff.mpr c7
   subst c7; have H1 : (some false) = some r := by rw [if_neg (show ¬ (false = true) by decide)] at H; exact H
   clear H; have H := H1; clear H1; obtain rfl := Option.some.inj H
   go_enter Try.func133, Try.ntmps133
   go_wp2
   go_ret
   exact ⟨Q17, Q51⟩
/-! ### impl_net_has: function 136 -/
def impl_net_has.f (l0_0 : List Int) (a1 : Int) (a2 : Int) : Option (Bool) := if 0 ≤ a1 then (if a1 < (l0_0.length : Int) then (if 0 ≤ a2 then (some ((Go.bits .and .i64 (shr .i64 (rd l0_0 a1) a2) 1) == 1)) else (none)) else (none)) else (none)
set_option maxHeartbeats 8000000 in
set_option maxRecDepth 100000 in
theorem impl_net_has.calls (A0_0 : Option Addr) (c0_0 : Nat) (l0_0 : List Int) (a1 : Int) (a2 : Int) (r : Bool) (w : World) (hr0_0 : Kd.C (Kd.int .i64) w A0_0 l0_0.length l0_0) (hc0_0 : l0_0.length ≤ c0_0) (h : impl_net_has.f l0_0 a1 a2 = some r) :
  Calls Try.prog 136 #[.agg #[.slice A0_0 l0_0.length c0_0], .int .i64 a1, .int .i64 a2] w fun e w' => e = .returned (.bool r) ∧ Below w.heap.size w w' := by
 have hu90 := Try.underlying90
 have HR0_0 := Aside0.mk hr0_0
 have HC0_0 := Aside0.mk hc0_0
 clear hr0_0 hc0_0
 have HB := am (Below.refl w.heap.size w)
 have H : (if 0 ≤ a1 then (if a1 < (l0_0.length : Int) then (if 0 ≤ a2 then (some ((Go.bits .and .i64 (shr .i64 (rd l0_0 a1) a2) 1) == 1)) else (none)) else (none)) else (none)) = some r := h
 clear h
 by_cases c4 : 0 ≤ a1
 ·rw [if_pos c4] at H
  have c4b0 : decide (0 ≤ a1) = true := decide_eq_true c4; clear c4
  obtain ⟨c5, H⟩ := ifn H
  have c5b0 := decide_eq_true c5; clear c5
  obtain ⟨c6, H⟩ := ifn H
  have c6b0 := eq_true c6; have c6b1 : decide (0 ≤ a2) = true := decide_eq_true c6; clear c6; obtain ⟨ji7, hji7⟩ : ∃ j_ : Int, (shr .i64 (rd l0_0 a1) a2) = j_ := ⟨_, rfl⟩; replace H : (some ((Go.bits .and .i64 (ji7) 1) == 1)) = some r := by first | (rw [hji7] at H; exact H) | (simp only [hji7] at H ⊢; exact H)
  have hji7_ : ((rd l0_0 a1) / 2 ^ min a2.toNat 64) = ji7 := hji7; have hji7z : a2 ≤ 64 → ((rd l0_0 a1) / 2 ^ a2.toNat) = ji7 := shr_small hji7; obtain rfl := Option.some.inj H
  go_enter Try.func136, Try.ntmps136
  go_wp2_with (first | ((with_reducible refine gate_dst (N := 3) rfl ?_); refine box_event (by rfl) (N := 3) (by rfl) (cs := #[.slice A0_0 l0_0.length c0_0]) (t := 90) Qr ?_; intro gb101 hg w8 hbox hb; have BK101 := am (hbox); replace HB := bs HB hb; clear hb hbox hg; obtain ⟨_, _⟩ := b1 BK101; have p102 : 0 ≤ (a1 : Int) := D4; have q102 : a1 < (l0_0.length : Int) := D4; obtain ⟨ad102, e102, hx102_0⟩ := Kd.at_int HR0_0.out a1 p102 q102; cases e102; replace hx102_0 := (HB.out.cell (World.block_lt_of_cell? w _ hx102_0)).trans hx102_0; replace p102 := eq_true p102; replace q102 := eq_true q102))
  go_ret
  exact ⟨by first | rfl | (simp [errW_none, errW_some] <;> rfl) | (simp only [← hji7]; first | rfl | (simp [errW_none, errW_some] <;> rfl)) | (simp [*, errW_none, errW_some] <;> rfl), Q1 HB⟩
 ·rw [if_neg c4] at H
  exact absurd H (by simp)
/-! ### impl_setOf: function 122 -/
def impl_setOf.l0 : Nat → Int → List Int → Int → Option (List Int)
 | 0, _, _, _ => none
 | k + 1, x0, x3, x4 => if 0 ≤ x4 then (if (shr .i64 x0 x4) = 0 then (some x3) else (if (Go.bits .and .i64 (shr .i64 x0 x4) 1) = 1 then (if x3.length < 17592186044416 then (impl_setOf.l0 k x0 (x3 ++ [x4]) (wrap64 (x4 + 1))) else (none)) else (impl_setOf.l0 k x0 x3 (wrap64 (x4 + 1))))) else (none)
def impl_setOf.f (k : Nat) (a0 : Int) : Option (List Int) := impl_setOf.l0 k a0 ([] : List Int) 0
theorem impl_setOf.mono_l : ∀ k, (∀ y0 y1 y2, LeO (impl_setOf.l0 k y0 y1 y2) (impl_setOf.l0 (k + 1) y0 y1 y2))
 | 0 => fun _ _ _ r h => by simp [impl_setOf.l0] at h
 | k + 1 => by
  have ih0 := impl_setOf.mono_l k
  all_goals
   intros
   first | unfold impl_setOf.l0
   repeat' first | (with_reducible first | exact ih0 _ _ _ | exact LeO.refl _ | exact LeO.none _ | refine LeO.ite ?_ ?_ | refine LeO.bind ?_ (fun _ => ?_))
theorem impl_setOf.mono : ∀ a0 k, LeO (impl_setOf.f k a0) (impl_setOf.f (k + 1) a0) := by
 intro a0 k
 have ih0 := impl_setOf.mono_l k
 unfold impl_setOf.f
 repeat' first | (with_reducible first | exact ih0 _ _ _ | exact LeO.refl _ | exact LeO.none _ | refine LeO.ite ?_ ?_ | refine LeO.bind ?_ (fun _ => ?_))
set_option maxHeartbeats 8000000 in
set_option maxRecDepth 100000 in
theorem impl_setOf.calls (k : Nat) (a0 : Int) (r : List Int) (w : World) (h : impl_setOf.f k a0 = some r) :
  Calls Try.prog 122 #[.int .i64 a0] w fun e w' => ∃ v0_ : Value, e = .returned (v0_) ∧ Kd.R (Kd.int .i64) 3 w' w.heap.size (fun _ => True) v0_ r ∧ Below w.heap.size w w' := by
 have HB := am (Below.refl w.heap.size w)
 have H : (impl_setOf.l0 k a0 ([] : List Int) 0) = some r := h
 clear h
 have H' := Aside0.mk H
 clear H
 go_enter Try.func122, Try.ntmps122
 go_wp2
 go_loopg [3, 4] k (fun kq v3 v4 w' => ∃ (x3_1 : List Int) (x4_1 : Int), v4 = .int .i64 x4_1 ∧ Aside0 (impl_setOf.l0 kq a0 x3_1 x4_1 = some r) ∧ Aside0 (kq ≤ k) ∧ Aside0 (Kd.R (Kd.int .i64) 3 w' w.heap.size (fun _ => True) v3 x3_1) ∧ Aside0 (Below w.heap.size w w'))
 case atStart => exact ⟨(([] : List Int)), (0), Q17, H', ⟨Nat.le_refl _⟩, ⟨Q147⟩, ⟨Q1 HB⟩⟩
 case round =>
  clear H'
  obtain ⟨x3_1, x4_1, rfl, HA, HK1, HO_3, HB⟩ := hrel
  cases gk with
  | zero => exact absurd HA.out (by simp [impl_setOf.l0])
  | succ k1 =>
   have H := HA.out; clear HA
   simp only [impl_setOf.l0] at H
   by_cases c2 : 0 ≤ x4_1
   ·rw [if_pos c2] at H
    have c2b0 := eq_true c2; have c2b1 := decide_eq_true c2; clear c2; obtain ⟨ji3, hji3⟩ : ∃ j_ : Int, (shr .i64 a0 x4_1) = j_ := ⟨_, rfl⟩; replace H : (if (ji3) = 0 then (some x3_1) else (if (Go.bits .and .i64 (ji3) 1) = 1 then (if x3_1.length < 17592186044416 then (impl_setOf.l0 k1 a0 (x3_1 ++ [x4_1]) (wrap64 (x4_1 + 1))) else (none)) else (impl_setOf.l0 k1 a0 x3_1 (wrap64 (x4_1 + 1))))) = some r := by first | (rw [hji3] at H; exact H) | (simp only [hji3] at H ⊢; exact H)
    have hji3_ : (a0 / 2 ^ min x4_1.toNat 64) = ji3 := hji3; have hji3z : x4_1 ≤ 64 → (a0 / 2 ^ x4_1.toNat) = ji3 := shr_small hji3
    by_cases c4 : (ji3) = 0
    ·rw [if_pos c4] at H
     have c4b0 := beq_iff_eq.mpr c4; have c4b1 := bne_eq_false_iff_eq.mpr c4; clear c4; obtain rfl := Option.some.inj H
     go_wp2
     go_ret
     exact ⟨_, by first | rfl | (simp [errW_none, errW_some] <;> rfl) | (simp only [← hji3]; first | rfl | (simp [errW_none, errW_some] <;> rfl)) | (simp [*, errW_none, errW_some] <;> rfl), Q193, Q1 HB⟩
    ·rw [if_neg c4] at H
     have c4b0 := beq_eq_false_iff_ne.mpr c4; have c4b1 := bne_iff_ne.mpr c4; have c5b0 := eq_true (D4 : 0 ≤ x4_1)
     by_cases c6 : (Go.bits .and .i64 (ji3) 1) = 1
     ·rw [if_pos c6] at H
      have c6b0 := beq_iff_eq.mpr c6; have c6b1 := bne_eq_false_iff_eq.mpr c6; clear c6
      obtain ⟨c7, H⟩ := ifn H
      have LMc7 := Aside0.mk c7; clear c7; obtain ⟨y101, hy101⟩ : ∃ y_ : List Int, y_ = (x3_1 ++ [x4_1]) := ⟨_, rfl⟩; replace H : (impl_setOf.l0 k1 a0 y101 (wrap64 (x4_1 + 1))) = some r := RH hy101 H; have Ny101 := Aside0.mk hy101; clear hy101; have H' := Aside0.mk H; clear H
      go_wp2_with (first | ((with_reducible refine gate_builtin (b := .append) (xs := #[.tmp 16, .tmp 18]) rfl ?_); at_builtin; refine Kd.R_append (Kd.int .i64) (w0 := w) w.heap.size rfl (.tmp 16) (.tmp 18) 25 3 (.int .i64 0) 8 rfl Try.underlying25 info3 rfl (by decide) (by omega) u3 x3_1 x4_1 [.int .i64 x4_1] (fun _ => True) (fun _ => False) rfl rfl ?aP (fun _ hk => hk.elim) ?aF ?aO ?aB ?aS ?aL ?_; (case aP => exact rfl); (case aB => exact (Q1 HB)); (case aF => exact (fun _ _ => trivial)); (case aO => exact Q193); (case aS => exact (below_size (Q1 HB))); (case aL => have := LMc7.out; omega); intro v102 w8 ho hb hg hat; rw [← Ny101.out] at ho; replace HB := am (hb); have HO103 := am (ho); clear HO_3; clear ho hb hg hat))
      go_roundg k1
      case measure => have := HK1.out; omega
      case rel => exact ⟨(y101), (wrap64 (x4_1 + 1)), Q17, H', ⟨Q163⟩, ⟨Q5 HO103⟩, ⟨Q1 HB⟩⟩
     ·rw [if_neg c6] at H
      have c6b0 := beq_eq_false_iff_ne.mpr c6; have c6b1 := bne_iff_ne.mpr c6; have H' := Aside0.mk H; clear H
      go_wp2
      go_roundg k1
      case measure => have := HK1.out; omega
      case rel => exact ⟨(x3_1), (wrap64 (x4_1 + 1)), Q17, H', ⟨Q163⟩, ⟨Q193⟩, ⟨Q1 HB⟩⟩
   ·rw [if_neg c2] at H
    exact absurd H (by simp)
/-! ### impl_net_size: function 194 -/
def impl_net_size.f (l0_0 : List Int) : Option (Int) := some (l0_0.length : Int)
set_option maxHeartbeats 8000000 in
set_option maxRecDepth 100000 in
theorem impl_net_size.calls (A0_0 : Option Addr) (c0_0 : Nat) (l0_0 : List Int) (r : Int) (w : World) (hr0_0 : Kd.C (Kd.int .i64) w A0_0 l0_0.length l0_0) (hc0_0 : l0_0.length ≤ c0_0) (h : impl_net_size.f l0_0 = some r) :
  Calls Try.prog 194 #[.agg #[.slice A0_0 l0_0.length c0_0]] w fun e w' => e = .returned (.int .i64 r) ∧ Below w.heap.size w w' := by
 have hu90 := Try.underlying90
 have HR0_0 := Aside0.mk hr0_0
 have HC0_0 := Aside0.mk hc0_0
 clear hr0_0 hc0_0
 have HB := am (Below.refl w.heap.size w)
 have H : (some (l0_0.length : Int)) = some r := h
 clear h
 obtain rfl := Option.some.inj H
 go_enter Try.func194, Try.ntmps194
 go_wp2_with (first | ((with_reducible refine gate_dst (N := 1) rfl ?_); refine box_event (by rfl) (N := 1) (by rfl) (cs := #[.slice A0_0 l0_0.length c0_0]) (t := 90) Qr ?_; intro gb101 hg w2 hbox hb; have BK101 := am (hbox); replace HB := bs HB hb; clear hb hbox hg; obtain ⟨_, _⟩ := b1 BK101))
 go_ret
 exact ⟨Q19, Q1 HB⟩
end Go.Proofs.Ytcjddikalgnhpaa.P
