/- Functions of the program as Lean functions, that each call comes to what they say, and what holds of them; part 8 of 15; no conditions beyond those that each theorem names. -/
import Derived.Test.YtcjddikalgnhpaaK1
import Derived.Test.YtcjddikalgnhpaaK6
import Derived.Test.YtcjddikalgnhpaaK7
namespace Go.Proofs.Ytcjddikalgnhpaa.P
open Go.RowKit Go.Proofs.YtcjddikalgnhpaaW.PrintWords Go.Proofs.YtcjddikalgnhpaaW.PrintLast Go.Proofs.YtcjddikalgnhpaaW.PrintMore
attribute [local go_sem] max2_int min2_int max_two min_two max_three min_three max_four min_four   -- for this text's walks alone
set_option linter.unusedVariables false
set_option linter.unusedSimpArgs false
attribute [local go_sem high] eqA71
/-! ### laws_rGraph: function 25 -/
mutual
def laws_rGraph.j0 : Nat → Bool → Int → List (S71) → Int → List (S71) → Option (Bool)
 | 0, _, _, _, _, _ => none
 | k + 1, x19, x102000, x102001, x103000, x103001 => if x19 = true then (some false) else (laws_rGraph.l0 k 0 x102000 x102001 x103000 x103001)
def laws_rGraph.l0 : Nat → Int → Int → List (S71) → Int → List (S71) → Option (Bool)
 | 0, _, _, _, _, _ => none
 | k + 1, x5, x102000, x102001, x103000, x103001 => if x5 < (x102001.length : Int) then (if 0 ≤ x5 then (if x5 < (x103001.length : Int) then (if (!(((rd_T71 x102001 x5).f0) == ((rd_T71 x103001 x5).f0)) || (!(((rd_T71 x102001 x5).f1) == ((rd_T71 x103001 x5).f1)))) = true then (some false) else (laws_rGraph.l0 k (wrap64 (x5 + 1)) x102000 x102001 x103000 x103001)) else (none)) else (none)) else (some true)
end
def laws_rGraph.f (k : Nat) (a0_0 : Int) (l0_1 : List (S71)) (a1_0 : Int) (l1_1 : List (S71)) : Option (Bool) := if a0_0 = a1_0 then (laws_rGraph.j0 k ((l0_1.length : Int) != (l1_1.length : Int)) a0_0 l0_1 a1_0 l1_1) else (laws_rGraph.j0 k true a0_0 l0_1 a1_0 l1_1)
theorem laws_rGraph.mono_l : ∀ k, (∀ y0 y1 y2 y3 y4, LeO (laws_rGraph.j0 k y0 y1 y2 y3 y4) (laws_rGraph.j0 (k + 1) y0 y1 y2 y3 y4)) ∧ (∀ y0 y1 y2 y3 y4, LeO (laws_rGraph.l0 k y0 y1 y2 y3 y4) (laws_rGraph.l0 (k + 1) y0 y1 y2 y3 y4))
 | 0 => ⟨fun _ _ _ _ _ r h => by simp [laws_rGraph.j0] at h, fun _ _ _ _ _ r h => by simp [laws_rGraph.l0] at h⟩
 | k + 1 => by
  obtain ⟨ih0, ih1⟩ := laws_rGraph.mono_l k; refine ⟨?_, ?_⟩
  all_goals
   intros
   first | unfold laws_rGraph.j0 | unfold laws_rGraph.l0
   repeat' first | (with_reducible first | exact ih0 _ _ _ _ _ | exact ih1 _ _ _ _ _ | exact LeO.refl _ | exact LeO.none _ | refine LeO.ite ?_ ?_ | refine LeO.bind ?_ (fun _ => ?_))
theorem laws_rGraph.mono : ∀ a0 a1 a2 a3 k, LeO (laws_rGraph.f k a0 a1 a2 a3) (laws_rGraph.f (k + 1) a0 a1 a2 a3) := by
 intro a0 a1 a2 a3 k
 obtain ⟨ih0, ih1⟩ := laws_rGraph.mono_l k
 unfold laws_rGraph.f
 repeat' first | (with_reducible first | exact ih0 _ _ _ _ _ | exact ih1 _ _ _ _ _ | exact LeO.refl _ | exact LeO.none _ | refine LeO.ite ?_ ?_ | refine LeO.bind ?_ (fun _ => ?_))
set_option maxHeartbeats 8000000 in
set_option maxRecDepth 100000 in
theorem laws_rGraph.calls (k : Nat) (a0_0 : Int) (A0_1 : Option Addr) (c0_1 : Nat) (l0_1 : List (S71)) (a1_0 : Int) (A1_1 : Option Addr) (c1_1 : Nat) (l1_1 : List (S71)) (r : Bool) (w : World) (hr0_1 : Kd.C k71 w A0_1 l0_1.length l0_1) (hc0_1 : l0_1.length ≤ c0_1) (hr1_1 : Kd.C k71 w A1_1 l1_1.length l1_1) (hc1_1 : l1_1.length ≤ c1_1) (h : laws_rGraph.f k a0_0 l0_1 a1_0 l1_1 = some r) :
  Calls Try.prog 25 #[.agg #[.int .i64 a0_0, .slice A0_1 l0_1.length c0_1], .agg #[.int .i64 a1_0, .slice A1_1 l1_1.length c1_1]] w fun e w' => e = .returned (.bool r) ∧ Below w.heap.size w w' := by
 have hu30 := Try.underlying30
 have hu71 := Try.underlying71
 have HR0_1 := Aside0.mk hr0_1
 have HC0_1 := Aside0.mk hc0_1
 clear hr0_1 hc0_1
 have HR1_1 := Aside0.mk hr1_1
 have HC1_1 := Aside0.mk hc1_1
 clear hr1_1 hc1_1
 have HB := am (Below.refl w.heap.size w)
 have H : (if a0_0 = a1_0 then (laws_rGraph.j0 k ((l0_1.length : Int) != (l1_1.length : Int)) a0_0 l0_1 a1_0 l1_1) else (laws_rGraph.j0 k true a0_0 l0_1 a1_0 l1_1)) = some r := h
 clear h
 have HU3 := Aside0.mk H
 clear H
 go_enter Try.func25, Try.ntmps25
 go_upto_region 1 with (first | ((with_reducible refine gate_dst (N := 2) rfl ?_); (try (refine gate_guard (by rfl) ?_; dsimp only)); refine box_event (by rfl) (N := 2) (by rfl) (cs := #[.int .i64 a0_0, .slice A0_1 l0_1.length c0_1]) (t := 30) Qr ?_; intro gb101 hg w4 hbox hb; have BK101 := am (hbox); replace HB := bs HB hb; clear hb hbox hg) | ((with_reducible refine gate_dst (N := 3) rfl ?_); (try (refine gate_guard (by rfl) ?_; dsimp only)); refine box_event (by rfl) (N := 3) (by rfl) (cs := #[.int .i64 a1_0, .slice A1_1 l1_1.length c1_1]) (t := 30) Qr ?_; intro gb102 hg w5 hbox hb; have BK102 := am (hbox); replace HB := bs HB hb; obtain ⟨NB101_102, NB102_101⟩ := ne2 BK101 hg; replace BK101 := bb BK101 hb; clear hb hbox hg))
 repeat (go_quiet (first | ((with_reducible refine gate_dst (N := 2) rfl ?_); (try (refine gate_guard (by rfl) ?_; dsimp only)); refine box_event (by rfl) (N := 2) (by rfl) (cs := #[.int .i64 a0_0, .slice A0_1 l0_1.length c0_1]) (t := 30) Qr ?_; intro gb101 hg w4 hbox hb; have n0_ := bs HB hb; have n1_ := am (hbox); replace HB := n0_; have BK101 := n1_; clear n0_ n1_ n2_ n3_; clear hb hbox hg) | ((with_reducible refine gate_dst (N := 3) rfl ?_); (try (refine gate_guard (by rfl) ?_; dsimp only)); refine box_event (by rfl) (N := 3) (by rfl) (cs := #[.int .i64 a1_0, .slice A1_1 l1_1.length c1_1]) (t := 30) Qr ?_; intro gb102 hg w5 hbox hb; have n0_ := bb BK101 hb; have n1_ := bs HB hb; have n2_ := am (hbox); obtain ⟨n5_, n6_⟩ := ne2 BK101 hg; replace BK101 := n0_; replace HB := n1_; have BK102 := n2_; have NB101_102 := n5_; have NB102_101 := n6_; clear n0_ n1_ n2_ n3_ n4_ n5_ n6_; clear hb hbox hg)); go_upto_region 1 with (first | ((with_reducible refine gate_dst (N := 2) rfl ?_); (try (refine gate_guard (by rfl) ?_; dsimp only)); refine box_event (by rfl) (N := 2) (by rfl) (cs := #[.int .i64 a0_0, .slice A0_1 l0_1.length c0_1]) (t := 30) Qr ?_; intro gb101 hg w4 hbox hb; have BK101 := am (hbox); replace HB := bs HB hb; clear hb hbox hg) | ((with_reducible refine gate_dst (N := 3) rfl ?_); (try (refine gate_guard (by rfl) ?_; dsimp only)); refine box_event (by rfl) (N := 3) (by rfl) (cs := #[.int .i64 a1_0, .slice A1_1 l1_1.length c1_1]) (t := 30) Qr ?_; intro gb102 hg w5 hbox hb; have BK102 := am (hbox); replace HB := bs HB hb; obtain ⟨NB101_102, NB102_101⟩ := ne2 BK101 hg; replace BK101 := bb BK101 hb; clear hb hbox hg)))
 (try simp only [Act.put, List.setIfInBounds_toArray, List.set_cons_zero, List.set_cons_succ])
 have H := HU3.out
 clear HU3
 have HC6 := Aside0.mk H
 clear H
 go_upto_region 1 with (fail)
 repeat (go_quiet (fail); go_upto_region 1 with (fail))
 go_cut [19] (fun v19 wc => ∃ (kq : Nat) (x19_5 : Bool), v19 = .bool x19_5 ∧ Aside0 (laws_rGraph.j0 kq x19_5 a0_0 l0_1 a1_0 l1_1 = some r) ∧ Aside0 (kq ≤ k) ∧ Aside0 (wc.heap[gb101]? = some (.cells #[.int .i64 a0_0, (.slice A0_1 l0_1.length c0_1)] 30 (0, 0))) ∧ Aside0 (wc.heap[gb102]? = some (.cells #[.int .i64 a1_0, (.slice A1_1 l1_1.length c1_1)] 30 (0, 0))) ∧ Aside0 (Below w.heap.size w wc))
 case first =>
  have H := HC6.out; clear HC6
  by_cases c7 : a0_0 = a1_0
  ·rw [if_pos c7] at H
   have c7b0 := beq_iff_eq.mpr c7; have c7b1 := bne_eq_false_iff_eq.mpr c7; clear c7
   (first | rw [c7b0] | (simp only [i64_w, i32_w]; rw [c7b0]) | rw [c7b1] | skip)
   have H' := Aside0.mk H; clear H; obtain ⟨_, _⟩ := o2 NB101_102 NB102_101; obtain ⟨_, _, _, _⟩ := b2 BK101; obtain ⟨_, _, _, _⟩ := b2 BK102
   go_wp2
   repeat (go_quiet (fail); try go_wp2)
   go_meet
   case rel => exact ⟨_, (((l0_1.length : Int) != (l1_1.length : Int))), Q17, H', ⟨Q169⟩, ⟨Q0 BK101⟩, ⟨Q0 BK102⟩, ⟨Q1 HB⟩⟩
  ·rw [if_neg c7] at H
   have c7b0 := beq_eq_false_iff_ne.mpr c7; have c7b1 := bne_iff_ne.mpr c7
   (first | rw [c7b0] | (simp only [i64_w, i32_w]; rw [c7b0]) | rw [c7b1] | skip)
   have H' := Aside0.mk H; clear H; obtain ⟨_, _⟩ := o2 NB101_102 NB102_101; obtain ⟨_, _, _, _⟩ := b2 BK101; obtain ⟨_, _, _, _⟩ := b2 BK102
   go_wp2
   repeat (go_quiet (fail); try go_wp2)
   go_meet
   case rel => exact ⟨_, (true), Q17, H', ⟨Q169⟩, ⟨Q0 BK101⟩, ⟨Q0 BK102⟩, ⟨Q1 HB⟩⟩
 case rest =>
  clear HC6
  obtain ⟨kq, x19_5, rfl, HA, HJ5, BK101, BK102, HB⟩ := hcut
  cases kq with
  | zero => exact absurd HA.out (by simp [laws_rGraph.j0])
  | succ kj5 =>
   have H := HA.out; clear HA
   simp only [laws_rGraph.j0] at H
   by_cases c14 : x19_5 = true
   ·subst c14
    have H1 : (some false) = some r := by rw [if_pos rfl] at H; exact H
    clear H; have H := H1; clear H1; obtain rfl := Option.some.inj H
    go_wp2
    repeat (go_quiet (fail); try go_wp2)
    go_ret
    exact ⟨Q19, Q1 HB⟩
   ·replace c14 := Bool.eq_false_iff.mpr c14
    subst c14; have H1 : (laws_rGraph.l0 kj5 0 a0_0 l0_1 a1_0 l1_1) = some r := by rw [if_neg (show ¬ (false = true) by decide)] at H; exact H
    clear H; have H := H1; clear H1; have H' := Aside0.mk H; clear H
    go_wp2
    repeat (go_quiet (fail); try go_wp2)
    go_loopg [5] kj5 (fun kq v5 w' => ∃ (x5_2 : Int), v5 = .int .i64 x5_2 ∧ Aside0 (laws_rGraph.l0 kq x5_2 a0_0 l0_1 a1_0 l1_1 = some r) ∧ Aside0 (kq ≤ kj5) ∧ Aside0 (w'.heap[gb101]? = some (.cells #[.int .i64 a0_0, (.slice A0_1 l0_1.length c0_1)] 30 (0, 0))) ∧ Aside0 (w'.heap[gb102]? = some (.cells #[.int .i64 a1_0, (.slice A1_1 l1_1.length c1_1)] 30 (0, 0))) ∧ Aside0 (Below w.heap.size w w'))
    case atStart => exact ⟨(0), Q17, H', ⟨Nat.le_refl _⟩, ⟨Q0 BK101⟩, ⟨Q0 BK102⟩, ⟨Q1 HB⟩⟩
    case round =>
     clear H'
     obtain ⟨x5_2, rfl, HA, HK2, BK101, BK102, HB⟩ := hrel
     cases gk with
     | zero => exact absurd HA.out (by simp [laws_rGraph.l0])
     | succ k2 =>
      have H := HA.out; clear HA
      simp only [laws_rGraph.l0] at H
      by_cases c15 : x5_2 < (l0_1.length : Int)
      ·rw [if_pos c15] at H
       have c15b0 := decide_eq_true c15; clear c15
       obtain ⟨c16, H⟩ := ifn H
       have c16b0 := decide_eq_true c16; clear c16
       obtain ⟨c17, H⟩ := ifn H
       have c17b0 := decide_eq_true c17; clear c17; have HU18 := Aside0.mk H; clear H; obtain ⟨_, _⟩ := o2 NB101_102 NB102_101; obtain ⟨_, _, _, _⟩ := b2 BK101; have p103 : 0 ≤ (x5_2 : Int) := D4; have q103 : x5_2 < (l0_1.length : Int) := D4; obtain ⟨ad103, e103, hx103_0, hx103_1⟩ := at_T71 HR0_1.out x5_2 p103 q103
       cases e103
       replace hx103_0 := (HB.out.cell (World.block_lt_of_cell? w _ hx103_0)).trans hx103_0; replace hx103_1 := (HB.out.cell (World.block_lt_of_cell? w _ hx103_1)).trans hx103_1; replace p103 := eq_true p103; replace q103 := eq_true q103; obtain ⟨_, _, _, _⟩ := b2 BK102; have p104 : 0 ≤ (x5_2 : Int) := D4; have q104 : x5_2 < (l1_1.length : Int) := D4; obtain ⟨ad104, e104, hx104_0, hx104_1⟩ := at_T71 HR1_1.out x5_2 p104 q104
       cases e104
       replace hx104_0 := (HB.out.cell (World.block_lt_of_cell? w _ hx104_0)).trans hx104_0; replace hx104_1 := (HB.out.cell (World.block_lt_of_cell? w _ hx104_1)).trans hx104_1; replace p104 := eq_true p104; replace q104 := eq_true q104
       go_upto_if 37 with (fail)
       repeat (go_quiet (fail); go_upto_if 37 with (fail))
       have H := HU18.out; clear HU18
       by_cases c22 : (!(((rd_T71 l0_1 x5_2).f0) == ((rd_T71 l1_1 x5_2).f0)) || (!(((rd_T71 l0_1 x5_2).f1) == ((rd_T71 l1_1 x5_2).f1)))) = true
       ·rw [if_pos c22] at H
        have c22b0 : (!(((rd_T71 l0_1 x5_2).f0) == ((rd_T71 l1_1 x5_2).f0)) || (!(((rd_T71 l0_1 x5_2).f1) == ((rd_T71 l1_1 x5_2).f1)))) = true := c22; clear c22
        (first | rw [c22b0] | (simp only [i64_w, i32_w]; rw [c22b0]) | skip)
        obtain rfl := Option.some.inj H
        go_wp2
        repeat (go_quiet (fail); try go_wp2)
        go_ret
        exact ⟨Q19, Q1 HB⟩
       ·rw [if_neg c22] at H
        have c22b0 : (!(((rd_T71 l0_1 x5_2).f0) == ((rd_T71 l1_1 x5_2).f0)) || (!(((rd_T71 l0_1 x5_2).f1) == ((rd_T71 l1_1 x5_2).f1)))) = false := by simpa using c22
        clear c22
        (first | rw [c22b0] | (simp only [i64_w, i32_w]; rw [c22b0]) | skip)
        have H' := Aside0.mk H; clear H
        go_wp2
        repeat (go_quiet (fail); try go_wp2)
        go_roundg k2
        case measure => have := HJ5.out; have := HK2.out; omega
        case rel => exact ⟨(wrap64 (x5_2 + 1)), Q17, H', ⟨by have := HJ5.out; have := HK2.out; omega⟩, ⟨Q0 BK101⟩, ⟨Q0 BK102⟩, ⟨Q1 HB⟩⟩
      ·rw [if_neg c15] at H
       have c15b0 := decide_eq_false c15; clear c15; obtain rfl := Option.some.inj H; obtain ⟨_, _⟩ := o2 NB101_102 NB102_101; obtain ⟨_, _, _, _⟩ := b2 BK101
       go_wp2
       repeat (go_quiet (fail); try go_wp2)
       go_ret
       exact ⟨Q19, Q1 HB⟩
end Go.Proofs.Ytcjddikalgnhpaa.P
namespace Go.Proofs.Ytcjddikalgnhpaa.P
open Go.RowKit Go.Proofs.YtcjddikalgnhpaaW.PrintWords Go.Proofs.YtcjddikalgnhpaaW.PrintLast Go.Proofs.YtcjddikalgnhpaaW.PrintMore
attribute [local go_sem] max2_int min2_int max_two min_two max_three min_three max_four min_four   -- for this text's walks alone
set_option linter.unusedVariables false
set_option linter.unusedSimpArgs false
/-! ### spec_l2Product: function 132 -/
mutual
def spec_l2Product.j0 : Nat → Bool → Bool → Int → List (S71) → Int → List (S71) → Option (Int × (List (S71)) × Bool)
 | 0, _, _, _, _, _, _ => none
 | k + 1, x2, x32, x102000, x102001, x103000, x103001 => if x32 = true then (some (0, ([] : List (S71)), false)) else (spec_l2Product.l0 k x2 0 x102000 x102001 x103000 x103001 (wrap64 (x102000 * x103000)) (([] : List (S71))))
def spec_l2Product.l0 : Nat → Bool → Int → Int → List (S71) → Int → List (S71) → Int → List (S71) → Option (Int × (List (S71)) × Bool)
 | 0, _, _, _, _, _, _, _, _ => none
 | k + 1, x2, x9, x102000, x102001, x103000, x103001, x110000, x110001 => if x9 < x110000 then (spec_l2Product.l1 k x2 x9 (wrap64 (x9 + 1)) x102000 x102001 x103000 x103001 x110000 x110001) else (some (x110000, x110001, true))
def spec_l2Product.l1 : Nat → Bool → Int → Int → Int → List (S71) → Int → List (S71) → Int → List (S71) → Option (Int × (List (S71)) × Bool)
 | 0, _, _, _, _, _, _, _, _, _ => none
 | k + 1, x2, x9, x10, x102000, x102001, x103000, x103001, x110000, x110001 => if x10 < x110000 then (if x103000 = 0 then (none) else ((spec_l2Near.f k x102000 x102001 (wrap64 (Int.tdiv x9 x103000)) (wrap64 (Int.tdiv x10 x103000))).bind fun t110 => ((spec_l2Near.f k x103000 x103001 (Int.tmod x9 x103000) (Int.tmod x10 x103000)).bind fun t111 => (if (wrap64 (Int.tdiv x9 x103000)) = (wrap64 (Int.tdiv x10 x103000)) then (if t111 = true then (if x110001.length < 8796093022208 then (spec_l2Product.l1 k x2 x9 (wrap64 (x10 + 1)) x102000 x102001 x103000 x103001 x110000 (x110001 ++ [(⟨x9, x10⟩ : S71)])) else (none)) else (if t110 = true then (if (Int.tmod x9 x103000) = (Int.tmod x10 x103000) then (if x110001.length < 8796093022208 then (spec_l2Product.l1 k x2 x9 (wrap64 (x10 + 1)) x102000 x102001 x103000 x103001 x110000 (x110001 ++ [(⟨x9, x10⟩ : S71)])) else (none)) else (if x2 = true then (spec_l2Product.l1 k x2 x9 (wrap64 (x10 + 1)) x102000 x102001 x103000 x103001 x110000 x110001) else (spec_l2Product.l1 k x2 x9 (wrap64 (x10 + 1)) x102000 x102001 x103000 x103001 x110000 x110001))) else (if x2 = true then (spec_l2Product.l1 k x2 x9 (wrap64 (x10 + 1)) x102000 x102001 x103000 x103001 x110000 x110001) else (spec_l2Product.l1 k x2 x9 (wrap64 (x10 + 1)) x102000 x102001 x103000 x103001 x110000 x110001)))) else (if t110 = true then (if (Int.tmod x9 x103000) = (Int.tmod x10 x103000) then (if x110001.length < 8796093022208 then (spec_l2Product.l1 k x2 x9 (wrap64 (x10 + 1)) x102000 x102001 x103000 x103001 x110000 (x110001 ++ [(⟨x9, x10⟩ : S71)])) else (none)) else (if x2 = true then (if t111 = true then (if x110001.length < 8796093022208 then (spec_l2Product.l1 k x2 x9 (wrap64 (x10 + 1)) x102000 x102001 x103000 x103001 x110000 (x110001 ++ [(⟨x9, x10⟩ : S71)])) else (none)) else (spec_l2Product.l1 k x2 x9 (wrap64 (x10 + 1)) x102000 x102001 x103000 x103001 x110000 x110001)) else (spec_l2Product.l1 k x2 x9 (wrap64 (x10 + 1)) x102000 x102001 x103000 x103001 x110000 x110001))) else (if x2 = true then (spec_l2Product.l1 k x2 x9 (wrap64 (x10 + 1)) x102000 x102001 x103000 x103001 x110000 x110001) else (spec_l2Product.l1 k x2 x9 (wrap64 (x10 + 1)) x102000 x102001 x103000 x103001 x110000 x110001))))))) else (spec_l2Product.l0 k x2 (wrap64 (x9 + 1)) x102000 x102001 x103000 x103001 x110000 x110001)
end
def spec_l2Product.f (k : Nat) (a0_0 : Int) (l0_1 : List (S71)) (a1_0 : Int) (l1_1 : List (S71)) (a2 : Bool) : Option (Int × (List (S71)) × Bool) := (spec_l2Good.f k a0_0 l0_1).bind fun t104 => (if t104 = true then ((spec_l2Good.f k a1_0 l1_1).bind fun t105 => (if t105 = true then (spec_l2Product.j0 k a2 (decide ((wrap64 (a0_0 * a1_0)) > 8)) a0_0 l0_1 a1_0 l1_1) else (spec_l2Product.j0 k a2 true a0_0 l0_1 a1_0 l1_1))) else (spec_l2Product.j0 k a2 true a0_0 l0_1 a1_0 l1_1))
theorem spec_l2Product.mono_l : ∀ k, (∀ y0 y1 y2 y3 y4 y5, LeO (spec_l2Product.j0 k y0 y1 y2 y3 y4 y5) (spec_l2Product.j0 (k + 1) y0 y1 y2 y3 y4 y5)) ∧ (∀ y0 y1 y2 y3 y4 y5 y6 y7, LeO (spec_l2Product.l0 k y0 y1 y2 y3 y4 y5 y6 y7) (spec_l2Product.l0 (k + 1) y0 y1 y2 y3 y4 y5 y6 y7)) ∧ (∀ y0 y1 y2 y3 y4 y5 y6 y7 y8, LeO (spec_l2Product.l1 k y0 y1 y2 y3 y4 y5 y6 y7 y8) (spec_l2Product.l1 (k + 1) y0 y1 y2 y3 y4 y5 y6 y7 y8))
 | 0 => ⟨fun _ _ _ _ _ _ r h => by simp [spec_l2Product.j0] at h, fun _ _ _ _ _ _ _ _ r h => by simp [spec_l2Product.l0] at h, fun _ _ _ _ _ _ _ _ _ r h => by simp [spec_l2Product.l1] at h⟩
 | k + 1 => by
  obtain ⟨ih0, ih1, ih2⟩ := spec_l2Product.mono_l k; refine ⟨?_, ?_, ?_⟩
  all_goals
   intros
   first | unfold spec_l2Product.j0 | unfold spec_l2Product.l0 | unfold spec_l2Product.l1
   repeat' first | (with_reducible first | exact ih0 _ _ _ _ _ _ | exact ih1 _ _ _ _ _ _ _ _ | exact ih2 _ _ _ _ _ _ _ _ _ | exact spec_l2Good.mono _ _ _ | exact spec_l2Near.mono _ _ _ _ _ | exact LeO.refl _ | exact LeO.none _ | refine LeO.ite ?_ ?_ | refine LeO.bind ?_ (fun _ => ?_))
theorem spec_l2Product.mono : ∀ a0 a1 a2 a3 a4 k, LeO (spec_l2Product.f k a0 a1 a2 a3 a4) (spec_l2Product.f (k + 1) a0 a1 a2 a3 a4) := by
 intro a0 a1 a2 a3 a4 k
 obtain ⟨ih0, ih1, ih2⟩ := spec_l2Product.mono_l k
 unfold spec_l2Product.f
 repeat' first | (with_reducible first | exact ih0 _ _ _ _ _ _ | exact ih1 _ _ _ _ _ _ _ _ | exact ih2 _ _ _ _ _ _ _ _ _ | exact spec_l2Good.mono _ _ _ | exact spec_l2Near.mono _ _ _ _ _ | exact LeO.refl _ | exact LeO.none _ | refine LeO.ite ?_ ?_ | refine LeO.bind ?_ (fun _ => ?_))
def spec_l2Product.T10 : Bool × List (List Nat × List Nat) := (true, [([], []), ([], []), ([1], [1]), ([0, 2], [0, 2]), ([], []), ([], []), ([5], [5]), ([4, 6], [4, 6]), ([], []), ([], []), ([9], [9]), ([8, 10], [8, 10]), ([], []), ([], []), ([13], [13]), ([12, 14], [12, 14]), ([3, 0, 1, 2, 3], [3]), ([7, 16, 0, 1, 2, 3, 4, 5, 6, 7, 16], [7]), ([11, 17, 0, 1, 2, 3, 4, 5, 6, 7, 8, 9, 10, 11, 16, 17], [11]), ([15, 18, 0, 1, 2, 3, 4, 5, 6, 7, 8, 9, 10, 11, 12, 13, 14, 15, 16, 17, 18], [15])])
def spec_l2Product.B10 : List Nat := [0, 0, 2, 7, 0, 0, 32, 112, 0, 0, 512, 1792, 0, 0, 8192, 28672, 15, 65791, 200703, 524287]
theorem spec_l2Product.tab10 : rtab .any (opsOf Try.f132 10) = spec_l2Product.T10 := by kernel_rfl
theorem spec_l2Product.bits10 : waitsOk spec_l2Product.T10.2 spec_l2Product.B10 = true := by kernel_rfl
def spec_l2Product.T11 : Bool × List (List Nat × List Nat) := (true, [([], []), ([], []), ([], []), ([0, 1, 2], [0, 1, 2]), ([], []), ([], []), ([], []), ([4, 5, 6, 3], [4, 5, 6]), ([3, 7, 0, 1, 2, 3], [3]), ([7, 8, 0, 1, 2, 3, 4, 5, 6, 7, 8], [7])])
def spec_l2Product.B11 : List Nat := [0, 0, 0, 7, 0, 0, 0, 127, 255, 511]
theorem spec_l2Product.tab11 : rtab .any (opsOf Try.f132 11) = spec_l2Product.T11 := by kernel_rfl
theorem spec_l2Product.bits11 : waitsOk spec_l2Product.T11.2 spec_l2Product.B11 = true := by kernel_rfl
set_option maxHeartbeats 8000000 in
set_option maxRecDepth 100000 in
theorem spec_l2Product.calls (k : Nat) (a0_0 : Int) (A0_1 : Option Addr) (c0_1 : Nat) (l0_1 : List (S71)) (a1_0 : Int) (A1_1 : Option Addr) (c1_1 : Nat) (l1_1 : List (S71)) (a2 : Bool) (r1 : Int) (r2 : List (S71)) (r3 : Bool) (w : World) (hr0_1 : Kd.C k71 w A0_1 l0_1.length l0_1) (hc0_1 : l0_1.length ≤ c0_1) (hr1_1 : Kd.C k71 w A1_1 l1_1.length l1_1) (hc1_1 : l1_1.length ≤ c1_1) (h : spec_l2Product.f k a0_0 l0_1 a1_0 l1_1 a2 = some (r1, r2, r3)) :
  Calls Try.prog 132 #[.agg #[.int .i64 a0_0, .slice A0_1 l0_1.length c0_1], .agg #[.int .i64 a1_0, .slice A1_1 l1_1.length c1_1], .bool a2] w fun e w' => ∃ v1_ : Value, e = .returned (.tuple #[.agg #[.int .i64 r1, v1_], .bool r3]) ∧ Kd.R k71 71 w' w.heap.size (fun _ => True) v1_ r2 ∧ Below w.heap.size w w' := by
 have hu30 := Try.underlying30
 have hu71 := Try.underlying71
 have HR0_1 := Aside0.mk hr0_1
 have HC0_1 := Aside0.mk hc0_1
 clear hr0_1 hc0_1
 have HR1_1 := Aside0.mk hr1_1
 have HC1_1 := Aside0.mk hc1_1
 clear hr1_1 hc1_1
 have HB := am (Below.refl w.heap.size w)
 have H : ((spec_l2Good.f k a0_0 l0_1).bind fun t104 => (if t104 = true then ((spec_l2Good.f k a1_0 l1_1).bind fun t105 => (if t105 = true then (spec_l2Product.j0 k a2 (decide ((wrap64 (a0_0 * a1_0)) > 8)) a0_0 l0_1 a1_0 l1_1) else (spec_l2Product.j0 k a2 true a0_0 l0_1 a1_0 l1_1))) else (spec_l2Product.j0 k a2 true a0_0 l0_1 a1_0 l1_1))) = some (r1, r2, r3) := h
 clear h
 have HU4 := Aside0.mk H
 clear H
 go_enter Try.func132, Try.ntmps132
 go_upto_region 1 with (first | ((with_reducible refine gate_dst (N := 3) rfl ?_); refine box_event (by rfl) (N := 3) (by rfl) (cs := #[.int .i64 a0_0, .slice A0_1 l0_1.length c0_1]) (t := 30) Qr ?_; intro gb101 hg w5 hbox hb; have BK101 := am (hbox); have GE101 := ge HB hg; replace HB := bs HB hb; clear hb hbox hg) | ((with_reducible refine gate_dst (N := 4) rfl ?_); refine box_event (by rfl) (N := 4) (by rfl) (cs := #[.int .i64 a1_0, .slice A1_1 l1_1.length c1_1]) (t := 30) Qr ?_; intro gb102 hg w6 hbox hb; have BK102 := am (hbox); have GE102 := ge HB hg; replace HB := bs HB hb; obtain ⟨NB101_102, NB102_101⟩ := ne2 BK101 hg; replace BK101 := bb BK101 hb; clear hb hbox hg) | ((with_reducible refine gate_dst (N := 6) rfl ?_); refine box_event (by rfl) (N := 6) (by rfl) (cs := #[.int .i64 0, .slice none 0 0]) (t := 30) Qr ?_; intro gb103 hg w7 hbox hb; have BK103 := am (hbox); have GE103 := ge HB hg; replace HB := bs HB hb; obtain ⟨NB101_103, NB103_101⟩ := ne2 BK101 hg; replace BK101 := bb BK101 hb; obtain ⟨NB102_103, NB103_102⟩ := ne2 BK102 hg; replace BK102 := bb BK102 hb; clear hb hbox hg))
 (try simp only [Act.put, List.setIfInBounds_toArray, List.set_cons_zero, List.set_cons_succ])
 have H := HU4.out
 clear HU4
 have HC8 := Aside0.mk H
 clear H
 go_upto_region 1 with (fail)
 go_cut [32] (fun v32 wc => ∃ (kq : Nat) (x32_7 : Bool), v32 = .bool x32_7 ∧ Aside0 (spec_l2Product.j0 kq a2 x32_7 a0_0 l0_1 a1_0 l1_1 = some (r1, r2, r3)) ∧ Aside0 (kq ≤ k) ∧ Aside0 (wc.heap[gb101]? = some (.cells #[.int .i64 a0_0, (.slice A0_1 l0_1.length c0_1)] 30 (0, 0))) ∧ Aside0 (wc.heap[gb102]? = some (.cells #[.int .i64 a1_0, (.slice A1_1 l1_1.length c1_1)] 30 (0, 0))) ∧ Aside0 (wc.heap[gb103]? = some (.cells #[.int .i64 0, (.slice none 0 0)] 30 (0, 0))) ∧ Aside0 (Below w.heap.size w wc))
 case first =>
  have H := HC8.out; clear HC8; replace H := (ob H); obtain ⟨t104, A90, H⟩ := H; (try dsimp only at H); have A9 := Aside0.mk A90; clear A90
  by_cases c10 : t104 = true
  ·subst c10
   have H1 : ((spec_l2Good.f k a1_0 l1_1).bind fun t105 => (if t105 = true then (spec_l2Product.j0 k a2 (decide ((wrap64 (a0_0 * a1_0)) > 8)) a0_0 l0_1 a1_0 l1_1) else (spec_l2Product.j0 k a2 true a0_0 l0_1 a1_0 l1_1))) = some (r1, r2, r3) := by rw [if_pos rfl] at H; exact H
   clear H; have H := H1; clear H1; replace H := (ob H); obtain ⟨t105, A110, H⟩ := H; (try dsimp only at H); have A11 := Aside0.mk A110; clear A110
   by_cases c12 : t105 = true
   ·subst c12
    have H1 : (spec_l2Product.j0 k a2 (decide ((wrap64 (a0_0 * a1_0)) > 8)) a0_0 l0_1 a1_0 l1_1) = some (r1, r2, r3) := by rw [if_pos rfl] at H; exact H
    clear H; have H := H1; clear H1; have H' := Aside0.mk H; clear H; obtain ⟨_, _, _, _⟩ := o4 NB101_102 NB102_101 NB101_103 NB103_101; obtain ⟨_, _, _, _⟩ := b2 BK101
    go_wp2_with (first | ((with_reducible refine gate_callee (f := 120) rfl ?_); refine goesL_ (some 18) rfl rfl Try.func120 (by kernel_rfl) rfl #[.agg #[.int .i64 a0_0, .slice A0_1 l0_1.length c0_1]] rfl Q6 ?_; (with_reducible refine (spec_l2Good.calls k a0_0 _ _ l0_1 true _ ?side1 ?side2 A9.out).mono ?_); (case side1 => exact (Q11 HR0_1 HB)); (case side2 => exact HC0_1.out); rintro e w16 ⟨rfl, hb⟩; refine ⟨_, rfl, ?_⟩; replace BK101 := bb BK101 hb; replace BK102 := bb BK102 hb; replace BK103 := bb BK103 hb; replace HB := bs HB hb; (try clear hb); obtain ⟨_, _⟩ := o2 NB102_103 NB103_102; obtain ⟨_, _, _, _⟩ := b2 BK102) | (go_at_call 120; (with_reducible refine (spec_l2Good.calls k a1_0 _ _ l1_1 true _ ?side1 ?side2 A11.out).mono ?_); (case side1 => exact (Q11 HR1_1 HB)); (case side2 => exact HC1_1.out); rintro e w19 ⟨rfl, hb⟩; replace BK101 := bb BK101 hb; replace BK102 := bb BK102 hb; replace BK103 := bb BK103 hb; replace HB := bs HB hb; (try clear hb); obtain ⟨_, _, _, _⟩ := b2 BK101; obtain ⟨_, _, _, _⟩ := b2 BK102))
    go_meet
    case rel => exact ⟨_, (decide ((wrap64 (a0_0 * a1_0)) > 8)), Q17, H', ⟨Q169⟩, ⟨Q0 BK101⟩, ⟨Q0 BK102⟩, ⟨Q0 BK103⟩, ⟨Q1 HB⟩⟩
   ·replace c12 := Bool.eq_false_iff.mpr c12
    subst c12; have H1 : (spec_l2Product.j0 k a2 true a0_0 l0_1 a1_0 l1_1) = some (r1, r2, r3) := by rw [if_neg (show ¬ (false = true) by decide)] at H; exact H
    clear H; have H := H1; clear H1; have H' := Aside0.mk H; clear H; obtain ⟨_, _, _, _⟩ := o4 NB101_102 NB102_101 NB101_103 NB103_101; obtain ⟨_, _, _, _⟩ := b2 BK101
    go_wp2_with (first | ((with_reducible refine gate_callee (f := 120) rfl ?_); refine goesL_ (some 18) rfl rfl Try.func120 (by kernel_rfl) rfl #[.agg #[.int .i64 a0_0, .slice A0_1 l0_1.length c0_1]] rfl Q6 ?_; (with_reducible refine (spec_l2Good.calls k a0_0 _ _ l0_1 true _ ?side1 ?side2 A9.out).mono ?_); (case side1 => exact (Q11 HR0_1 HB)); (case side2 => exact HC0_1.out); rintro e w25 ⟨rfl, hb⟩; refine ⟨_, rfl, ?_⟩; replace BK101 := bb BK101 hb; replace BK102 := bb BK102 hb; replace BK103 := bb BK103 hb; replace HB := bs HB hb; (try clear hb); obtain ⟨_, _⟩ := o2 NB102_103 NB103_102; obtain ⟨_, _, _, _⟩ := b2 BK102) | (go_at_call 120; (with_reducible refine (spec_l2Good.calls k a1_0 _ _ l1_1 false _ ?side1 ?side2 A11.out).mono ?_); (case side1 => exact (Q11 HR1_1 HB)); (case side2 => exact HC1_1.out); rintro e w28 ⟨rfl, hb⟩; replace BK101 := bb BK101 hb; replace BK102 := bb BK102 hb; replace BK103 := bb BK103 hb; replace HB := bs HB hb; (try clear hb)))
    go_meet
    case rel => exact ⟨_, (true), Q17, H', ⟨Q169⟩, ⟨Q0 BK101⟩, ⟨Q0 BK102⟩, ⟨Q0 BK103⟩, ⟨Q1 HB⟩⟩
  ·replace c10 := Bool.eq_false_iff.mpr c10
   subst c10; have H1 : (spec_l2Product.j0 k a2 true a0_0 l0_1 a1_0 l1_1) = some (r1, r2, r3) := by rw [if_neg (show ¬ (false = true) by decide)] at H; exact H
   clear H; have H := H1; clear H1; have H' := Aside0.mk H; clear H; obtain ⟨_, _, _, _⟩ := o4 NB101_102 NB102_101 NB101_103 NB103_101; obtain ⟨_, _, _, _⟩ := b2 BK101
   go_wp2_with (first | ((with_reducible refine gate_callee (f := 120) rfl ?_); refine goesL_ (some 18) rfl rfl Try.func120 (by kernel_rfl) rfl #[.agg #[.int .i64 a0_0, .slice A0_1 l0_1.length c0_1]] rfl Q6 ?_; (with_reducible refine (spec_l2Good.calls k a0_0 _ _ l0_1 false _ ?side1 ?side2 A9.out).mono ?_); (case side1 => exact (Q11 HR0_1 HB)); (case side2 => exact HC0_1.out); rintro e w32 ⟨rfl, hb⟩; refine ⟨_, rfl, ?_⟩; replace BK101 := bb BK101 hb; replace BK102 := bb BK102 hb; replace BK103 := bb BK103 hb; replace HB := bs HB hb; (try clear hb)))
   go_meet
   case rel => exact ⟨_, (true), Q17, H', ⟨Q169⟩, ⟨Q0 BK101⟩, ⟨Q0 BK102⟩, ⟨Q0 BK103⟩, ⟨Q1 HB⟩⟩
 case rest =>
  clear HC8
  obtain ⟨kq, x32_7, rfl, HA, HJ7, BK101, BK102, BK103, HB⟩ := hcut
  cases kq with
  | zero => exact absurd HA.out (by simp [spec_l2Product.j0])
  | succ kj7 =>
   have H := HA.out; clear HA
   simp only [spec_l2Product.j0] at H
   by_cases c33 : x32_7 = true
   ·subst c33
    have H1 : (some (0, ([] : List (S71)), false)) = some (r1, r2, r3) := by rw [if_pos rfl] at H; exact H
    clear H; have H := H1; clear H1
    simp only [Option.some.injEq, Prod.mk.injEq] at H
    obtain ⟨rfl, rfl, rfl⟩ := H; obtain ⟨_, _, _, _⟩ := o4 NB103_101 NB101_103 NB103_102 NB102_103; obtain ⟨_, _, _, _⟩ := b2 BK103
    go_wp2
    refine bodyPost_ret (results_ct rfl _ _ gb103 30 #[.int .i64 0, .slice none 0 0] (0, 0) _ rfl (Q99 BK103) Try.underlying30 rfl (by kernel_rfl)) rfl ?_; exact ⟨_, Q19, Q147, Q4 HB GE103⟩
   ·replace c33 := Bool.eq_false_iff.mpr c33
    subst c33; have H1 : (spec_l2Product.l0 kj7 a2 0 a0_0 l0_1 a1_0 l1_1 (wrap64 (a0_0 * a1_0)) (([] : List (S71)))) = some (r1, r2, r3) := by rw [if_neg (show ¬ (false = true) by decide)] at H; exact H
    clear H; have H := H1; clear H1; obtain ⟨y106, hy106⟩ : ∃ y_ : List (S71), y_ = (([] : List (S71))) := ⟨_, rfl⟩; replace H : (spec_l2Product.l0 kj7 a2 0 a0_0 l0_1 a1_0 l1_1 (wrap64 (a0_0 * a1_0)) y106) = some (r1, r2, r3) := RH hy106 H; have Ny106 := Aside0.mk hy106; clear hy106; have H' := Aside0.mk H; clear H; obtain ⟨_, _, _, _⟩ := o4 NB101_102 NB102_101 NB101_103 NB103_101; obtain ⟨_, _, _, _⟩ := b2 BK101; obtain ⟨_, _⟩ := o2 NB102_103 NB103_102; obtain ⟨_, _, _, _⟩ := b2 BK102
    go_wp2_with (first | ((with_reducible refine gate_dst (N := 39) rfl ?_); refine Kd.R_lit k71 _ 71 (by rfl) (N := 39) (by rfl) (xs := ([] : List (S71))) (inner := []) (ok := fun _ => True) (okp := fun _ => True) Qr ?hp (fun _ hk => hk) trivial (Below.refl _ _) (Nat.le_refl _) (by simp) ?_; (case hp => exact (Reps.none _ _)); intro v107 w42 ho43 hb hg_ hnew_; clear hg_ hnew_; (first | rw [← Ny106.out] at ho43 | (simp only [Int.reduceToNat] at ho43; rw [← Ny106.out] at ho43)); have HO108 := am (Kd.R_lower ho43 (below_size (Q1 HB))); replace BK101 := bb BK101 hb; replace BK102 := bb BK102 hb; replace BK103 := bb BK103 hb; replace HB := bs HB hb; clear hb ho43; obtain ⟨Ao44, co44, eo44⟩ := Kd.R_slice HO108.out; subst eo44) | ((with_reducible refine gate_dst (N := 8) rfl ?_); refine box_event (by rfl) (N := 8) (by rfl) (cs := #[.int .i64 0, .slice none 0 0]) (t := 30) Qr ?_; intro gb109 hg w45 hbox hb; replace HO108 := am (Kd.R_below (Q5 HO108) hb); have BK109 := am (hbox); have GE109 := ge HB hg; replace HB := bs HB hb; obtain ⟨NB101_109, NB109_101⟩ := ne2 BK101 hg; replace BK101 := bb BK101 hb; obtain ⟨NB102_109, NB109_102⟩ := ne2 BK102 hg; replace BK102 := bb BK102 hb; have NB103_109 := am ((by rw [hg]; exact Nat.ne_of_lt (blk_lt (g := gb103) (o := .cells #[.int .i64 0, .slice none 0 0] 30 (0, 0)) (Q0 BK103)) : gb103 ≠ gb109)); have NB109_103 := am ((by rw [hg]; exact Nat.ne_of_gt (blk_lt (g := gb103) (o := .cells #[.int .i64 0, .slice none 0 0] 30 (0, 0)) (Q0 BK103)) : gb109 ≠ gb103)); replace BK103 := bb BK103 hb; clear hb hbox hg; obtain ⟨_, _, _, _, _, _⟩ := o6 NB109_101 NB101_109 NB109_102 NB102_109 NB109_103 NB103_109; obtain ⟨_, _, _, _⟩ := b2 BK109))
    go_loopg [9] kj7 (fun kq v9 w' => ∃ (x9_2 : Int) (x110001_2 : List (S71)) (u110001 : Value), v9 = .int .i64 x9_2 ∧ Aside0 (spec_l2Product.l0 kq a2 x9_2 a0_0 l0_1 a1_0 l1_1 (wrap64 (a0_0 * a1_0)) x110001_2 = some (r1, r2, r3)) ∧ Aside0 (kq ≤ kj7) ∧ Aside0 (Kd.R k71 71 w' w.heap.size (fun _ => True) u110001 x110001_2) ∧ Aside0 (w'.heap[gb101]? = some (.cells #[.int .i64 a0_0, (.slice A0_1 l0_1.length c0_1)] 30 (0, 0))) ∧ Aside0 (w'.heap[gb102]? = some (.cells #[.int .i64 a1_0, (.slice A1_1 l1_1.length c1_1)] 30 (0, 0))) ∧ Aside0 (w'.heap[gb103]? = some (.cells #[.int .i64 0, (.slice none 0 0)] 30 (0, 0))) ∧ Aside0 (w'.heap[gb109]? = some (.cells #[.int .i64 (wrap64 (a0_0 * a1_0)), u110001] 30 (0, 0))) ∧ Aside0 (Below w.heap.size w w'))
    case atStart => exact ⟨(0), (y106), (.slice Ao44 y106.length co44), Q17, H', ⟨Nat.le_refl _⟩, ⟨by (with_reducible repeat (first | apply Kd.R_alloc | apply Kd.R_drewN | apply Kd.R_drew)); exact Kd.R_mono (Kd.R_far (p := ⟨gb109, 1, none⟩) (Kd.R_far (p := ⟨gb109, 0, none⟩) (Kd.R_types HO108.out BK109.out (by decide)) (fun _ hk => hk.2) (.int .i64 (wrap64 (a0_0 * a1_0)))) (fun _ hk => hk.2) (.slice Ao44 y106.length co44)) (fun _ hk => trivial)⟩, ⟨Q2 NB101_109 BK101⟩, ⟨Q2 NB102_109 BK102⟩, ⟨Q2 NB103_109 BK103⟩, ⟨Q158 BK109⟩, ⟨Q4 HB GE109⟩⟩
    case round =>
     clear H'
     obtain ⟨x9_2, x110001_2, u110001, rfl, HA, HK2, HO_110001, BK101, BK102, BK103, BK109, HB⟩ := hrel
     cases gk with
     | zero => exact absurd HA.out (by simp [spec_l2Product.l0])
     | succ k2 =>
      have H := HA.out; clear HA
      simp only [spec_l2Product.l0] at H
      by_cases c50 : x9_2 < (wrap64 (a0_0 * a1_0))
      ·rw [if_pos c50] at H
       have c50b0 := decide_eq_true c50; clear c50; have H' := Aside0.mk H; clear H; obtain ⟨_, _, _, _, _, _⟩ := o6 NB109_101 NB101_109 NB109_102 NB102_109 NB109_103 NB103_109; obtain ⟨_, _, _, _⟩ := b2 BK109
       go_wp2
       go_loopg [10] k2 (fun kq v10 w' => ∃ (x10_3 : Int) (x110001_3 : List (S71)) (u110001 : Value), v10 = .int .i64 x10_3 ∧ Aside0 (spec_l2Product.l1 kq a2 x9_2 x10_3 a0_0 l0_1 a1_0 l1_1 (wrap64 (a0_0 * a1_0)) x110001_3 = some (r1, r2, r3)) ∧ Aside0 (kq ≤ k2) ∧ Aside0 (Kd.R k71 71 w' w.heap.size (fun _ => True) u110001 x110001_3) ∧ Aside0 (w'.heap[gb101]? = some (.cells #[.int .i64 a0_0, (.slice A0_1 l0_1.length c0_1)] 30 (0, 0))) ∧ Aside0 (w'.heap[gb102]? = some (.cells #[.int .i64 a1_0, (.slice A1_1 l1_1.length c1_1)] 30 (0, 0))) ∧ Aside0 (w'.heap[gb103]? = some (.cells #[.int .i64 0, (.slice none 0 0)] 30 (0, 0))) ∧ Aside0 (w'.heap[gb109]? = some (.cells #[.int .i64 (wrap64 (a0_0 * a1_0)), u110001] 30 (0, 0))) ∧ Aside0 (Below w.heap.size w w'))
       case atStart => exact ⟨(wrap64 (x9_2 + 1)), (x110001_2), (u110001), Q17, H', ⟨Nat.le_refl _⟩, ⟨Q87⟩, ⟨Q0 BK101⟩, ⟨Q0 BK102⟩, ⟨Q0 BK103⟩, ⟨Q0 BK109⟩, ⟨Q1 HB⟩⟩
       case round =>
        clear H'
        obtain ⟨x10_3, x110001_3, u110001, rfl, HA, HK3, HO_110001, BK101, BK102, BK103, BK109, HB⟩ := hrel
        cases gk with
        | zero => exact absurd HA.out (by simp [spec_l2Product.l1])
        | succ k3 =>
         have H := HA.out; clear HA
         simp only [spec_l2Product.l1] at H
         by_cases c55 : x10_3 < (wrap64 (a0_0 * a1_0))
         ·rw [if_pos c55] at H
          have c55b0 := decide_eq_true c55; clear c55
          obtain ⟨c56, H⟩ := ifz H
          have c56b0 := beq_eq_false_iff_ne.mpr c56; have c56b1 := bne_iff_ne.mpr c56; replace H := (ob H); obtain ⟨t110, A570, H⟩ := H; (try dsimp only at H); have A57 := Aside0.mk A570; clear A570; replace H := (ob H); obtain ⟨t111, A580, H⟩ := H; (try dsimp only at H); have A58 := Aside0.mk A580; clear A580; have HU59 := Aside0.mk H; clear H; obtain ⟨_, _, _, _, _, _⟩ := o6 NB109_101 NB101_109 NB109_102 NB102_109 NB109_103 NB103_109; obtain ⟨_, _, _, _⟩ := b2 BK109
          try go_wp2
          replace HO_110001 := am (Kd.R_drew HO_110001.out); replace BK101 := am (blk_drew BK101.out); replace BK102 := am (blk_drew BK102.out); replace BK103 := am (blk_drew BK103.out); replace BK109 := am (blk_drew BK109.out); replace HB := am (below_drew1 HB.out); refine start_ (n := 20) (S := fun w' => w'.cell? ⟨gb102, 0, none⟩ = some (.int .i64 a1_0) ∧ w'.cell? ⟨gb102, 1, none⟩ = some (.slice A1_1 l1_1.length c1_1)) (ds := []) #[false, false, false, false, false, false, false, false, false, false, false, false, false, false, false, false, false, false, false, false] (by kernel_rfl) rfl rfl ⟨(blk_cell BK102.out 0).trans rfl, (blk_cell BK102.out 1).trans rfl⟩ (fun hHeld => ?_); refine with_tabW spec_l2Product.tab10 spec_l2Product.bits10 (fun HT_ HW_ => ?_); generalize wr.drew = w64 at HO_110001 BK101 BK102 BK103 BK109 HB hHeld ⊢; refine pq 0 55 rfl rfl HT_ ?_; refine pq 1 56 rfl rfl HT_ ?_; refine pq 4 59 rfl rfl HT_ ?_; refine pq 5 60 rfl rfl HT_ ?_; refine pq 8 63 rfl rfl HT_ ?_; refine pq 9 64 rfl rfl HT_ ?_; refine pq 12 67 rfl rfl HT_ ?_; refine pq 13 68 rfl rfl HT_ ?_; refine tq2 2 57 rfl rfl HT_ HW_ hHeld ?_; refine pq 3 58 rfl rfl HT_ ?_; refine pq 16 11 rfl rfl HT_ ?_; refine tq2 6 61 rfl rfl HT_ HW_ hHeld ?_; refine pq 7 62 rfl rfl HT_ ?_; refine pq 17 12 rfl rfl HT_ ?_; refine tq2 10 65 rfl rfl HT_ HW_ hHeld ?_; refine pq 11 66 rfl rfl HT_ ?_; refine pq 18 13 rfl rfl HT_ ?_; refine tq2 14 69 rfl rfl HT_ HW_ hHeld ?_; refine pq 15 70 rfl rfl HT_ ?_; refine pq 19 14 rfl rfl HT_ ?_; refine done_ (done_of HT_.out (by kernel_rfl)) ?_
          try go_wp2
          replace HO_110001 := am (Kd.R_drew HO_110001.out); replace BK101 := am (blk_drew BK101.out); replace BK102 := am (blk_drew BK102.out); replace BK103 := am (blk_drew BK103.out); replace BK109 := am (blk_drew BK109.out); replace HB := am (below_drew1 HB.out); refine start_ (n := 10) (S := fun w' => w'.cell? ⟨gb101, 0, none⟩ = some (.int .i64 a0_0) ∧ w'.cell? ⟨gb101, 1, none⟩ = some (.slice A0_1 l0_1.length c0_1) ∧ w'.cell? ⟨gb102, 0, none⟩ = some (.int .i64 a1_0) ∧ w'.cell? ⟨gb102, 1, none⟩ = some (.slice A1_1 l1_1.length c1_1)) (ds := []) #[false, false, false, false, false, false, false, false, false, false] (by kernel_rfl) rfl rfl ⟨(blk_cell BK101.out 0).trans rfl, (blk_cell BK101.out 1).trans rfl, (blk_cell BK102.out 0).trans rfl, (blk_cell BK102.out 1).trans rfl⟩ (fun hHeld => ?_); refine with_tabW spec_l2Product.tab11 spec_l2Product.bits11 (fun HT_ HW_ => ?_); generalize w64.drew = w65 at HO_110001 BK101 BK102 BK103 BK109 HB hHeld ⊢; refine pq 1 72 rfl rfl HT_ ?_; refine pq 2 73 rfl rfl HT_ ?_; refine pq 5 76 rfl rfl HT_ ?_; refine pq 6 77 rfl rfl HT_ ?_; refine tq4 0 71 rfl rfl HT_ HW_ hHeld ?_; refine tq4 4 75 rfl rfl HT_ HW_ hHeld ?_; refine oq 3 74 rfl rfl HT_ (fun K hK => ?_); refine goes_ Try.func137 (by kernel_rfl) rfl #[.agg #[.int .i64 a0_0, .slice A0_1 l0_1.length c0_1], .int .i64 (wrap64 (Int.tdiv x9_2 a1_0)), .int .i64 (wrap64 (Int.tdiv x10_3 a1_0))] (by rfl) rfl rfl Q6 ?_
          with_reducible refine (spec_l2Near.calls k3 a0_0 _ _ l0_1 (wrap64 (Int.tdiv x9_2 a1_0)) (wrap64 (Int.tdiv x10_3 a1_0)) t110 _ ?side1 ?side2 A57.out).mono ?_
          (case side1 => exact (Q11 HR0_1 HB))
          (case side2 => exact HC0_1.out)
          rintro e w66 ⟨rfl, hb⟩; refine ⟨_, rfl, ?_⟩; replace HO_110001 := am (Kd.R_below Q87 hb); replace BK101 := bb BK101 hb; replace BK102 := bb BK102 hb; replace BK103 := bb BK103 hb; replace BK109 := bb BK109 hb; replace HB := bs HB hb; (try clear hb); refine hK.out _ _ ⟨(blk_cell BK101.out 0).trans rfl, (blk_cell BK101.out 1).trans rfl, (blk_cell BK102.out 0).trans rfl, (blk_cell BK102.out 1).trans rfl⟩ (fun hHeld => ?_); clear hK K; refine nz ?_
          refine oq 7 78 rfl rfl HT_ (fun K hK => ?_); refine goes_ Try.func137 (by kernel_rfl) rfl #[.agg #[.int .i64 a1_0, .slice A1_1 l1_1.length c1_1], .int .i64 (Int.tmod x9_2 a1_0), .int .i64 (Int.tmod x10_3 a1_0)] (by rfl) rfl rfl Q6 ?_
          with_reducible refine (spec_l2Near.calls k3 a1_0 _ _ l1_1 (Int.tmod x9_2 a1_0) (Int.tmod x10_3 a1_0) t111 _ ?side1 ?side2 A58.out).mono ?_
          (case side1 => exact (Q11 HR1_1 HB))
          (case side2 => exact HC1_1.out)
          rintro e w67 ⟨rfl, hb⟩; refine ⟨_, rfl, ?_⟩; replace HO_110001 := am (Kd.R_below Q87 hb); replace BK101 := bb BK101 hb; replace BK102 := bb BK102 hb; replace BK103 := bb BK103 hb; replace BK109 := bb BK109 hb; replace HB := bs HB hb; (try clear hb); refine hK.out _ _ ⟨(blk_cell BK101.out 0).trans rfl, (blk_cell BK101.out 1).trans rfl, (blk_cell BK102.out 0).trans rfl, (blk_cell BK102.out 1).trans rfl⟩ (fun hHeld => ?_); clear hK K; refine nz ?_
          refine pq 8 15 rfl rfl HT_ ?_; refine pq 9 16 rfl rfl HT_ ?_; refine done_ (done_of HT_.out (by kernel_rfl)) ?_
          go_upto_region 12 with (fail)
          have H := HU59.out; clear HU59
          by_cases c68 : (wrap64 (Int.tdiv x9_2 a1_0)) = (wrap64 (Int.tdiv x10_3 a1_0))
          ·rw [if_pos c68] at H
           have c68b0 := beq_iff_eq.mpr c68; have c68b1 := bne_eq_false_iff_eq.mpr c68; clear c68
           by_cases c69 : t111 = true
           ·subst c69
            have H1 : (if x110001_3.length < 8796093022208 then (spec_l2Product.l1 k3 a2 x9_2 (wrap64 (x10_3 + 1)) a0_0 l0_1 a1_0 l1_1 (wrap64 (a0_0 * a1_0)) (x110001_3 ++ [(⟨x9_2, x10_3⟩ : S71)])) else (none)) = some (r1, r2, r3) := by rw [if_pos rfl] at H; exact H
            clear H; have H := H1; clear H1
            obtain ⟨c70, H⟩ := ifn H
            have LMc70 := Aside0.mk c70; clear c70; obtain ⟨y112, hy112⟩ : ∃ y_ : List (S71), y_ = (x110001_3 ++ [(⟨x9_2, x10_3⟩ : S71)]) := ⟨_, rfl⟩; replace H : (spec_l2Product.l1 k3 a2 x9_2 (wrap64 (x10_3 + 1)) a0_0 l0_1 a1_0 l1_1 (wrap64 (a0_0 * a1_0)) y112) = some (r1, r2, r3) := RH hy112 H; have Ny112 := Aside0.mk hy112; clear hy112; have H' := Aside0.mk H; clear H; obtain ⟨_, _, _, _, _, _⟩ := o6 NB109_101 NB101_109 NB109_102 NB102_109 NB109_103 NB103_109; obtain ⟨_, _, _, _⟩ := b2 BK109
            go_wp2_with (first | ((with_reducible refine gate_builtin (b := .append) (xs := #[.tmp 103, .tmp 107]) rfl ?_); at_builtin; refine Kd.R_append k71 (w0 := w) w.heap.size rfl (.tmp 103) (.tmp 107) 22 71 (.agg #[(.int .i64 0), (.int .i64 0)]) 16 rfl Try.underlying22 info71 rfl (by decide) (by omega) u110001 x110001_3 (⟨x9_2, x10_3⟩ : S71) [.int .i64 x9_2, .int .i64 x10_3] (fun _ => True) (fun _ => False) rfl rfl ?aP (fun _ hk => hk.elim) ?aF ?aO ?aB ?aS ?aL ?_; (case aP => exact k71_mkM _ _ _ (⟨x9_2, x10_3⟩ : S71)); (case aB => exact (Q1 HB)); (case aF => exact (fun _ _ => trivial)); (case aO => exact Q87); (case aS => exact (below_size (Q1 HB))); (case aL => have := LMc70.out; omega); intro v113 w75 ho hb hg hat; rw [← Ny112.out] at ho; replace BK101 := am (blk_grown (g := gb101) (o := .cells #[.int .i64 a0_0, .slice A0_1 l0_1.length c0_1] 30 (0, 0)) (Q0 BK101) hg (Kd.R_ne HO_110001.out BK101.out (by decide))); replace BK102 := am (blk_grown (g := gb102) (o := .cells #[.int .i64 a1_0, .slice A1_1 l1_1.length c1_1] 30 (0, 0)) (Q0 BK102) hg (Kd.R_ne HO_110001.out BK102.out (by decide))); replace BK103 := am (blk_grown (g := gb103) (o := .cells #[.int .i64 0, .slice none 0 0] 30 (0, 0)) (Q0 BK103) hg (Kd.R_ne HO_110001.out BK103.out (by decide))); replace BK109 := am (blk_grown (g := gb109) (o := .cells #[.int .i64 (wrap64 (a0_0 * a1_0)), u110001] 30 (0, 0)) (Q0 BK109) hg (Kd.R_ne HO_110001.out BK109.out (by decide))); replace HB := am (hb); have HO114 := am (ho); clear HO_110001; clear ho hb hg hat; obtain ⟨Ao76, co76, eo76⟩ := Kd.R_slice HO114.out; subst eo76; obtain ⟨_, _, _, _⟩ := b2 BK109))
            go_roundg k3
            case measure => have := HJ7.out; have := HK2.out; have := HK3.out; omega
            case rel => exact ⟨(wrap64 (x10_3 + 1)), (y112), (.slice Ao76 y112.length co76), Q17, H', ⟨Q133⟩, ⟨by (with_reducible repeat (first | apply Kd.R_alloc | apply Kd.R_drewN | apply Kd.R_drew)); exact Kd.R_mono (Kd.R_far (p := ⟨gb109, 1, none⟩) (Kd.R_types HO114.out BK109.out (by decide)) (fun _ hk => hk.2) (.slice Ao76 y112.length co76)) (fun _ hk => trivial)⟩, ⟨Q26 NB101_109 BK101⟩, ⟨Q26 NB102_109 BK102⟩, ⟨Q26 NB103_109 BK103⟩, ⟨Q122 BK109⟩, ⟨Q4 HB GE109⟩⟩
           ·replace c69 := Bool.eq_false_iff.mpr c69
            subst c69; have H1 : (if t110 = true then (if (Int.tmod x9_2 a1_0) = (Int.tmod x10_3 a1_0) then (if x110001_3.length < 8796093022208 then (spec_l2Product.l1 k3 a2 x9_2 (wrap64 (x10_3 + 1)) a0_0 l0_1 a1_0 l1_1 (wrap64 (a0_0 * a1_0)) (x110001_3 ++ [(⟨x9_2, x10_3⟩ : S71)])) else (none)) else (if a2 = true then (spec_l2Product.l1 k3 a2 x9_2 (wrap64 (x10_3 + 1)) a0_0 l0_1 a1_0 l1_1 (wrap64 (a0_0 * a1_0)) x110001_3) else (spec_l2Product.l1 k3 a2 x9_2 (wrap64 (x10_3 + 1)) a0_0 l0_1 a1_0 l1_1 (wrap64 (a0_0 * a1_0)) x110001_3))) else (if a2 = true then (spec_l2Product.l1 k3 a2 x9_2 (wrap64 (x10_3 + 1)) a0_0 l0_1 a1_0 l1_1 (wrap64 (a0_0 * a1_0)) x110001_3) else (spec_l2Product.l1 k3 a2 x9_2 (wrap64 (x10_3 + 1)) a0_0 l0_1 a1_0 l1_1 (wrap64 (a0_0 * a1_0)) x110001_3))) = some (r1, r2, r3) := by rw [if_neg (show ¬ (false = true) by decide)] at H; exact H
            clear H; have H := H1; clear H1
            by_cases c78 : t110 = true
            ·subst c78
             have H1 : (if (Int.tmod x9_2 a1_0) = (Int.tmod x10_3 a1_0) then (if x110001_3.length < 8796093022208 then (spec_l2Product.l1 k3 a2 x9_2 (wrap64 (x10_3 + 1)) a0_0 l0_1 a1_0 l1_1 (wrap64 (a0_0 * a1_0)) (x110001_3 ++ [(⟨x9_2, x10_3⟩ : S71)])) else (none)) else (if a2 = true then (spec_l2Product.l1 k3 a2 x9_2 (wrap64 (x10_3 + 1)) a0_0 l0_1 a1_0 l1_1 (wrap64 (a0_0 * a1_0)) x110001_3) else (spec_l2Product.l1 k3 a2 x9_2 (wrap64 (x10_3 + 1)) a0_0 l0_1 a1_0 l1_1 (wrap64 (a0_0 * a1_0)) x110001_3))) = some (r1, r2, r3) := by rw [if_pos rfl] at H; exact H
             clear H; have H := H1; clear H1
             by_cases c79 : (Int.tmod x9_2 a1_0) = (Int.tmod x10_3 a1_0)
             ·rw [if_pos c79] at H
              have c79b0 := beq_iff_eq.mpr c79; have c79b1 := bne_eq_false_iff_eq.mpr c79; clear c79
              obtain ⟨c80, H⟩ := ifn H
              have LMc80 := Aside0.mk c80; clear c80; obtain ⟨y115, hy115⟩ : ∃ y_ : List (S71), y_ = (x110001_3 ++ [(⟨x9_2, x10_3⟩ : S71)]) := ⟨_, rfl⟩; replace H : (spec_l2Product.l1 k3 a2 x9_2 (wrap64 (x10_3 + 1)) a0_0 l0_1 a1_0 l1_1 (wrap64 (a0_0 * a1_0)) y115) = some (r1, r2, r3) := RH hy115 H; have Ny115 := Aside0.mk hy115; clear hy115; have H' := Aside0.mk H; clear H; obtain ⟨_, _, _, _, _, _⟩ := o6 NB109_101 NB101_109 NB109_102 NB102_109 NB109_103 NB103_109; obtain ⟨_, _, _, _⟩ := b2 BK109
              go_wp2_with (first | ((with_reducible refine gate_builtin (b := .append) (xs := #[.tmp 103, .tmp 107]) rfl ?_); at_builtin; refine Kd.R_append k71 (w0 := w) w.heap.size rfl (.tmp 103) (.tmp 107) 22 71 (.agg #[(.int .i64 0), (.int .i64 0)]) 16 rfl Try.underlying22 info71 rfl (by decide) (by omega) u110001 x110001_3 (⟨x9_2, x10_3⟩ : S71) [.int .i64 x9_2, .int .i64 x10_3] (fun _ => True) (fun _ => False) rfl rfl ?aP (fun _ hk => hk.elim) ?aF ?aO ?aB ?aS ?aL ?_; (case aP => exact k71_mkM _ _ _ (⟨x9_2, x10_3⟩ : S71)); (case aB => exact (Q1 HB)); (case aF => exact (fun _ _ => trivial)); (case aO => exact Q87); (case aS => exact (below_size (Q1 HB))); (case aL => have := LMc80.out; omega); intro v116 w85 ho hb hg hat; rw [← Ny115.out] at ho; replace BK101 := am (blk_grown (g := gb101) (o := .cells #[.int .i64 a0_0, .slice A0_1 l0_1.length c0_1] 30 (0, 0)) (Q0 BK101) hg (Kd.R_ne HO_110001.out BK101.out (by decide))); replace BK102 := am (blk_grown (g := gb102) (o := .cells #[.int .i64 a1_0, .slice A1_1 l1_1.length c1_1] 30 (0, 0)) (Q0 BK102) hg (Kd.R_ne HO_110001.out BK102.out (by decide))); replace BK103 := am (blk_grown (g := gb103) (o := .cells #[.int .i64 0, .slice none 0 0] 30 (0, 0)) (Q0 BK103) hg (Kd.R_ne HO_110001.out BK103.out (by decide))); replace BK109 := am (blk_grown (g := gb109) (o := .cells #[.int .i64 (wrap64 (a0_0 * a1_0)), u110001] 30 (0, 0)) (Q0 BK109) hg (Kd.R_ne HO_110001.out BK109.out (by decide))); replace HB := am (hb); have HO117 := am (ho); clear HO_110001; clear ho hb hg hat; obtain ⟨Ao86, co86, eo86⟩ := Kd.R_slice HO117.out; subst eo86; obtain ⟨_, _, _, _⟩ := b2 BK109))
              go_roundg k3
              case measure => have := HJ7.out; have := HK2.out; have := HK3.out; omega
              case rel => exact ⟨(wrap64 (x10_3 + 1)), (y115), (.slice Ao86 y115.length co86), Q17, H', ⟨Q133⟩, ⟨by (with_reducible repeat (first | apply Kd.R_alloc | apply Kd.R_drewN | apply Kd.R_drew)); exact Kd.R_mono (Kd.R_far (p := ⟨gb109, 1, none⟩) (Kd.R_types HO117.out BK109.out (by decide)) (fun _ hk => hk.2) (.slice Ao86 y115.length co86)) (fun _ hk => trivial)⟩, ⟨Q26 NB101_109 BK101⟩, ⟨Q26 NB102_109 BK102⟩, ⟨Q26 NB103_109 BK103⟩, ⟨Q122 BK109⟩, ⟨Q4 HB GE109⟩⟩
             ·rw [if_neg c79] at H
              have c79b0 := beq_eq_false_iff_ne.mpr c79; have c79b1 := bne_iff_ne.mpr c79
              by_cases c88 : a2 = true
              ·subst c88
               have H1 : (spec_l2Product.l1 k3 true x9_2 (wrap64 (x10_3 + 1)) a0_0 l0_1 a1_0 l1_1 (wrap64 (a0_0 * a1_0)) x110001_3) = some (r1, r2, r3) := by rw [if_pos rfl] at H; exact H
               clear H; have H := H1; clear H1; have H' := Aside0.mk H; clear H
               go_wp2
               go_roundg k3
               case measure => have := HJ7.out; have := HK2.out; have := HK3.out; omega
               case rel => exact ⟨(wrap64 (x10_3 + 1)), (x110001_3), (u110001), Q17, H', ⟨Q133⟩, ⟨Q87⟩, ⟨Q0 BK101⟩, ⟨Q0 BK102⟩, ⟨Q0 BK103⟩, ⟨Q0 BK109⟩, ⟨Q1 HB⟩⟩
              ·replace c88 := Bool.eq_false_iff.mpr c88
               subst c88; have H1 : (spec_l2Product.l1 k3 false x9_2 (wrap64 (x10_3 + 1)) a0_0 l0_1 a1_0 l1_1 (wrap64 (a0_0 * a1_0)) x110001_3) = some (r1, r2, r3) := by rw [if_neg (show ¬ (false = true) by decide)] at H; exact H
               clear H; have H := H1; clear H1; have H' := Aside0.mk H; clear H
               go_wp2
               go_roundg k3
               case measure => have := HJ7.out; have := HK2.out; have := HK3.out; omega
               case rel => exact ⟨(wrap64 (x10_3 + 1)), (x110001_3), (u110001), Q17, H', ⟨Q133⟩, ⟨Q87⟩, ⟨Q0 BK101⟩, ⟨Q0 BK102⟩, ⟨Q0 BK103⟩, ⟨Q0 BK109⟩, ⟨Q1 HB⟩⟩
            ·replace c78 := Bool.eq_false_iff.mpr c78
             subst c78; have H1 : (if a2 = true then (spec_l2Product.l1 k3 a2 x9_2 (wrap64 (x10_3 + 1)) a0_0 l0_1 a1_0 l1_1 (wrap64 (a0_0 * a1_0)) x110001_3) else (spec_l2Product.l1 k3 a2 x9_2 (wrap64 (x10_3 + 1)) a0_0 l0_1 a1_0 l1_1 (wrap64 (a0_0 * a1_0)) x110001_3)) = some (r1, r2, r3) := by rw [if_neg (show ¬ (false = true) by decide)] at H; exact H
             clear H; have H := H1; clear H1
             by_cases c89 : a2 = true
             ·subst c89
              have H1 : (spec_l2Product.l1 k3 true x9_2 (wrap64 (x10_3 + 1)) a0_0 l0_1 a1_0 l1_1 (wrap64 (a0_0 * a1_0)) x110001_3) = some (r1, r2, r3) := by rw [if_pos rfl] at H; exact H
              clear H; have H := H1; clear H1; have H' := Aside0.mk H; clear H
              go_wp2
              go_roundg k3
              case measure => have := HJ7.out; have := HK2.out; have := HK3.out; omega
              case rel => exact ⟨(wrap64 (x10_3 + 1)), (x110001_3), (u110001), Q17, H', ⟨Q133⟩, ⟨Q87⟩, ⟨Q0 BK101⟩, ⟨Q0 BK102⟩, ⟨Q0 BK103⟩, ⟨Q0 BK109⟩, ⟨Q1 HB⟩⟩
             ·replace c89 := Bool.eq_false_iff.mpr c89
              subst c89; have H1 : (spec_l2Product.l1 k3 false x9_2 (wrap64 (x10_3 + 1)) a0_0 l0_1 a1_0 l1_1 (wrap64 (a0_0 * a1_0)) x110001_3) = some (r1, r2, r3) := by rw [if_neg (show ¬ (false = true) by decide)] at H; exact H
              clear H; have H := H1; clear H1; have H' := Aside0.mk H; clear H
              go_wp2
              go_roundg k3
              case measure => have := HJ7.out; have := HK2.out; have := HK3.out; omega
              case rel => exact ⟨(wrap64 (x10_3 + 1)), (x110001_3), (u110001), Q17, H', ⟨Q133⟩, ⟨Q87⟩, ⟨Q0 BK101⟩, ⟨Q0 BK102⟩, ⟨Q0 BK103⟩, ⟨Q0 BK109⟩, ⟨Q1 HB⟩⟩
          ·rw [if_neg c68] at H
           have c68b0 := beq_eq_false_iff_ne.mpr c68; have c68b1 := bne_iff_ne.mpr c68
           by_cases c90 : t110 = true
           ·subst c90
            have H1 : (if (Int.tmod x9_2 a1_0) = (Int.tmod x10_3 a1_0) then (if x110001_3.length < 8796093022208 then (spec_l2Product.l1 k3 a2 x9_2 (wrap64 (x10_3 + 1)) a0_0 l0_1 a1_0 l1_1 (wrap64 (a0_0 * a1_0)) (x110001_3 ++ [(⟨x9_2, x10_3⟩ : S71)])) else (none)) else (if a2 = true then (if t111 = true then (if x110001_3.length < 8796093022208 then (spec_l2Product.l1 k3 a2 x9_2 (wrap64 (x10_3 + 1)) a0_0 l0_1 a1_0 l1_1 (wrap64 (a0_0 * a1_0)) (x110001_3 ++ [(⟨x9_2, x10_3⟩ : S71)])) else (none)) else (spec_l2Product.l1 k3 a2 x9_2 (wrap64 (x10_3 + 1)) a0_0 l0_1 a1_0 l1_1 (wrap64 (a0_0 * a1_0)) x110001_3)) else (spec_l2Product.l1 k3 a2 x9_2 (wrap64 (x10_3 + 1)) a0_0 l0_1 a1_0 l1_1 (wrap64 (a0_0 * a1_0)) x110001_3))) = some (r1, r2, r3) := by rw [if_pos rfl] at H; exact H
            clear H; have H := H1; clear H1
            by_cases c91 : (Int.tmod x9_2 a1_0) = (Int.tmod x10_3 a1_0)
            ·rw [if_pos c91] at H
             have c91b0 := beq_iff_eq.mpr c91; have c91b1 := bne_eq_false_iff_eq.mpr c91; clear c91
             obtain ⟨c92, H⟩ := ifn H
             have LMc92 := Aside0.mk c92; clear c92; obtain ⟨y118, hy118⟩ : ∃ y_ : List (S71), y_ = (x110001_3 ++ [(⟨x9_2, x10_3⟩ : S71)]) := ⟨_, rfl⟩; replace H : (spec_l2Product.l1 k3 a2 x9_2 (wrap64 (x10_3 + 1)) a0_0 l0_1 a1_0 l1_1 (wrap64 (a0_0 * a1_0)) y118) = some (r1, r2, r3) := RH hy118 H; have Ny118 := Aside0.mk hy118; clear hy118; have H' := Aside0.mk H; clear H; obtain ⟨_, _, _, _, _, _⟩ := o6 NB109_101 NB101_109 NB109_102 NB102_109 NB109_103 NB103_109; obtain ⟨_, _, _, _⟩ := b2 BK109
             go_wp2_with (first | ((with_reducible refine gate_builtin (b := .append) (xs := #[.tmp 103, .tmp 107]) rfl ?_); at_builtin; refine Kd.R_append k71 (w0 := w) w.heap.size rfl (.tmp 103) (.tmp 107) 22 71 (.agg #[(.int .i64 0), (.int .i64 0)]) 16 rfl Try.underlying22 info71 rfl (by decide) (by omega) u110001 x110001_3 (⟨x9_2, x10_3⟩ : S71) [.int .i64 x9_2, .int .i64 x10_3] (fun _ => True) (fun _ => False) rfl rfl ?aP (fun _ hk => hk.elim) ?aF ?aO ?aB ?aS ?aL ?_; (case aP => exact k71_mkM _ _ _ (⟨x9_2, x10_3⟩ : S71)); (case aB => exact (Q1 HB)); (case aF => exact (fun _ _ => trivial)); (case aO => exact Q87); (case aS => exact (below_size (Q1 HB))); (case aL => have := LMc92.out; omega); intro v119 w97 ho hb hg hat; rw [← Ny118.out] at ho; replace BK101 := am (blk_grown (g := gb101) (o := .cells #[.int .i64 a0_0, .slice A0_1 l0_1.length c0_1] 30 (0, 0)) (Q0 BK101) hg (Kd.R_ne HO_110001.out BK101.out (by decide))); replace BK102 := am (blk_grown (g := gb102) (o := .cells #[.int .i64 a1_0, .slice A1_1 l1_1.length c1_1] 30 (0, 0)) (Q0 BK102) hg (Kd.R_ne HO_110001.out BK102.out (by decide))); replace BK103 := am (blk_grown (g := gb103) (o := .cells #[.int .i64 0, .slice none 0 0] 30 (0, 0)) (Q0 BK103) hg (Kd.R_ne HO_110001.out BK103.out (by decide))); replace BK109 := am (blk_grown (g := gb109) (o := .cells #[.int .i64 (wrap64 (a0_0 * a1_0)), u110001] 30 (0, 0)) (Q0 BK109) hg (Kd.R_ne HO_110001.out BK109.out (by decide))); replace HB := am (hb); have HO120 := am (ho); clear HO_110001; clear ho hb hg hat; obtain ⟨Ao98, co98, eo98⟩ := Kd.R_slice HO120.out; subst eo98; obtain ⟨_, _, _, _⟩ := b2 BK109))
             go_roundg k3
             case measure => have := HJ7.out; have := HK2.out; have := HK3.out; omega
             case rel => exact ⟨(wrap64 (x10_3 + 1)), (y118), (.slice Ao98 y118.length co98), Q17, H', ⟨Q133⟩, ⟨by (with_reducible repeat (first | apply Kd.R_alloc | apply Kd.R_drewN | apply Kd.R_drew)); exact Kd.R_mono (Kd.R_far (p := ⟨gb109, 1, none⟩) (Kd.R_types HO120.out BK109.out (by decide)) (fun _ hk => hk.2) (.slice Ao98 y118.length co98)) (fun _ hk => trivial)⟩, ⟨Q26 NB101_109 BK101⟩, ⟨Q26 NB102_109 BK102⟩, ⟨Q26 NB103_109 BK103⟩, ⟨Q122 BK109⟩, ⟨Q4 HB GE109⟩⟩
            ·rw [if_neg c91] at H
             have c91b0 := beq_eq_false_iff_ne.mpr c91; have c91b1 := bne_iff_ne.mpr c91
             by_cases c100 : a2 = true
             ·subst c100
              have H1 : (if t111 = true then (if x110001_3.length < 8796093022208 then (spec_l2Product.l1 k3 true x9_2 (wrap64 (x10_3 + 1)) a0_0 l0_1 a1_0 l1_1 (wrap64 (a0_0 * a1_0)) (x110001_3 ++ [(⟨x9_2, x10_3⟩ : S71)])) else (none)) else (spec_l2Product.l1 k3 true x9_2 (wrap64 (x10_3 + 1)) a0_0 l0_1 a1_0 l1_1 (wrap64 (a0_0 * a1_0)) x110001_3)) = some (r1, r2, r3) := by rw [if_pos rfl] at H; exact H
              clear H; have H := H1; clear H1
              by_cases c101 : t111 = true
              ·subst c101
               have H1 : (if x110001_3.length < 8796093022208 then (spec_l2Product.l1 k3 true x9_2 (wrap64 (x10_3 + 1)) a0_0 l0_1 a1_0 l1_1 (wrap64 (a0_0 * a1_0)) (x110001_3 ++ [(⟨x9_2, x10_3⟩ : S71)])) else (none)) = some (r1, r2, r3) := by rw [if_pos rfl] at H; exact H
               clear H; have H := H1; clear H1
               obtain ⟨c102, H⟩ := ifn H
               have LMc102 := Aside0.mk c102; clear c102; obtain ⟨y121, hy121⟩ : ∃ y_ : List (S71), y_ = (x110001_3 ++ [(⟨x9_2, x10_3⟩ : S71)]) := ⟨_, rfl⟩; replace H : (spec_l2Product.l1 k3 true x9_2 (wrap64 (x10_3 + 1)) a0_0 l0_1 a1_0 l1_1 (wrap64 (a0_0 * a1_0)) y121) = some (r1, r2, r3) := RH hy121 H; have Ny121 := Aside0.mk hy121; clear hy121; have H' := Aside0.mk H; clear H; obtain ⟨_, _, _, _, _, _⟩ := o6 NB109_101 NB101_109 NB109_102 NB102_109 NB109_103 NB103_109; obtain ⟨_, _, _, _⟩ := b2 BK109
               go_wp2_with (first | ((with_reducible refine gate_builtin (b := .append) (xs := #[.tmp 103, .tmp 107]) rfl ?_); at_builtin; refine Kd.R_append k71 (w0 := w) w.heap.size rfl (.tmp 103) (.tmp 107) 22 71 (.agg #[(.int .i64 0), (.int .i64 0)]) 16 rfl Try.underlying22 info71 rfl (by decide) (by omega) u110001 x110001_3 (⟨x9_2, x10_3⟩ : S71) [.int .i64 x9_2, .int .i64 x10_3] (fun _ => True) (fun _ => False) rfl rfl ?aP (fun _ hk => hk.elim) ?aF ?aO ?aB ?aS ?aL ?_; (case aP => exact k71_mkM _ _ _ (⟨x9_2, x10_3⟩ : S71)); (case aB => exact (Q1 HB)); (case aF => exact (fun _ _ => trivial)); (case aO => exact Q87); (case aS => exact (below_size (Q1 HB))); (case aL => have := LMc102.out; omega); intro v122 w107 ho hb hg hat; rw [← Ny121.out] at ho; replace BK101 := am (blk_grown (g := gb101) (o := .cells #[.int .i64 a0_0, .slice A0_1 l0_1.length c0_1] 30 (0, 0)) (Q0 BK101) hg (Kd.R_ne HO_110001.out BK101.out (by decide))); replace BK102 := am (blk_grown (g := gb102) (o := .cells #[.int .i64 a1_0, .slice A1_1 l1_1.length c1_1] 30 (0, 0)) (Q0 BK102) hg (Kd.R_ne HO_110001.out BK102.out (by decide))); replace BK103 := am (blk_grown (g := gb103) (o := .cells #[.int .i64 0, .slice none 0 0] 30 (0, 0)) (Q0 BK103) hg (Kd.R_ne HO_110001.out BK103.out (by decide))); replace BK109 := am (blk_grown (g := gb109) (o := .cells #[.int .i64 (wrap64 (a0_0 * a1_0)), u110001] 30 (0, 0)) (Q0 BK109) hg (Kd.R_ne HO_110001.out BK109.out (by decide))); replace HB := am (hb); have HO123 := am (ho); clear HO_110001; clear ho hb hg hat; obtain ⟨Ao108, co108, eo108⟩ := Kd.R_slice HO123.out; subst eo108; obtain ⟨_, _, _, _⟩ := b2 BK109))
               go_roundg k3
               case measure => have := HJ7.out; have := HK2.out; have := HK3.out; omega
               case rel => exact ⟨(wrap64 (x10_3 + 1)), (y121), (.slice Ao108 y121.length co108), Q17, H', ⟨Q133⟩, ⟨by (with_reducible repeat (first | apply Kd.R_alloc | apply Kd.R_drewN | apply Kd.R_drew)); exact Kd.R_mono (Kd.R_far (p := ⟨gb109, 1, none⟩) (Kd.R_types HO123.out BK109.out (by decide)) (fun _ hk => hk.2) (.slice Ao108 y121.length co108)) (fun _ hk => trivial)⟩, ⟨Q26 NB101_109 BK101⟩, ⟨Q26 NB102_109 BK102⟩, ⟨Q26 NB103_109 BK103⟩, ⟨Q122 BK109⟩, ⟨Q4 HB GE109⟩⟩
              ·replace c101 := Bool.eq_false_iff.mpr c101
               subst c101; have H1 : (spec_l2Product.l1 k3 true x9_2 (wrap64 (x10_3 + 1)) a0_0 l0_1 a1_0 l1_1 (wrap64 (a0_0 * a1_0)) x110001_3) = some (r1, r2, r3) := by rw [if_neg (show ¬ (false = true) by decide)] at H; exact H
               clear H; have H := H1; clear H1; have H' := Aside0.mk H; clear H
               go_wp2
               go_roundg k3
               case measure => have := HJ7.out; have := HK2.out; have := HK3.out; omega
               case rel => exact ⟨(wrap64 (x10_3 + 1)), (x110001_3), (u110001), Q17, H', ⟨Q133⟩, ⟨Q87⟩, ⟨Q0 BK101⟩, ⟨Q0 BK102⟩, ⟨Q0 BK103⟩, ⟨Q0 BK109⟩, ⟨Q1 HB⟩⟩
             ·replace c100 := Bool.eq_false_iff.mpr c100
              subst c100; have H1 : (spec_l2Product.l1 k3 false x9_2 (wrap64 (x10_3 + 1)) a0_0 l0_1 a1_0 l1_1 (wrap64 (a0_0 * a1_0)) x110001_3) = some (r1, r2, r3) := by rw [if_neg (show ¬ (false = true) by decide)] at H; exact H
              clear H; have H := H1; clear H1; have H' := Aside0.mk H; clear H
              go_wp2
              go_roundg k3
              case measure => have := HJ7.out; have := HK2.out; have := HK3.out; omega
              case rel => exact ⟨(wrap64 (x10_3 + 1)), (x110001_3), (u110001), Q17, H', ⟨Q133⟩, ⟨Q87⟩, ⟨Q0 BK101⟩, ⟨Q0 BK102⟩, ⟨Q0 BK103⟩, ⟨Q0 BK109⟩, ⟨Q1 HB⟩⟩
           ·replace c90 := Bool.eq_false_iff.mpr c90
            subst c90; have H1 : (if a2 = true then (spec_l2Product.l1 k3 a2 x9_2 (wrap64 (x10_3 + 1)) a0_0 l0_1 a1_0 l1_1 (wrap64 (a0_0 * a1_0)) x110001_3) else (spec_l2Product.l1 k3 a2 x9_2 (wrap64 (x10_3 + 1)) a0_0 l0_1 a1_0 l1_1 (wrap64 (a0_0 * a1_0)) x110001_3)) = some (r1, r2, r3) := by rw [if_neg (show ¬ (false = true) by decide)] at H; exact H
            clear H; have H := H1; clear H1
            by_cases c110 : a2 = true
            ·subst c110
             have H1 : (spec_l2Product.l1 k3 true x9_2 (wrap64 (x10_3 + 1)) a0_0 l0_1 a1_0 l1_1 (wrap64 (a0_0 * a1_0)) x110001_3) = some (r1, r2, r3) := by rw [if_pos rfl] at H; exact H
             clear H; have H := H1; clear H1; have H' := Aside0.mk H; clear H
             go_wp2
             go_roundg k3
             case measure => have := HJ7.out; have := HK2.out; have := HK3.out; omega
             case rel => exact ⟨(wrap64 (x10_3 + 1)), (x110001_3), (u110001), Q17, H', ⟨Q133⟩, ⟨Q87⟩, ⟨Q0 BK101⟩, ⟨Q0 BK102⟩, ⟨Q0 BK103⟩, ⟨Q0 BK109⟩, ⟨Q1 HB⟩⟩
            ·replace c110 := Bool.eq_false_iff.mpr c110
             subst c110; have H1 : (spec_l2Product.l1 k3 false x9_2 (wrap64 (x10_3 + 1)) a0_0 l0_1 a1_0 l1_1 (wrap64 (a0_0 * a1_0)) x110001_3) = some (r1, r2, r3) := by rw [if_neg (show ¬ (false = true) by decide)] at H; exact H
             clear H; have H := H1; clear H1; have H' := Aside0.mk H; clear H
             go_wp2
             go_roundg k3
             case measure => have := HJ7.out; have := HK2.out; have := HK3.out; omega
             case rel => exact ⟨(wrap64 (x10_3 + 1)), (x110001_3), (u110001), Q17, H', ⟨Q133⟩, ⟨Q87⟩, ⟨Q0 BK101⟩, ⟨Q0 BK102⟩, ⟨Q0 BK103⟩, ⟨Q0 BK109⟩, ⟨Q1 HB⟩⟩
         ·rw [if_neg c55] at H
          have c55b0 := decide_eq_false c55; clear c55; have H' := Aside0.mk H; clear H; obtain ⟨_, _, _, _, _, _⟩ := o6 NB109_101 NB101_109 NB109_102 NB102_109 NB109_103 NB103_109; obtain ⟨_, _, _, _⟩ := b2 BK109
          go_wp2
          go_roundg k3
          case measure => have := HJ7.out; have := HK2.out; have := HK3.out; omega
          case rel => exact ⟨(wrap64 (x9_2 + 1)), (x110001_3), (u110001), Q17, H', ⟨Q133⟩, ⟨Q87⟩, ⟨Q0 BK101⟩, ⟨Q0 BK102⟩, ⟨Q0 BK103⟩, ⟨Q0 BK109⟩, ⟨Q1 HB⟩⟩
      ·rw [if_neg c50] at H
       have c50b0 := decide_eq_false c50; clear c50
       simp only [Option.some.injEq, Prod.mk.injEq] at H
       obtain ⟨rfl, rfl, rfl⟩ := H; obtain ⟨_, _, _, _, _, _⟩ := o6 NB109_101 NB101_109 NB109_102 NB102_109 NB109_103 NB103_109; obtain ⟨_, _, _, _⟩ := b2 BK109; obtain ⟨_, _, _, _⟩ := o4 NB103_101 NB101_103 NB103_102 NB102_103; obtain ⟨_, _, _, _⟩ := b2 BK103; obtain ⟨Ao122, co122, eo122⟩ := Kd.R_slice HO_110001.out; subst eo122
       go_wp2
       refine bodyPost_ret (results_ct rfl _ _ gb103 30 #[.int .i64 (wrap64 (a0_0 * a1_0)), .slice Ao122 x110001_2.length co122] (0, 0) _ rfl (Q158 BK103) Try.underlying30 rfl (by kernel_rfl)) rfl ?_; exact ⟨_, Q19, by (with_reducible repeat (first | apply Kd.R_alloc | apply Kd.R_drewN | apply Kd.R_drew)); exact Kd.R_mono (Kd.R_far (p := ⟨gb103, 1, none⟩) (Kd.R_far (p := ⟨gb103, 0, none⟩) (Kd.R_types HO_110001.out BK103.out (by decide)) (fun _ hk => hk.2) (.int .i64 (wrap64 (a0_0 * a1_0)))) (fun _ hk => hk.2) (.slice Ao122 x110001_2.length co122)) (fun _ hk => trivial), Q4 HB GE103⟩
/-! ### spec_CartesianProduct: function 39 -/
def spec_CartesianProduct.f (k : Nat) (a0_0 : Int) (l0_1 : List (S71)) (a1_0 : Int) (l1_1 : List (S71)) : Option (Int × (List (S71)) × Bool) := (spec_l2Product.f k a0_0 l0_1 a1_0 l1_1 false).bind fun bt104 => (some (bt104.1, bt104.2.1, bt104.2.2))
theorem spec_CartesianProduct.mono : ∀ a0 a1 a2 a3 k, LeO (spec_CartesianProduct.f k a0 a1 a2 a3) (spec_CartesianProduct.f (k + 1) a0 a1 a2 a3) := by
 intro a0 a1 a2 a3 k
 unfold spec_CartesianProduct.f
 repeat' first | (with_reducible first | exact spec_l2Product.mono _ _ _ _ _ _ | exact LeO.refl _ | exact LeO.none _ | refine LeO.ite ?_ ?_ | refine LeO.bind ?_ (fun _ => ?_))
set_option maxHeartbeats 8000000 in
set_option maxRecDepth 100000 in
theorem spec_CartesianProduct.calls (k : Nat) (a0_0 : Int) (A0_1 : Option Addr) (c0_1 : Nat) (l0_1 : List (S71)) (a1_0 : Int) (A1_1 : Option Addr) (c1_1 : Nat) (l1_1 : List (S71)) (r1 : Int) (r2 : List (S71)) (r3 : Bool) (w : World) (hr0_1 : Kd.C k71 w A0_1 l0_1.length l0_1) (hc0_1 : l0_1.length ≤ c0_1) (hr1_1 : Kd.C k71 w A1_1 l1_1.length l1_1) (hc1_1 : l1_1.length ≤ c1_1) (h : spec_CartesianProduct.f k a0_0 l0_1 a1_0 l1_1 = some (r1, r2, r3)) :
  Calls Try.prog 39 #[.agg #[.int .i64 a0_0, .slice A0_1 l0_1.length c0_1], .agg #[.int .i64 a1_0, .slice A1_1 l1_1.length c1_1]] w fun e w' => ∃ v1_ : Value, e = .returned (.tuple #[.agg #[.int .i64 r1, v1_], .bool r3]) ∧ Kd.R k71 71 w' w.heap.size (fun _ => True) v1_ r2 ∧ Below w.heap.size w w' := by
 have hu30 := Try.underlying30
 have HR0_1 := Aside0.mk hr0_1
 have HC0_1 := Aside0.mk hc0_1
 clear hr0_1 hc0_1
 have HR1_1 := Aside0.mk hr1_1
 have HC1_1 := Aside0.mk hc1_1
 clear hr1_1 hc1_1
 have HB := am (Below.refl w.heap.size w)
 have H : ((spec_l2Product.f k a0_0 l0_1 a1_0 l1_1 false).bind fun bt104 => (some (bt104.1, bt104.2.1, bt104.2.2))) = some (r1, r2, r3) := h
 clear h
 replace H := (ob H)
 obtain ⟨⟨t104, t105, t108⟩, A30, H⟩ := H
 (try dsimp only at H)
 have A3 := Aside0.mk A30
 clear A30
 simp only [Option.some.injEq, Prod.mk.injEq] at H
 obtain ⟨rfl, rfl, rfl⟩ := H
 go_enter Try.func39, Try.ntmps39
 go_wp2_with (first | ((with_reducible refine gate_dst (N := 2) rfl ?_); refine box_event (by rfl) (N := 2) (by rfl) (cs := #[.int .i64 a0_0, .slice A0_1 l0_1.length c0_1]) (t := 30) Qr ?_; intro gb101 hg w4 hbox hb; have BK101 := am (hbox); have GE101 := ge HB hg; replace HB := bs HB hb; clear hb hbox hg) | ((with_reducible refine gate_dst (N := 3) rfl ?_); refine box_event (by rfl) (N := 3) (by rfl) (cs := #[.int .i64 a1_0, .slice A1_1 l1_1.length c1_1]) (t := 30) Qr ?_; intro gb102 hg w5 hbox hb; have BK102 := am (hbox); have GE102 := ge HB hg; replace HB := bs HB hb; obtain ⟨NB101_102, NB102_101⟩ := ne2 BK101 hg; replace BK101 := bb BK101 hb; clear hb hbox hg) | ((with_reducible refine gate_dst (N := 4) rfl ?_); refine box_event (by rfl) (N := 4) (by rfl) (cs := #[.int .i64 0, .slice none 0 0]) (t := 30) Qr ?_; intro gb103 hg w6 hbox hb; have BK103 := am (hbox); have GE103 := ge HB hg; replace HB := bs HB hb; obtain ⟨NB101_103, NB103_101⟩ := ne2 BK101 hg; replace BK101 := bb BK101 hb; obtain ⟨NB102_103, NB103_102⟩ := ne2 BK102 hg; replace BK102 := bb BK102 hb; clear hb hbox hg; obtain ⟨_, _, _, _⟩ := o4 NB101_102 NB102_101 NB101_103 NB103_101; obtain ⟨_, _, _, _⟩ := b2 BK101; obtain ⟨_, _⟩ := o2 NB102_103 NB103_102; obtain ⟨_, _, _, _⟩ := b2 BK102) | ((with_reducible refine gate_callee (f := 132) rfl ?_); refine goesL_ (some 8) rfl rfl Try.func132 (by kernel_rfl) rfl #[.agg #[.int .i64 a0_0, .slice A0_1 l0_1.length c0_1], .agg #[.int .i64 a1_0, .slice A1_1 l1_1.length c1_1], .bool false] rfl Q6 ?_; (with_reducible refine (spec_l2Product.calls k a0_0 _ _ l0_1 a1_0 _ _ l1_1 false t104 t105 t108 _ ?side1 ?side2 ?side3 ?side4 A3.out).mono ?_); (case side1 => exact (Q11 HR0_1 HB)); (case side2 => exact HC0_1.out); (case side3 => exact (Q11 HR1_1 HB)); (case side4 => exact HC1_1.out); rintro e w12 ⟨v106, rfl, ho0, hb⟩; refine ⟨_, rfl, ?_⟩; have HO107 := am (Kd.R_lower ho0 (below_size (Q1 HB))); replace BK101 := bb BK101 hb; replace BK102 := bb BK102 hb; replace BK103 := bb BK103 hb; replace HB := bs HB hb; (try clear hb); (try clear ho0); obtain ⟨_, _, _, _⟩ := b2 BK103; obtain ⟨Ao14, co14, eo14⟩ := Kd.R_slice HO107.out; subst eo14))
 refine bodyPost_ret (results_ct rfl _ _ gb103 30 #[.int .i64 t104, .slice Ao14 t105.length co14] (0, 0) _ rfl (Q97 BK103) Try.underlying30 rfl (by kernel_rfl)) rfl ?_
 exact ⟨_, Q19, Q112 HO107 BK103, Q4 HB GE103⟩
/-! ### spec_ComplementOf: function 44 -/
mutual
def spec_ComplementOf.l0 : Nat → Int → Int → List (S71) → Int → List (S71) → Option (Int × (List (S71)) × Bool)
 | 0, _, _, _, _, _ => none
 | k + 1, x5, x102000, x102001, x108000, x108001 => if x5 < x102000 then (spec_ComplementOf.l1 k x5 (wrap64 (x5 + 1)) x102000 x102001 x108000 x108001) else (some (x108000, x108001, true))
def spec_ComplementOf.l1 : Nat → Int → Int → Int → List (S71) → Int → List (S71) → Option (Int × (List (S71)) × Bool)
 | 0, _, _, _, _, _, _ => none
 | k + 1, x5, x6, x102000, x102001, x108000, x108001 => if x6 < x102000 then ((spec_l2Near.f k x102000 x102001 x5 x6).bind fun t108 => (if t108 = true then (spec_ComplementOf.l1 k x5 (wrap64 (x6 + 1)) x102000 x102001 x108000 x108001) else (if x108001.length < 8796093022208 then (spec_ComplementOf.l1 k x5 (wrap64 (x6 + 1)) x102000 x102001 x108000 (x108001 ++ [(⟨x5, x6⟩ : S71)])) else (none)))) else (spec_ComplementOf.l0 k (wrap64 (x5 + 1)) x102000 x102001 x108000 x108001)
end
def spec_ComplementOf.f (k : Nat) (a0_0 : Int) (l0_1 : List (S71)) : Option (Int × (List (S71)) × Bool) := (spec_l2Good.f k a0_0 l0_1).bind fun t103 => (if t103 = true then (spec_ComplementOf.l0 k 0 a0_0 l0_1 a0_0 (([] : List (S71)))) else (some (0, ([] : List (S71)), false)))
theorem spec_ComplementOf.mono_l : ∀ k, (∀ y0 y1 y2 y3 y4, LeO (spec_ComplementOf.l0 k y0 y1 y2 y3 y4) (spec_ComplementOf.l0 (k + 1) y0 y1 y2 y3 y4)) ∧ (∀ y0 y1 y2 y3 y4 y5, LeO (spec_ComplementOf.l1 k y0 y1 y2 y3 y4 y5) (spec_ComplementOf.l1 (k + 1) y0 y1 y2 y3 y4 y5))
 | 0 => ⟨fun _ _ _ _ _ r h => by simp [spec_ComplementOf.l0] at h, fun _ _ _ _ _ _ r h => by simp [spec_ComplementOf.l1] at h⟩
 | k + 1 => by
  obtain ⟨ih0, ih1⟩ := spec_ComplementOf.mono_l k; refine ⟨?_, ?_⟩
  all_goals
   intros
   first | unfold spec_ComplementOf.l0 | unfold spec_ComplementOf.l1
   repeat' first | (with_reducible first | exact ih0 _ _ _ _ _ | exact ih1 _ _ _ _ _ _ | exact spec_l2Good.mono _ _ _ | exact spec_l2Near.mono _ _ _ _ _ | exact LeO.refl _ | exact LeO.none _ | refine LeO.ite ?_ ?_ | refine LeO.bind ?_ (fun _ => ?_))
theorem spec_ComplementOf.mono : ∀ a0 a1 k, LeO (spec_ComplementOf.f k a0 a1) (spec_ComplementOf.f (k + 1) a0 a1) := by
 intro a0 a1 k
 obtain ⟨ih0, ih1⟩ := spec_ComplementOf.mono_l k
 unfold spec_ComplementOf.f
 repeat' first | (with_reducible first | exact ih0 _ _ _ _ _ | exact ih1 _ _ _ _ _ _ | exact spec_l2Good.mono _ _ _ | exact spec_l2Near.mono _ _ _ _ _ | exact LeO.refl _ | exact LeO.none _ | refine LeO.ite ?_ ?_ | refine LeO.bind ?_ (fun _ => ?_))
set_option maxHeartbeats 8000000 in
set_option maxRecDepth 100000 in
theorem spec_ComplementOf.calls (k : Nat) (a0_0 : Int) (A0_1 : Option Addr) (c0_1 : Nat) (l0_1 : List (S71)) (r1 : Int) (r2 : List (S71)) (r3 : Bool) (w : World) (hr0_1 : Kd.C k71 w A0_1 l0_1.length l0_1) (hc0_1 : l0_1.length ≤ c0_1) (h : spec_ComplementOf.f k a0_0 l0_1 = some (r1, r2, r3)) :
  Calls Try.prog 44 #[.agg #[.int .i64 a0_0, .slice A0_1 l0_1.length c0_1]] w fun e w' => ∃ v1_ : Value, e = .returned (.tuple #[.agg #[.int .i64 r1, v1_], .bool r3]) ∧ Kd.R k71 71 w' w.heap.size (fun _ => True) v1_ r2 ∧ Below w.heap.size w w' := by
 have hu30 := Try.underlying30
 have hu71 := Try.underlying71
 have HR0_1 := Aside0.mk hr0_1
 have HC0_1 := Aside0.mk hc0_1
 clear hr0_1 hc0_1
 have HB := am (Below.refl w.heap.size w)
 have H : ((spec_l2Good.f k a0_0 l0_1).bind fun t103 => (if t103 = true then (spec_ComplementOf.l0 k 0 a0_0 l0_1 a0_0 (([] : List (S71)))) else (some (0, ([] : List (S71)), false)))) = some (r1, r2, r3) := h
 clear h
 replace H := (ob H)
 obtain ⟨t103, A20, H⟩ := H
 (try dsimp only at H)
 have A2 := Aside0.mk A20
 clear A20
 have HU3 := Aside0.mk H
 clear H
 go_enter Try.func44, Try.ntmps44
 go_upto_if 9 with (first | ((with_reducible refine gate_dst (N := 1) rfl ?_); refine box_event (by rfl) (N := 1) (by rfl) (cs := #[.int .i64 a0_0, .slice A0_1 l0_1.length c0_1]) (t := 30) Qr ?_; intro gb101 hg w4 hbox hb; have BK101 := am (hbox); have GE101 := ge HB hg; replace HB := bs HB hb; clear hb hbox hg) | ((with_reducible refine gate_dst (N := 2) rfl ?_); refine box_event (by rfl) (N := 2) (by rfl) (cs := #[.int .i64 0, .slice none 0 0]) (t := 30) Qr ?_; intro gb102 hg w5 hbox hb; have BK102 := am (hbox); have GE102 := ge HB hg; replace HB := bs HB hb; obtain ⟨NB101_102, NB102_101⟩ := ne2 BK101 hg; replace BK101 := bb BK101 hb; clear hb hbox hg; obtain ⟨_, _⟩ := o2 NB101_102 NB102_101; obtain ⟨_, _, _, _⟩ := b2 BK101) | ((with_reducible refine gate_callee (f := 120) rfl ?_); refine goesL_ (some 8) rfl rfl Try.func120 (by kernel_rfl) rfl #[.agg #[.int .i64 a0_0, .slice A0_1 l0_1.length c0_1]] rfl Q6 ?_; (with_reducible refine (spec_l2Good.calls k a0_0 _ _ l0_1 t103 _ ?side1 ?side2 A2.out).mono ?_); (case side1 => exact (Q11 HR0_1 HB)); (case side2 => exact HC0_1.out); rintro e w8 ⟨rfl, hb⟩; refine ⟨_, rfl, ?_⟩; replace BK101 := bb BK101 hb; replace BK102 := bb BK102 hb; replace HB := bs HB hb; (try clear hb)))
 (try simp only [Act.put, List.setIfInBounds_toArray, List.set_cons_zero, List.set_cons_succ])
 have H := HU3.out
 clear HU3
 by_cases c9 : t103 = true
 ·subst c9
  have H1 : (spec_ComplementOf.l0 k 0 a0_0 l0_1 a0_0 (([] : List (S71)))) = some (r1, r2, r3) := by rw [if_pos rfl] at H; exact H
  clear H; have H := H1; clear H1; obtain ⟨y104, hy104⟩ : ∃ y_ : List (S71), y_ = (([] : List (S71))) := ⟨_, rfl⟩; replace H : (spec_ComplementOf.l0 k 0 a0_0 l0_1 a0_0 y104) = some (r1, r2, r3) := RH hy104 H; have Ny104 := Aside0.mk hy104; clear hy104; have H' := Aside0.mk H; clear H; obtain ⟨_, _⟩ := o2 NB101_102 NB102_101; obtain ⟨_, _, _, _⟩ := b2 BK101
  go_wp2_with (first | ((with_reducible refine gate_dst (N := 13) rfl ?_); refine Kd.R_lit k71 _ 71 (by rfl) (N := 13) (by rfl) (xs := ([] : List (S71))) (inner := []) (ok := fun _ => True) (okp := fun _ => True) Qr ?hp (fun _ hk => hk) trivial (Below.refl _ _) (Nat.le_refl _) (by simp) ?_; (case hp => exact (Reps.none _ _)); intro v105 w12 ho13 hb hg_ hnew_; clear hg_ hnew_; (first | rw [← Ny104.out] at ho13 | (simp only [Int.reduceToNat] at ho13; rw [← Ny104.out] at ho13)); have HO106 := am (Kd.R_lower ho13 (below_size (Q1 HB))); replace BK101 := bb BK101 hb; replace BK102 := bb BK102 hb; replace HB := bs HB hb; clear hb ho13; obtain ⟨Ao14, co14, eo14⟩ := Kd.R_slice HO106.out; subst eo14) | ((with_reducible refine gate_dst (N := 4) rfl ?_); refine box_event (by rfl) (N := 4) (by rfl) (cs := #[.int .i64 0, .slice none 0 0]) (t := 30) Qr ?_; intro gb107 hg w15 hbox hb; replace HO106 := am (Kd.R_below (Q5 HO106) hb); have BK107 := am (hbox); have GE107 := ge HB hg; replace HB := bs HB hb; obtain ⟨NB101_107, NB107_101⟩ := ne2 BK101 hg; replace BK101 := bb BK101 hb; obtain ⟨NB102_107, NB107_102⟩ := ne2 BK102 hg; replace BK102 := bb BK102 hb; clear hb hbox hg; obtain ⟨_, _, _, _⟩ := o4 NB107_101 NB101_107 NB107_102 NB102_107; obtain ⟨_, _, _, _⟩ := b2 BK107))
  go_loopg [5] k (fun kq v5 w' => ∃ (x5_1 : Int) (x108001_1 : List (S71)) (u108001 : Value), v5 = .int .i64 x5_1 ∧ Aside0 (spec_ComplementOf.l0 kq x5_1 a0_0 l0_1 a0_0 x108001_1 = some (r1, r2, r3)) ∧ Aside0 (kq ≤ k) ∧ Aside0 (Kd.R k71 71 w' w.heap.size (fun _ => True) u108001 x108001_1) ∧ Aside0 (w'.heap[gb101]? = some (.cells #[.int .i64 a0_0, (.slice A0_1 l0_1.length c0_1)] 30 (0, 0))) ∧ Aside0 (w'.heap[gb102]? = some (.cells #[.int .i64 0, (.slice none 0 0)] 30 (0, 0))) ∧ Aside0 (w'.heap[gb107]? = some (.cells #[.int .i64 a0_0, u108001] 30 (0, 0))) ∧ Aside0 (Below w.heap.size w w'))
  case atStart => exact ⟨(0), (y104), (.slice Ao14 y104.length co14), Q17, H', ⟨Nat.le_refl _⟩, ⟨by (with_reducible repeat (first | apply Kd.R_alloc | apply Kd.R_drewN | apply Kd.R_drew)); exact Kd.R_mono (Kd.R_far (p := ⟨gb107, 1, none⟩) (Kd.R_far (p := ⟨gb107, 0, none⟩) (Kd.R_types HO106.out BK107.out (by decide)) (fun _ hk => hk.2) (.int .i64 a0_0)) (fun _ hk => hk.2) (.slice Ao14 y104.length co14)) (fun _ hk => trivial)⟩, ⟨Q2 NB101_107 BK101⟩, ⟨Q2 NB102_107 BK102⟩, ⟨Q160 BK107⟩, ⟨Q4 HB GE107⟩⟩
  case round =>
   clear H'
   obtain ⟨x5_1, x108001_1, u108001, rfl, HA, HK1, HO_108001, BK101, BK102, BK107, HB⟩ := hrel
   cases gk with
   | zero => exact absurd HA.out (by simp [spec_ComplementOf.l0])
   | succ k1 =>
    have H := HA.out; clear HA
    simp only [spec_ComplementOf.l0] at H
    by_cases c19 : x5_1 < a0_0
    ·rw [if_pos c19] at H
     have c19b0 := decide_eq_true c19; clear c19
     (first | rw [c19b0] | (simp only [i64_w, i32_w]; rw [c19b0]) | skip)
     have H' := Aside0.mk H; clear H; obtain ⟨_, _, _, _⟩ := o4 NB101_102 NB102_101 NB101_107 NB107_101; obtain ⟨_, _, _, _⟩ := b2 BK101
     go_wp2
     go_loopg [6] k1 (fun kq v6 w' => ∃ (x6_2 : Int) (x108001_2 : List (S71)) (u108001 : Value), v6 = .int .i64 x6_2 ∧ Aside0 (spec_ComplementOf.l1 kq x5_1 x6_2 a0_0 l0_1 a0_0 x108001_2 = some (r1, r2, r3)) ∧ Aside0 (kq ≤ k1) ∧ Aside0 (Kd.R k71 71 w' w.heap.size (fun _ => True) u108001 x108001_2) ∧ Aside0 (w'.heap[gb101]? = some (.cells #[.int .i64 a0_0, (.slice A0_1 l0_1.length c0_1)] 30 (0, 0))) ∧ Aside0 (w'.heap[gb102]? = some (.cells #[.int .i64 0, (.slice none 0 0)] 30 (0, 0))) ∧ Aside0 (w'.heap[gb107]? = some (.cells #[.int .i64 a0_0, u108001] 30 (0, 0))) ∧ Aside0 (Below w.heap.size w w'))
     case atStart => exact ⟨(wrap64 (x5_1 + 1)), (x108001_1), (u108001), Q17, H', ⟨Nat.le_refl _⟩, ⟨Q159⟩, ⟨Q0 BK101⟩, ⟨Q0 BK102⟩, ⟨Q0 BK107⟩, ⟨Q1 HB⟩⟩
     case round =>
      clear H'
      obtain ⟨x6_2, x108001_2, u108001, rfl, HA, HK2, HO_108001, BK101, BK102, BK107, HB⟩ := hrel
      cases gk with
      | zero => exact absurd HA.out (by simp [spec_ComplementOf.l1])
      | succ k2 =>
       have H := HA.out; clear HA
       simp only [spec_ComplementOf.l1] at H
       by_cases c23 : x6_2 < a0_0
       ·rw [if_pos c23] at H
        have c23b0 := decide_eq_true c23; clear c23; replace H := (ob H); obtain ⟨t108, A240, H⟩ := H; (try dsimp only at H); have A24 := Aside0.mk A240; clear A240; have HU25 := Aside0.mk H; clear H; obtain ⟨_, _, _, _⟩ := o4 NB101_102 NB102_101 NB101_107 NB107_101; obtain ⟨_, _, _, _⟩ := b2 BK101
        go_upto_if 33 with (first | ((with_reducible refine gate_callee (f := 137) rfl ?_); refine goesL_ (some 32) rfl rfl Try.func137 (by kernel_rfl) rfl #[.agg #[.int .i64 a0_0, .slice A0_1 l0_1.length c0_1], .int .i64 x5_1, .int .i64 x6_2] rfl Q6 ?_; (with_reducible refine (spec_l2Near.calls k2 a0_0 _ _ l0_1 x5_1 x6_2 t108 _ ?side1 ?side2 A24.out).mono ?_); (case side1 => exact (Q11 HR0_1 HB)); (case side2 => exact HC0_1.out); rintro e w29 ⟨rfl, hb⟩; refine ⟨_, rfl, ?_⟩; replace HO_108001 := am (Kd.R_below Q159 hb); replace BK101 := bb BK101 hb; replace BK102 := bb BK102 hb; replace BK107 := bb BK107 hb; replace HB := bs HB hb; (try clear hb)))
        (try simp only [Act.put, List.setIfInBounds_toArray, List.set_cons_zero, List.set_cons_succ]); have H := HU25.out; clear HU25
        by_cases c30 : t108 = true
        ·subst c30
         have H1 : (spec_ComplementOf.l1 k2 x5_1 (wrap64 (x6_2 + 1)) a0_0 l0_1 a0_0 x108001_2) = some (r1, r2, r3) := by rw [if_pos rfl] at H; exact H
         clear H; have H := H1; clear H1; have H' := Aside0.mk H; clear H
         go_wp2
         go_roundg k2
         case measure => have := HK1.out; have := HK2.out; omega
         case rel => exact ⟨(wrap64 (x6_2 + 1)), (x108001_2), (u108001), Q17, H', ⟨Q168⟩, ⟨Q159⟩, ⟨Q0 BK101⟩, ⟨Q0 BK102⟩, ⟨Q0 BK107⟩, ⟨Q1 HB⟩⟩
        ·replace c30 := Bool.eq_false_iff.mpr c30
         subst c30; have H1 : (if x108001_2.length < 8796093022208 then (spec_ComplementOf.l1 k2 x5_1 (wrap64 (x6_2 + 1)) a0_0 l0_1 a0_0 (x108001_2 ++ [(⟨x5_1, x6_2⟩ : S71)])) else (none)) = some (r1, r2, r3) := by rw [if_neg (show ¬ (false = true) by decide)] at H; exact H
         clear H; have H := H1; clear H1
         obtain ⟨c31, H⟩ := ifn H
         have LMc31 := Aside0.mk c31; clear c31; obtain ⟨y109, hy109⟩ : ∃ y_ : List (S71), y_ = (x108001_2 ++ [(⟨x5_1, x6_2⟩ : S71)]) := ⟨_, rfl⟩; replace H : (spec_ComplementOf.l1 k2 x5_1 (wrap64 (x6_2 + 1)) a0_0 l0_1 a0_0 y109) = some (r1, r2, r3) := RH hy109 H; have Ny109 := Aside0.mk hy109; clear hy109; have H' := Aside0.mk H; clear H; obtain ⟨_, _, _, _⟩ := o4 NB107_101 NB101_107 NB107_102 NB102_107; obtain ⟨_, _, _, _⟩ := b2 BK107
         go_wp2_with (first | ((with_reducible refine gate_builtin (b := .append) (xs := #[.tmp 35, .tmp 39]) rfl ?_); at_builtin; refine Kd.R_append k71 (w0 := w) w.heap.size rfl (.tmp 35) (.tmp 39) 22 71 (.agg #[(.int .i64 0), (.int .i64 0)]) 16 rfl Try.underlying22 info71 rfl (by decide) (by omega) u108001 x108001_2 (⟨x5_1, x6_2⟩ : S71) [.int .i64 x5_1, .int .i64 x6_2] (fun _ => True) (fun _ => False) rfl rfl ?aP (fun _ hk => hk.elim) ?aF ?aO ?aB ?aS ?aL ?_; (case aP => exact k71_mkM _ _ _ (⟨x5_1, x6_2⟩ : S71)); (case aB => exact (Q1 HB)); (case aF => exact (fun _ _ => trivial)); (case aO => exact Q159); (case aS => exact (below_size (Q1 HB))); (case aL => have := LMc31.out; omega); intro v110 w35 ho hb hg hat; rw [← Ny109.out] at ho; replace BK101 := am (blk_grown (g := gb101) (o := .cells #[.int .i64 a0_0, .slice A0_1 l0_1.length c0_1] 30 (0, 0)) (Q0 BK101) hg (Kd.R_ne HO_108001.out BK101.out (by decide))); replace BK102 := am (blk_grown (g := gb102) (o := .cells #[.int .i64 0, .slice none 0 0] 30 (0, 0)) (Q0 BK102) hg (Kd.R_ne HO_108001.out BK102.out (by decide))); replace BK107 := am (blk_grown (g := gb107) (o := .cells #[.int .i64 a0_0, u108001] 30 (0, 0)) (Q0 BK107) hg (Kd.R_ne HO_108001.out BK107.out (by decide))); replace HB := am (hb); have HO111 := am (ho); clear HO_108001; clear ho hb hg hat; obtain ⟨Ao36, co36, eo36⟩ := Kd.R_slice HO111.out; subst eo36; obtain ⟨_, _, _, _⟩ := b2 BK107))
         go_roundg k2
         case measure => have := HK1.out; have := HK2.out; omega
         case rel => exact ⟨(wrap64 (x6_2 + 1)), (y109), (.slice Ao36 y109.length co36), Q17, H', ⟨Q168⟩, ⟨by (with_reducible repeat (first | apply Kd.R_alloc | apply Kd.R_drewN | apply Kd.R_drew)); exact Kd.R_mono (Kd.R_far (p := ⟨gb107, 1, none⟩) (Kd.R_types HO111.out BK107.out (by decide)) (fun _ hk => hk.2) (.slice Ao36 y109.length co36)) (fun _ hk => trivial)⟩, ⟨Q26 NB101_107 BK101⟩, ⟨Q26 NB102_107 BK102⟩, ⟨by (with_reducible repeat (first | refine blk_drewN ?_ _ | refine blk_drew ?_ | refine blk_alloc ?_ _)); refine blk_put (cs := #[.int .i64 a0_0, u108001]) ?_ 1 _ rfl; (with_reducible repeat (first | refine blk_drewN ?_ _ | refine blk_drew ?_ | refine blk_alloc ?_ _)); exact BK107.out⟩, ⟨Q4 HB GE107⟩⟩
       ·rw [if_neg c23] at H
        have c23b0 := decide_eq_false c23; clear c23; have H' := Aside0.mk H; clear H; obtain ⟨_, _, _, _⟩ := o4 NB101_102 NB102_101 NB101_107 NB107_101; obtain ⟨_, _, _, _⟩ := b2 BK101
        go_wp2
        go_roundg k2
        case measure => have := HK1.out; have := HK2.out; omega
        case rel => exact ⟨(wrap64 (x5_1 + 1)), (x108001_2), (u108001), Q17, H', ⟨Q168⟩, ⟨Q159⟩, ⟨Q0 BK101⟩, ⟨Q0 BK102⟩, ⟨Q0 BK107⟩, ⟨Q1 HB⟩⟩
    ·rw [if_neg c19] at H
     have c19b0 := decide_eq_false c19; clear c19
     (first | rw [c19b0] | (simp only [i64_w, i32_w]; rw [c19b0]) | skip)
     simp only [Option.some.injEq, Prod.mk.injEq] at H
     obtain ⟨rfl, rfl, rfl⟩ := H; obtain ⟨_, _, _, _⟩ := o4 NB101_102 NB102_101 NB101_107 NB107_101; obtain ⟨_, _, _, _⟩ := b2 BK101; obtain ⟨_, _⟩ := o2 NB107_102 NB102_107; obtain ⟨_, _, _, _⟩ := b2 BK107; obtain ⟨_, _, _, _⟩ := b2 BK102; obtain ⟨Ao47, co47, eo47⟩ := Kd.R_slice HO_108001.out; subst eo47
     go_wp2
     refine bodyPost_ret (results_ct rfl _ _ gb102 30 #[.int .i64 a0_0, .slice Ao47 x108001_1.length co47] (0, 0) _ rfl (Q160 BK102) Try.underlying30 rfl (by kernel_rfl)) rfl ?_; exact ⟨_, Q19, by (with_reducible repeat (first | apply Kd.R_alloc | apply Kd.R_drewN | apply Kd.R_drew)); exact Kd.R_mono (Kd.R_far (p := ⟨gb102, 1, none⟩) (Kd.R_far (p := ⟨gb102, 0, none⟩) (Kd.R_types HO_108001.out BK102.out (by decide)) (fun _ hk => hk.2) (.int .i64 a0_0)) (fun _ hk => hk.2) (.slice Ao47 x108001_1.length co47)) (fun _ hk => trivial), Q4 HB GE102⟩
 ·replace c9 := Bool.eq_false_iff.mpr c9
  subst c9; have H1 : (some (0, ([] : List (S71)), false)) = some (r1, r2, r3) := by rw [if_neg (show ¬ (false = true) by decide)] at H; exact H
  clear H; have H := H1; clear H1
  simp only [Option.some.injEq, Prod.mk.injEq] at H
  obtain ⟨rfl, rfl, rfl⟩ := H; obtain ⟨_, _⟩ := o2 NB102_101 NB101_102; obtain ⟨_, _, _, _⟩ := b2 BK102
  go_wp2
  refine bodyPost_ret (results_ct rfl _ _ gb102 30 #[.int .i64 0, .slice none 0 0] (0, 0) _ rfl (Q99 BK102) Try.underlying30 rfl (by kernel_rfl)) rfl ?_; exact ⟨_, Q19, Q147, Q4 HB GE102⟩
end Go.Proofs.Ytcjddikalgnhpaa.P
