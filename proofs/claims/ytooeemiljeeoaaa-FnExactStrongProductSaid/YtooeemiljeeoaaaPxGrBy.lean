/- Functions of the program as Lean functions, and that each call comes to what they say; written by a program of this session; no conditions beyond those that each theorem names. -/
import Derived.Test.YtooeemiljeeoaaaPx0
import Derived.Test.YtooeemiljeeoaaaPxNetA
namespace Go.Proofs.Ytooeemiljeeoaaa.P
open Go.RowKit Go.Proofs.YtooeemiljeeoaaaW.PrintWords Go.Proofs.YtooeemiljeeoaaaW.PrintLast Go.Proofs.YtooeemiljeeoaaaW.PrintMore
attribute [local go_sem] max2_int min2_int max_two min_two max_three min_three max_four min_four   -- for this text's walks alone
set_option linter.unusedVariables false
set_option linter.unusedSimpArgs false

/-! ### impl_graphBy: function 50 -/
/-- A closure answers for all pairs within the bounds. -/
def okBy (c : Int → Int → Option Bool) (n : Int) : Bool := (List.range n.toNat).all fun y => (List.range y).all fun x => (c x y).isSome
theorem okBy_spec {c : Int → Int → Option Bool} {n x y : Int} (h : okBy c n = true) (hx : 0 ≤ x) (hxy : x < y) (hy : y < n) : c x y = some ((c x y).getD false) := by
 unfold okBy at h
 rw [List.all_eq_true] at h
 have h1 := h y.toNat (by rw [List.mem_range]; omega)
 rw [List.all_eq_true] at h1
 have h2 := h1 x.toNat (by rw [List.mem_range]; omega)
 rw [Int.toNat_of_nonneg hx, Int.toNat_of_nonneg (by omega)] at h2
 obtain ⟨b, hb⟩ := Option.isSome_iff_exists.1 h2
 rw [hb]
 rfl
mutual
def impl_graphBy.l0 : Nat → (Int → Int → Bool) → Int → Int → List (S57) → Option (List (S57))
 | 0, _, _, _, _ => none
 | k + 1, h, n, x, es => if x < n then (impl_graphBy.l1 k h n x (wrap64 (x + 1)) es) else (some es)
def impl_graphBy.l1 : Nat → (Int → Int → Bool) → Int → Int → Int → List (S57) → Option (List (S57))
 | 0, _, _, _, _, _ => none
 | k + 1, h, n, x, y, es => if y < n then (if h x y = true then (if es.length < 8796093022208 then (impl_graphBy.l1 k h n x (wrap64 (y + 1)) (es ++ [(⟨x, y⟩ : S57)])) else none) else (impl_graphBy.l1 k h n x (wrap64 (y + 1)) es)) else (impl_graphBy.l0 k h n (wrap64 (x + 1)) es)
end
def impl_graphBy.f (k : Nat) (h : Int → Int → Bool) (n : Int) : Option (List (S57)) := impl_graphBy.l0 k h n 0 []
set_option maxHeartbeats 8000000 in
set_option maxRecDepth 100000 in
/-- What a call of graphBy does, for any function value of which each call within the bounds answers as 'h' says and only makes memory. -/
theorem impl_graphBy.gen (k : Nat) (h : Int → Int → Bool) (a0 : Int) (F : Nat) (fi cp : Array Value) (r : List (S57)) (w : World) (ha : 0 ≤ a0 ∧ a0 ≤ 1000) (hHas : Own.Has Try.prog F)
  (hF : ∀ (x y : Int) (W : World), 0 ≤ x → x < y → y < a0 → Below w.heap.size w W → Calls Try.prog F (fi ++ #[.int .i64 x, .int .i64 y] ++ cp) W fun e W' => e = .returned (.bool (h x y)) ∧ Below W.heap.size W W')
  (hr : impl_graphBy.f k h a0 = some r) :
  Calls Try.prog 50 #[.int .i64 a0, .func (.func F) fi cp] w fun e w' => ∃ v1_ : Value, e = .returned (.agg #[.int .i64 a0, v1_]) ∧ Kd.R k57 57 w' w.heap.size (fun _ => True) v1_ r ∧ Below w.heap.size w w' := by
 have hu29 := Try.underlying29
 have hu57 := Try.underlying57
 have HA0 := Aside0.mk ha
 clear ha
 have HF := Aside0.mk hF
 clear hF
 have HHas := Aside0.mk hHas
 clear hHas
 have HB := Aside0.mk (Below.refl w.heap.size w)
 have H' := Aside0.mk (show impl_graphBy.l0 k h a0 0 [] = some r from hr)
 clear hr
 go_enter Try.func50, Try.ntmps50
 go_wp2_with (first | ((with_reducible refine gate_dst (N := 4) rfl ?_); refine box_event ?hg (N := 4) ?hd (cs := #[.int .i64 0, .slice none 0 0]) (t := 29) ?hr ?_; (case hd => rfl); (case hg => rfl); (case hr => first | (go_simp; done) | (go_simp; rfl)); intro gb140 hg w2 hbox hb; have n0_ := Aside0.mk (below_step HB.out hb); have n1_ := Aside0.mk (hbox); have n3_ := Aside0.mk ((by rw [hg]; exact (Nat.le_refl _)) : w.heap.size ≤ gb140); clear HB; have HB := n0_; have BK140 := n1_; have GE140 := n3_; clear n0_ n1_ n3_; clear hb hbox hg) | ((with_reducible refine gate_dst (N := 5) rfl ?_); refine box_event ?hg (N := 5) ?hd (cs := #[.int .i64 0, .slice none 0 0]) (t := 29) ?hr ?_; (case hd => rfl); (case hg => rfl); (case hr => first | (go_simp; done) | (go_simp; rfl)); intro gb144 hg w6 hbox hb; have nn1_ := Aside0.mk ((by rw [hg]; exact Nat.ne_of_lt (blk_lt BK140.out)) : gb140 ≠ gb144); have nn2_ := Aside0.mk ((by rw [hg]; exact Nat.ne_of_gt (blk_lt BK140.out)) : gb144 ≠ gb140); have n1_ := Aside0.mk (blk_below (g := gb140) (o := .cells #[.int .i64 0, .slice none 0 0] 29 (0, 0)) BK140.out hb); have n3_ := Aside0.mk (hbox); have n4_ := Aside0.mk ((by rw [hg]; exact HB.out.size) : w.heap.size ≤ gb144); have n2_ := Aside0.mk (below_step HB.out hb); clear BK140; clear HB; have BK140 := n1_; have BK144 := n3_; have GE144 := n4_; have HB := n2_; have NB140_144 := nn1_; have NB144_140 := nn2_; clear nn1_ nn2_; clear n1_ n2_ n3_ n4_; clear hb hbox hg; have hcz7_0 : w6.cell? ⟨gb144, 0, none⟩ = some (.int .i64 0) := (blk_cell BK144.out 0).trans rfl; have hcz7_1 : w6.cell? ⟨gb144, 1, none⟩ = some (.slice none 0 0) := (blk_cell BK144.out 1).trans rfl; have hfz7_0 := blk_frozen BK144.out 0; have hfz7_1 := blk_frozen BK144.out 1))
 go_loopg [11] k (fun kq v11 w' => ∃ (x : Int) (es : List (S57)) (u : Value), v11 = .int .i64 x ∧ Aside0 (impl_graphBy.l0 kq h a0 x es = some r) ∧ Aside0 (kq ≤ k) ∧ Aside0 (0 ≤ x) ∧ Aside0 (Kd.R k57 57 w' w.heap.size (fun _ => True) u es) ∧ Aside0 (w'.heap[gb140]? = some (.cells #[.int .i64 0, .slice none 0 0] 29 (0, 0))) ∧ Aside0 (w'.heap[gb144]? = some (.cells #[.int .i64 a0, u] 29 (0, 0))) ∧ Aside0 (Below w.heap.size w w'))
 case atStart => exact ⟨0, [], .slice none 0 0, (by first | rfl | (simp; done) | (simp [*]; done)), H', ⟨Nat.le_refl _⟩, ⟨Int.le_refl _⟩, ⟨Kd.R_nil _ _ _ _ _⟩, ⟨by (with_reducible repeat (first | refine blk_drewN ?_ _ | refine blk_drew ?_ | refine blk_alloc ?_ _)); refine blk_far ?_ NB140_144.out _; (with_reducible repeat (first | refine blk_drewN ?_ _ | refine blk_drew ?_ | refine blk_alloc ?_ _)); refine blk_far ?_ NB140_144.out _; (with_reducible repeat (first | refine blk_drewN ?_ _ | refine blk_drew ?_ | refine blk_alloc ?_ _)); exact BK140.out⟩, ⟨by (with_reducible repeat (first | refine blk_drewN ?_ _ | refine blk_drew ?_ | refine blk_alloc ?_ _)); refine blk_put (cs := #[.int .i64 a0, .slice none 0 0]) ?_ 1 _ rfl; (with_reducible repeat (first | refine blk_drewN ?_ _ | refine blk_drew ?_ | refine blk_alloc ?_ _)); refine blk_put (cs := #[.int .i64 0, .slice none 0 0]) ?_ 0 _ rfl; (with_reducible repeat (first | refine blk_drewN ?_ _ | refine blk_drew ?_ | refine blk_alloc ?_ _)); exact BK144.out⟩, ⟨by repeat (first | (with_reducible first | exact HB.out | apply below_alloc | apply pw_below_drewN | apply below_drew1 | refine below_set ?_ GE144.out) | exact HB.out)⟩⟩
 case round =>
  clear H'
  try clear hcz7_0
  try clear hcz7_1
  try clear hfz7_0
  try clear hfz7_1
  obtain ⟨x, es, u, rfl, HA, HK1, HX, HO, BK140, BK144, HB⟩ := hrel
  cases gk with
  | zero => exact absurd HA.out (by simp [impl_graphBy.l0])
  | succ k1 =>
   have H := HA.out
   clear HA
   simp only [impl_graphBy.l0] at H
   by_cases c9 : x < a0
   ·rw [if_pos c9] at H
    have c9b0 : decide (x < a0) = true := decide_eq_true c9
    have HXn := Aside0.mk c9
    clear c9
    have H' := Aside0.mk H
    clear H
    go_wp2
    go_loopg [7] k1 (fun kq v7 w' => ∃ (y : Int) (es : List (S57)) (u : Value), v7 = .int .i64 y ∧ Aside0 (impl_graphBy.l1 kq h a0 x y es = some r) ∧ Aside0 (kq ≤ k1) ∧ Aside0 (x < y) ∧ Aside0 (Kd.R k57 57 w' w.heap.size (fun _ => True) u es) ∧ Aside0 (w'.heap[gb140]? = some (.cells #[.int .i64 0, .slice none 0 0] 29 (0, 0))) ∧ Aside0 (w'.heap[gb144]? = some (.cells #[.int .i64 a0, u] 29 (0, 0))) ∧ Aside0 (Below w.heap.size w w'))
    case atStart => exact ⟨(wrap64 (x + 1)), es, u, (by first | rfl | (simp; done) | (simp [*]; done)), H', ⟨Nat.le_refl _⟩, ⟨by have h1 := HX.out; have h2 := HXn.out; have h3 := HA0.out; unfold wrap64; omega⟩, ⟨by (with_reducible repeat (first | apply Kd.R_alloc | apply Kd.R_drewN | apply Kd.R_drew)); exact HO.out⟩, ⟨by (with_reducible repeat (first | refine blk_drewN ?_ _ | refine blk_drew ?_ | refine blk_alloc ?_ _)); exact BK140.out⟩, ⟨by (with_reducible repeat (first | refine blk_drewN ?_ _ | refine blk_drew ?_ | refine blk_alloc ?_ _)); exact BK144.out⟩, ⟨by repeat (first | (with_reducible first | exact HB.out | apply below_alloc | apply pw_below_drewN | apply below_drew1 | refine below_set ?_ GE144.out) | exact HB.out)⟩⟩
    case round =>
     clear H'
     try clear c9b0
     obtain ⟨y, es, u, rfl, HA, HK2, HXY, HO, BK140, BK144, HB⟩ := hrel
     cases gk with
     | zero => exact absurd HA.out (by simp [impl_graphBy.l1])
     | succ k2 =>
      have H := HA.out
      clear HA
      simp only [impl_graphBy.l1] at H
      by_cases c10 : y < a0
      ·rw [if_pos c10] at H
       have c10b0 : decide (y < a0) = true := decide_eq_true c10
       have HYn := Aside0.mk c10
       clear c10
       by_cases c12 : h x y = true
       ·rw [if_pos c12] at H
        by_cases c11 : es.length < 8796093022208
        ·rw [if_pos c11] at H
         have LMc11 := Aside0.mk c11
         clear c11
         obtain ⟨y145, hy145⟩ : ∃ y_ : List (S57), y_ = (es ++ [(⟨x, y⟩ : S57)]) := ⟨_, rfl⟩
         rw [← hy145] at H
         have Ny145 := Aside0.mk hy145
         clear hy145
         have H' := Aside0.mk H
         clear H
         go_wp2_with (first | ((with_reducible refine gate_dst (N := 24) rfl ?_); refine Own.goesC_ (some 24) rfl rfl HHas.out #[.int .i64 x, .int .i64 y] rfl rfl (by (try simp only [List.map_toArray, List.map_cons, List.map_nil]); first | done | rfl) ?_; refine (HF.out x y _ HX.out HXY.out HYn.out (by repeat (first | (with_reducible first | exact HB.out | apply below_alloc | apply pw_below_drewN | apply below_drew1 | refine below_set ?_ GE144.out) | exact HB.out))).mono ?_; rintro e w12 ⟨he_, hb⟩; rw [c12] at he_; subst he_; refine ⟨_, rfl, ?_⟩; have n0_ := Aside0.mk (Kd.R_below (by (with_reducible repeat (first | apply Kd.R_alloc | apply Kd.R_drewN | apply Kd.R_drew)); exact HO.out) hb); have n1_ := Aside0.mk (blk_below (g := gb140) (o := .cells #[.int .i64 0, .slice none 0 0] 29 (0, 0)) (by (with_reducible repeat (first | refine blk_drewN ?_ _ | refine blk_drew ?_ | refine blk_alloc ?_ _)); exact BK140.out) hb); have n2_ := Aside0.mk (blk_below (g := gb144) (o := .cells #[.int .i64 a0, u] 29 (0, 0)) (by (with_reducible repeat (first | refine blk_drewN ?_ _ | refine blk_drew ?_ | refine blk_alloc ?_ _)); exact BK144.out) hb); have n3_ := Aside0.mk (below_step (by repeat (first | (with_reducible first | exact HB.out | apply below_alloc | apply pw_below_drewN | apply below_drew1 | refine below_set ?_ GE144.out) | exact HB.out)) hb); clear HO BK140 BK144 HB; have HO := n0_; have BK140 := n1_; have BK144 := n2_; have HB := n3_; clear n0_ n1_ n2_ n3_ hb; have hcz13_0 : w12.cell? ⟨gb144, 0, none⟩ = some (.int .i64 a0) := (blk_cell BK144.out 0).trans rfl; have hcz13_1 : w12.cell? ⟨gb144, 1, none⟩ = some u := (blk_cell BK144.out 1).trans rfl; have hfz13_0 := blk_frozen BK144.out 0; have hfz13_1 := blk_frozen BK144.out 1) | ((with_reducible refine gate_builtin (b := .append) (xs := #[.tmp 26, .tmp 30]) rfl ?_); at_builtin; refine Kd.R_append k57 (w0 := w) w.heap.size rfl (.tmp 26) (.tmp 30) 27 57 (.agg #[(.int .i64 0), (.int .i64 0)]) 16 rfl Try.underlying27 info57 rfl (by decide) (by omega) u es (⟨x, y⟩ : S57) [.int .i64 x, .int .i64 y] (fun _ => True) (fun _ => False) rfl rfl ?aP (fun _ hk => hk.elim) ?aF ?aO ?aB ?aS ?aL ?_; (case aP => exact k57_mkM _ _ _ (⟨x, y⟩ : S57)); (case aB => exact (by repeat (first | (with_reducible first | exact HB.out | apply below_alloc | apply pw_below_drewN | apply below_drew1 | refine below_set ?_ GE144.out) | exact HB.out))); (case aF => exact (fun _ _ => trivial)); (case aO => exact (by (with_reducible repeat (first | apply Kd.R_alloc | apply Kd.R_drewN | apply Kd.R_drew)); exact HO.out)); (case aS => exact (below_size (by repeat (first | (with_reducible first | exact HB.out | apply below_alloc | apply pw_below_drewN | apply below_drew1 | refine below_set ?_ GE144.out) | exact HB.out)))); (case aL => have := LMc11.out; omega); intro v146 w14 ho hb hg hat; rw [← Ny145.out] at ho; have n0_ := Aside0.mk (blk_grown (g := gb140) (o := .cells #[.int .i64 0, .slice none 0 0] 29 (0, 0)) (by (with_reducible repeat (first | refine blk_drewN ?_ _ | refine blk_drew ?_ | refine blk_alloc ?_ _)); exact BK140.out) hg (Kd.R_ne HO.out BK140.out (by decide))); have n1_ := Aside0.mk (blk_grown (g := gb144) (o := .cells #[.int .i64 a0, u] 29 (0, 0)) (by (with_reducible repeat (first | refine blk_drewN ?_ _ | refine blk_drew ?_ | refine blk_alloc ?_ _)); exact BK144.out) hg (Kd.R_ne HO.out BK144.out (by decide))); have n2_ := Aside0.mk (hb); have n3_ := Aside0.mk (ho); clear BK140 BK144 HB HO; have BK140 := n0_; have BK144 := n1_; have HB := n2_; have HO147 := n3_; clear n0_ n1_ n2_ n3_; clear ho hb hg hat; obtain ⟨Ao15, co15, eo15⟩ := Kd.R_slice HO147.out; subst eo15; have hcz16_0 : w14.cell? ⟨gb144, 0, none⟩ = some (.int .i64 a0) := (blk_cell BK144.out 0).trans rfl; have hcz16_1 : w14.cell? ⟨gb144, 1, none⟩ = some u := (blk_cell BK144.out 1).trans rfl; have hfz16_0 := blk_frozen BK144.out 0; have hfz16_1 := blk_frozen BK144.out 1))
         go_roundg k2
         case measure => have := HK1.out; have := HK2.out; omega
         case rel => exact ⟨(wrap64 (y + 1)), y145, (.slice Ao15 y145.length co15), (by first | rfl | (simp; done) | (simp [*]; done)), H', ⟨by have := HK1.out; have := HK2.out; omega⟩, ⟨by have h1 := HXY.out; have h2 := HYn.out; have h3 := HA0.out; have h4 := HX.out; unfold wrap64; omega⟩, ⟨by (with_reducible repeat (first | apply Kd.R_alloc | apply Kd.R_drewN | apply Kd.R_drew)); exact Kd.R_mono (Kd.R_far (p := ⟨gb144, 1, none⟩) (Kd.R_types HO147.out BK144.out (by decide)) (fun _ hk => hk.2) (.slice Ao15 y145.length co15)) (fun _ hk => trivial)⟩, ⟨by (with_reducible repeat (first | refine blk_drewN ?_ _ | refine blk_drew ?_ | refine blk_alloc ?_ _)); refine blk_far ?_ NB140_144.out _; (with_reducible repeat (first | refine blk_drewN ?_ _ | refine blk_drew ?_ | refine blk_alloc ?_ _)); exact BK140.out⟩, ⟨by (with_reducible repeat (first | refine blk_drewN ?_ _ | refine blk_drew ?_ | refine blk_alloc ?_ _)); refine blk_put (cs := #[.int .i64 a0, u]) ?_ 1 _ rfl; (with_reducible repeat (first | refine blk_drewN ?_ _ | refine blk_drew ?_ | refine blk_alloc ?_ _)); exact BK144.out⟩, ⟨by repeat (first | (with_reducible first | exact HB.out | apply below_alloc | apply pw_below_drewN | apply below_drew1 | refine below_set ?_ GE144.out) | exact HB.out)⟩⟩
        ·rw [if_neg c11] at H
         exact absurd H (by simp)
       ·rw [if_neg c12] at H
        replace c12 := Bool.eq_false_iff.mpr c12
        have H' := Aside0.mk H
        clear H
        go_wp2_with (first | ((with_reducible refine gate_dst (N := 24) rfl ?_); refine Own.goesC_ (some 24) rfl rfl HHas.out #[.int .i64 x, .int .i64 y] rfl rfl (by (try simp only [List.map_toArray, List.map_cons, List.map_nil]); first | done | rfl) ?_; refine (HF.out x y _ HX.out HXY.out HYn.out (by repeat (first | (with_reducible first | exact HB.out | apply below_alloc | apply pw_below_drewN | apply below_drew1 | refine below_set ?_ GE144.out) | exact HB.out))).mono ?_; rintro e w12 ⟨he_, hb⟩; rw [c12] at he_; subst he_; refine ⟨_, rfl, ?_⟩; have n0_ := Aside0.mk (Kd.R_below (by (with_reducible repeat (first | apply Kd.R_alloc | apply Kd.R_drewN | apply Kd.R_drew)); exact HO.out) hb); have n1_ := Aside0.mk (blk_below (g := gb140) (o := .cells #[.int .i64 0, .slice none 0 0] 29 (0, 0)) (by (with_reducible repeat (first | refine blk_drewN ?_ _ | refine blk_drew ?_ | refine blk_alloc ?_ _)); exact BK140.out) hb); have n2_ := Aside0.mk (blk_below (g := gb144) (o := .cells #[.int .i64 a0, u] 29 (0, 0)) (by (with_reducible repeat (first | refine blk_drewN ?_ _ | refine blk_drew ?_ | refine blk_alloc ?_ _)); exact BK144.out) hb); have n3_ := Aside0.mk (below_step (by repeat (first | (with_reducible first | exact HB.out | apply below_alloc | apply pw_below_drewN | apply below_drew1 | refine below_set ?_ GE144.out) | exact HB.out)) hb); clear HO BK140 BK144 HB; have HO := n0_; have BK140 := n1_; have BK144 := n2_; have HB := n3_; clear n0_ n1_ n2_ n3_ hb; have hcz13_0 : w12.cell? ⟨gb144, 0, none⟩ = some (.int .i64 a0) := (blk_cell BK144.out 0).trans rfl; have hcz13_1 : w12.cell? ⟨gb144, 1, none⟩ = some u := (blk_cell BK144.out 1).trans rfl; have hfz13_0 := blk_frozen BK144.out 0; have hfz13_1 := blk_frozen BK144.out 1))
        go_roundg k2
        case measure => have := HK1.out; have := HK2.out; omega
        case rel => exact ⟨(wrap64 (y + 1)), es, u, (by first | rfl | (simp; done) | (simp [*]; done)), H', ⟨by have := HK1.out; have := HK2.out; omega⟩, ⟨by have h1 := HXY.out; have h2 := HYn.out; have h3 := HA0.out; have h4 := HX.out; unfold wrap64; omega⟩, ⟨by (with_reducible repeat (first | apply Kd.R_alloc | apply Kd.R_drewN | apply Kd.R_drew)); exact HO.out⟩, ⟨by (with_reducible repeat (first | refine blk_drewN ?_ _ | refine blk_drew ?_ | refine blk_alloc ?_ _)); exact BK140.out⟩, ⟨by (with_reducible repeat (first | refine blk_drewN ?_ _ | refine blk_drew ?_ | refine blk_alloc ?_ _)); exact BK144.out⟩, ⟨by repeat (first | (with_reducible first | exact HB.out | apply below_alloc | apply pw_below_drewN | apply below_drew1 | refine below_set ?_ GE144.out) | exact HB.out)⟩⟩
      ·rw [if_neg c10] at H
       have c10b0 : decide (y < a0) = false := decide_eq_false c10
       clear c10
       have H' := Aside0.mk H
       clear H
       go_wp2
       go_roundg k2
       case measure => have := HK1.out; have := HK2.out; omega
       case rel => exact ⟨(wrap64 (x + 1)), es, u, (by first | rfl | (simp; done) | (simp [*]; done)), H', ⟨by have := HK1.out; have := HK2.out; omega⟩, ⟨by have h1 := HX.out; have h2 := HXn.out; have h3 := HA0.out; unfold wrap64; omega⟩, ⟨by (with_reducible repeat (first | apply Kd.R_alloc | apply Kd.R_drewN | apply Kd.R_drew)); exact HO.out⟩, ⟨by (with_reducible repeat (first | refine blk_drewN ?_ _ | refine blk_drew ?_ | refine blk_alloc ?_ _)); exact BK140.out⟩, ⟨by (with_reducible repeat (first | refine blk_drewN ?_ _ | refine blk_drew ?_ | refine blk_alloc ?_ _)); exact BK144.out⟩, ⟨by repeat (first | (with_reducible first | exact HB.out | apply below_alloc | apply pw_below_drewN | apply below_drew1 | refine below_set ?_ GE144.out) | exact HB.out)⟩⟩
   ·rw [if_neg c9] at H
    have c9b0 : decide (x < a0) = false := decide_eq_false c9
    clear c9
    obtain rfl := Option.some.inj H
    have hnb17 := NB144_140.out
    have hnc17 := NB140_144.out
    have hcz18_0 : wr.cell? ⟨gb144, 0, none⟩ = some (.int .i64 a0) := (blk_cell BK144.out 0).trans rfl
    have hcz18_1 : wr.cell? ⟨gb144, 1, none⟩ = some (u) := (blk_cell BK144.out 1).trans rfl
    have hfz18_0 := blk_frozen BK144.out 0
    have hfz18_1 := blk_frozen BK144.out 1
    have hcz19_0 : wr.cell? ⟨gb140, 0, none⟩ = some (.int .i64 0) := (blk_cell BK140.out 0).trans rfl
    have hcz19_1 : wr.cell? ⟨gb140, 1, none⟩ = some (.slice none 0 0) := (blk_cell BK140.out 1).trans rfl
    have hfz19_0 := blk_frozen BK140.out 0
    have hfz19_1 := blk_frozen BK140.out 1
    obtain ⟨Ao20, co20, eo20⟩ := Kd.R_slice HO.out
    subst eo20
    go_wp2
    refine bodyPost_ret (results_cell_row rfl _ _ gb140 29 #[.int .i64 a0, .slice Ao20 es.length co20] (0, 0) _ rfl (by (with_reducible repeat (first | refine blk_drewN ?_ _ | refine blk_drew ?_ | refine blk_alloc ?_ _)); refine blk_put (cs := #[.int .i64 a0, .slice none 0 0]) ?_ 1 _ rfl; (with_reducible repeat (first | refine blk_drewN ?_ _ | refine blk_drew ?_ | refine blk_alloc ?_ _)); refine blk_put (cs := #[.int .i64 0, .slice none 0 0]) ?_ 0 _ rfl; (with_reducible repeat (first | refine blk_drewN ?_ _ | refine blk_drew ?_ | refine blk_alloc ?_ _)); exact BK140.out) Try.underlying29 rfl (by kernel_rfl)) rfl ?_
    exact ⟨_, by first | rfl | (simp; done) | (simp [*]; done), by (with_reducible repeat (first | apply Kd.R_alloc | apply Kd.R_drewN | apply Kd.R_drew)); exact Kd.R_mono (Kd.R_far (p := ⟨gb140, 1, none⟩) (Kd.R_far (p := ⟨gb140, 0, none⟩) (Kd.R_types HO.out BK140.out (by decide)) (fun _ hk => hk.2) (.int .i64 a0)) (fun _ hk => hk.2) (.slice Ao20 es.length co20)) (fun _ hk => trivial), by repeat (first | (with_reducible first | exact HB.out | apply below_alloc | apply pw_below_drewN | apply below_drew1 | refine below_set ?_ GE140.out | refine below_set ?_ GE144.out) | exact HB.out)⟩
theorem impl_graphBy.mono_l (h : Int → Int → Bool) : ∀ k, (∀ n x es, LeO (impl_graphBy.l0 k h n x es) (impl_graphBy.l0 (k + 1) h n x es)) ∧ (∀ n x y es, LeO (impl_graphBy.l1 k h n x y es) (impl_graphBy.l1 (k + 1) h n x y es))
 | 0 => ⟨fun _ _ _ r h => by simp [impl_graphBy.l0] at h, fun _ _ _ _ r h => by simp [impl_graphBy.l1] at h⟩
 | k + 1 => by
  obtain ⟨ih0, ih1⟩ := impl_graphBy.mono_l h k
  refine ⟨?_, ?_⟩
  ·intro n x es
   unfold impl_graphBy.l0
   exact LeO.ite (ih1 _ _ _ _) (LeO.refl _)
  ·intro n x y es
   unfold impl_graphBy.l1
   exact LeO.ite (LeO.ite (LeO.ite (ih1 _ _ _ _) (LeO.refl _)) (ih1 _ _ _ _)) (ih0 _ _ _)
theorem impl_graphBy.mono (h : Int → Int → Bool) (n : Int) (k : Nat) : LeO (impl_graphBy.f k h n) (impl_graphBy.f (k + 1) h n) := (impl_graphBy.mono_l h k).1 _ _ _

/-! ### impl_graphBy_has -/
def impl_graphBy_has.c (near : List Int) (x y : Int) : Option Bool := impl_net_has.f near x y
def impl_graphBy_has.f (k : Nat) (a0 : Int) (near : List Int) : Option (Int × List (S57)) := if (0 ≤ a0 ∧ a0 ≤ 1000) ∧ okBy (impl_graphBy_has.c near) a0 = true then (impl_graphBy.f k (fun x y => (impl_graphBy_has.c near x y).getD false) a0).map (fun es => (a0, es)) else none
theorem impl_graphBy_has.mono : ∀ a0 near k, LeO (impl_graphBy_has.f k a0 near) (impl_graphBy_has.f (k + 1) a0 near) := by
 intro a0 near k
 unfold impl_graphBy_has.f
 exact LeO.ite (LeO.map _ (impl_graphBy.mono _ _ _)) (LeO.refl _)
theorem impl_graphBy_has.calls (k : Nat) (a0 : Int)  (Anear : Option Addr) (cnear : Nat) (near : List Int) (r1 : Int) (r2 : List (S57)) (w : World) (hrnear : Kd.C (Kd.int .i64) w Anear near.length near) (hcnear : near.length ≤ cnear) (h : impl_graphBy_has.f k a0 near = some (r1, r2)) :
  Calls Try.prog 50 #[.int .i64 a0, .func (.func 67) #[.agg #[.slice Anear near.length cnear]] #[]] w fun e w' => ∃ v1_ : Value, e = .returned (.agg #[.int .i64 r1, v1_]) ∧ Kd.R k57 57 w' w.heap.size (fun _ => True) v1_ r2 ∧ Below w.heap.size w w' := by
 unfold impl_graphBy_has.f at h
 by_cases hc : (0 ≤ a0 ∧ a0 ≤ 1000) ∧ okBy (impl_graphBy_has.c near) a0 = true
 ·rw [if_pos hc] at h
  obtain ⟨es, hes, he⟩ := Option.map_eq_some_iff.1 h
  simp only [Prod.mk.injEq] at he
  obtain ⟨rfl, rfl⟩ := he
  refine impl_graphBy.gen k _ a0 67 #[.agg #[.slice Anear near.length cnear]] #[] es w hc.1 ⟨_, Try.func67, by kernel_rfl, rfl⟩ (fun x y W hx hxy hy hb => ?_) hes
  refine (show Calls Try.prog 67 #[.agg #[.slice Anear near.length cnear], .int .i64 x, .int .i64 y] W _ from ?_)
  refine (impl_net_has.calls Anear cnear near x y _ W (Kd.C_below hrnear hb) hcnear  (show impl_net_has.f near x y = some _ from okBy_spec (c := impl_graphBy_has.c near) hc.2 hx hxy hy)).mono ?_
  rintro e W' ⟨he, hd⟩
  exact ⟨he, hd⟩
 ·rw [if_neg hc] at h
  cases h

end Go.Proofs.Ytooeemiljeeoaaa.P
