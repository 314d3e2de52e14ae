/- Functions of the program as Lean functions, that each call comes to what they say, and what holds of them; part 5 of 15; no conditions beyond those that each theorem names. -/
import Derived.Test.YtcjddikalgnhpaaK1
import Derived.Test.YtcjddikalgnhpaaK2
import Derived.Test.YtcjddikalgnhpaaK3
import Derived.Test.YtcjddikalgnhpaaK4
namespace Go.Proofs.Ytcjddikalgnhpaa.P
open Go.RowKit Go.Proofs.YtcjddikalgnhpaaW.PrintWords Go.Proofs.YtcjddikalgnhpaaW.PrintLast Go.Proofs.YtcjddikalgnhpaaW.PrintMore
attribute [local go_sem] max2_int min2_int max_two min_two max_three min_three max_four min_four   -- for this text's walks alone
set_option linter.unusedVariables false
set_option linter.unusedSimpArgs false
/-! ### impl_graphBy: function 108 -/
/-- A closure answers for all pairs within the bounds. -/
def okBy (c : Int → Int → Option Bool) (n : Int) : Bool := (List.range n.toNat).all fun y => (List.range y).all fun x => (c x y).isSome
theorem okBy_spec {c : Int → Int → Option Bool} {n x y : Int} (h : okBy c n = true) (hx : 0 ≤ x) (hxy : x < y) (hy : y < n) : c x y = some ((c x y).getD false) := by
 unfold okBy at h
 rw [List.all_eq_true] at h
 have h1 := h y.toNat (by rw [List.mem_range]; omega)
 rw [List.all_eq_true] at h1
 have h2 := h1 x.toNat (by rw [List.mem_range]; omega)
 rw [Int.toNat_of_nonneg hx, Int.toNat_of_nonneg (by omega)] at h2
 obtain ⟨b, hb⟩ := Option.isSome_iff_exists.1 h2
 rw [hb]
 rfl
mutual
def impl_graphBy.l0 : Nat → (Int → Int → Bool) → Int → Int → List (S71) → Option (List (S71))
 | 0, _, _, _, _ => none
 | k + 1, h, n, x, es => if x < n then (impl_graphBy.l1 k h n x (wrap64 (x + 1)) es) else (some es)
def impl_graphBy.l1 : Nat → (Int → Int → Bool) → Int → Int → Int → List (S71) → Option (List (S71))
 | 0, _, _, _, _, _ => none
 | k + 1, h, n, x, y, es => if y < n then (if h x y = true then (if es.length < 8796093022208 then (impl_graphBy.l1 k h n x (wrap64 (y + 1)) (es ++ [(⟨x, y⟩ : S71)])) else none) else (impl_graphBy.l1 k h n x (wrap64 (y + 1)) es)) else (impl_graphBy.l0 k h n (wrap64 (x + 1)) es)
end
def impl_graphBy.f (k : Nat) (h : Int → Int → Bool) (n : Int) : Option (List (S71)) := impl_graphBy.l0 k h n 0 []
set_option maxHeartbeats 8000000 in
set_option maxRecDepth 100000 in
/-- What a call of graphBy does, for any function value of which each call within the bounds answers as 'h' says and only makes memory. -/
theorem impl_graphBy.gen (k : Nat) (h : Int → Int → Bool) (a0 : Int) (F : Nat) (fi cp : Array Value) (r : List (S71)) (w : World) (ha : 0 ≤ a0 ∧ a0 ≤ 1000) (hHas : Own.Has Try.prog F)
  (hF : ∀ (x y : Int) (W : World), 0 ≤ x → x < y → y < a0 → Below w.heap.size w W → Calls Try.prog F (fi ++ #[.int .i64 x, .int .i64 y] ++ cp) W fun e W' => e = .returned (.bool (h x y)) ∧ Below W.heap.size W W')
  (hr : impl_graphBy.f k h a0 = some r) :
  Calls Try.prog 108 #[.int .i64 a0, .func (.func F) fi cp] w fun e w' => ∃ v1_ : Value, e = .returned (.agg #[.int .i64 a0, v1_]) ∧ Kd.R k71 71 w' w.heap.size (fun _ => True) v1_ r ∧ Below w.heap.size w w' := by
 have hu29 := Try.underlying30
 have hu57 := Try.underlying71
 have HA0 := Aside0.mk ha
 clear ha
 have HF := Aside0.mk hF
 clear hF
 have HHas := Aside0.mk hHas
 clear hHas
 have HB := am (Below.refl w.heap.size w)
 have H' := am (show impl_graphBy.l0 k h a0 0 [] = some r from hr)
 clear hr
 go_enter Try.func108, Try.ntmps108
 go_wp2_with (first | ((with_reducible refine gate_dst (N := 4) rfl ?_); refine box_event (by rfl) (N := 4) (by rfl) (cs := #[.int .i64 0, .slice none 0 0]) (t := 30) Qr ?_; intro gb140 hg w2 hbox hb; replace HB := am (below_step HB.out hb); have BK140 := am (hbox); have GE140 := am ((by rw [hg]; exact (Nat.le_refl _)) : w.heap.size ≤ gb140); clear hb hbox hg) | ((with_reducible refine gate_dst (N := 5) rfl ?_); refine box_event (by rfl) (N := 5) (by rfl) (cs := #[.int .i64 0, .slice none 0 0]) (t := 30) Qr ?_; intro gb144 hg w6 hbox hb; have nn1_ := am ((by rw [hg]; exact Nat.ne_of_lt (blk_lt BK140.out)) : gb140 ≠ gb144); have nn2_ := am ((by rw [hg]; exact Nat.ne_of_gt (blk_lt BK140.out)) : gb144 ≠ gb140); have n1_ := am (blk_below (g := gb140) (o := .cells #[.int .i64 0, .slice none 0 0] 30 (0, 0)) BK140.out hb); have n3_ := am (hbox); have n4_ := am ((by rw [hg]; exact HB.out.size) : w.heap.size ≤ gb144); have n2_ := am (below_step HB.out hb); clear BK140; clear HB; have BK140 := n1_; have BK144 := n3_; have GE144 := n4_; have HB := n2_; have NB140_144 := nn1_; have NB144_140 := nn2_; clear nn1_ nn2_; clear n1_ n2_ n3_ n4_; clear hb hbox hg; obtain ⟨_, _, _, _⟩ := b2 BK144))
 go_loopg [11] k (fun kq v11 w' => ∃ (x : Int) (es : List (S71)) (u : Value), v11 = .int .i64 x ∧ Aside0 (impl_graphBy.l0 kq h a0 x es = some r) ∧ Aside0 (kq ≤ k) ∧ Aside0 (0 ≤ x) ∧ Aside0 (Kd.R k71 71 w' w.heap.size (fun _ => True) u es) ∧ Aside0 (w'.heap[gb140]? = some (.cells #[.int .i64 0, .slice none 0 0] 30 (0, 0))) ∧ Aside0 (w'.heap[gb144]? = some (.cells #[.int .i64 a0, u] 30 (0, 0))) ∧ Aside0 (Below w.heap.size w w'))
 case atStart => exact ⟨0, [], .slice none 0 0, Q17, H', ⟨Nat.le_refl _⟩, ⟨Int.le_refl _⟩, ⟨Kd.R_nil _ _ _ _ _⟩, ⟨Q2 NB140_144 BK140⟩, ⟨Q57 BK144⟩, ⟨Q4 HB GE144⟩⟩
 case round =>
  clear H'
  obtain ⟨x, es, u, rfl, HA, HK1, HX, HO, BK140, BK144, HB⟩ := hrel
  cases gk with
  | zero => exact absurd HA.out (by simp [impl_graphBy.l0])
  | succ k1 =>
   have H := HA.out; clear HA
   simp only [impl_graphBy.l0] at H
   by_cases c9 : x < a0
   ·rw [if_pos c9] at H
    have c9b0 := decide_eq_true c9; have HXn := Aside0.mk c9; clear c9; have H' := Aside0.mk H; clear H
    go_wp2
    go_loopg [7] k1 (fun kq v7 w' => ∃ (y : Int) (es : List (S71)) (u : Value), v7 = .int .i64 y ∧ Aside0 (impl_graphBy.l1 kq h a0 x y es = some r) ∧ Aside0 (kq ≤ k1) ∧ Aside0 (x < y) ∧ Aside0 (Kd.R k71 71 w' w.heap.size (fun _ => True) u es) ∧ Aside0 (w'.heap[gb140]? = some (.cells #[.int .i64 0, .slice none 0 0] 30 (0, 0))) ∧ Aside0 (w'.heap[gb144]? = some (.cells #[.int .i64 a0, u] 30 (0, 0))) ∧ Aside0 (Below w.heap.size w w'))
    case atStart => exact ⟨(wrap64 (x + 1)), es, u, Q17, H', ⟨Nat.le_refl _⟩, ⟨by have h1 := HX.out; have h2 := HXn.out; have h3 := HA0.out; unfold wrap64; omega⟩, ⟨Q154⟩, ⟨Q0 BK140⟩, ⟨Q0 BK144⟩, ⟨Q4 HB GE144⟩⟩
    case round =>
     clear H'
     obtain ⟨y, es, u, rfl, HA, HK2, HXY, HO, BK140, BK144, HB⟩ := hrel
     cases gk with
     | zero => exact absurd HA.out (by simp [impl_graphBy.l1])
     | succ k2 =>
      have H := HA.out; clear HA
      simp only [impl_graphBy.l1] at H
      by_cases c10 : y < a0
      ·rw [if_pos c10] at H
       have c10b0 := decide_eq_true c10; have HYn := Aside0.mk c10; clear c10
       by_cases c12 : h x y = true
       ·rw [if_pos c12] at H
        obtain ⟨c11, H⟩ := ifn H
        have LMc11 := Aside0.mk c11; clear c11; obtain ⟨y145, hy145⟩ : ∃ y_ : List (S71), y_ = (es ++ [(⟨x, y⟩ : S71)]) := ⟨_, rfl⟩; rw [← hy145] at H; have Ny145 := Aside0.mk hy145; clear hy145; have H' := Aside0.mk H; clear H
        go_wp2_with (first | ((with_reducible refine gate_dst (N := 24) rfl ?_); refine Own.goesC_ (some 24) rfl rfl HHas.out #[.int .i64 x, .int .i64 y] rfl rfl Q170 ?_; refine (HF.out x y _ HX.out HXY.out HYn.out (Q4 HB GE144)).mono ?_; rintro e w12 ⟨he_, hb⟩; rw [c12] at he_; subst he_; refine ⟨_, rfl, ?_⟩; replace HO := am (Kd.R_below Q154 hb); replace BK140 := bb BK140 hb; replace BK144 := bb BK144 hb; replace HB := am (below_step (Q4 HB GE144) hb); have _ : w12.cell? ⟨gb144, 0, none⟩ = some (.int .i64 a0) := (blk_cell BK144.out 0).trans rfl; have _ : w12.cell? ⟨gb144, 1, none⟩ = some u := (blk_cell BK144.out 1).trans rfl; have _ := blk_frozen BK144.out 0; have _ := blk_frozen BK144.out 1) | ((with_reducible refine gate_builtin (b := .append) (xs := #[.tmp 26, .tmp 30]) rfl ?_); at_builtin; refine Kd.R_append k71 (w0 := w) w.heap.size rfl (.tmp 26) (.tmp 30) 22 71 (.agg #[(.int .i64 0), (.int .i64 0)]) 16 rfl Try.underlying22 info71 rfl (by decide) (by omega) u es (⟨x, y⟩ : S71) [.int .i64 x, .int .i64 y] (fun _ => True) (fun _ => False) rfl rfl ?aP (fun _ hk => hk.elim) ?aF ?aO ?aB ?aS ?aL ?_; (case aP => exact k71_mkM _ _ _ (⟨x, y⟩ : S71)); (case aB => exact (Q4 HB GE144)); (case aF => exact (fun _ _ => trivial)); (case aO => exact Q154); (case aS => exact (below_size (Q4 HB GE144))); (case aL => have := LMc11.out; omega); intro v146 w14 ho hb hg hat; rw [← Ny145.out] at ho; replace BK140 := am (blk_grown (g := gb140) (o := .cells #[.int .i64 0, .slice none 0 0] 30 (0, 0)) (Q0 BK140) hg (Kd.R_ne HO.out BK140.out (by decide))); replace BK144 := am (blk_grown (g := gb144) (o := .cells #[.int .i64 a0, u] 30 (0, 0)) (Q0 BK144) hg (Kd.R_ne HO.out BK144.out (by decide))); replace HB := am (hb); have HO147 := am (ho); clear HO; clear ho hb hg hat; obtain ⟨Ao15, co15, eo15⟩ := Kd.R_slice HO147.out; subst eo15; have _ : w14.cell? ⟨gb144, 0, none⟩ = some (.int .i64 a0) := (blk_cell BK144.out 0).trans rfl; have _ : w14.cell? ⟨gb144, 1, none⟩ = some u := (blk_cell BK144.out 1).trans rfl; have _ := blk_frozen BK144.out 0; have _ := blk_frozen BK144.out 1))
        go_roundg k2
        case measure => have := HK1.out; have := HK2.out; omega
        case rel => exact ⟨(wrap64 (y + 1)), y145, (.slice Ao15 y145.length co15), Q17, H', ⟨Q168⟩, ⟨by have h1 := HXY.out; have h2 := HYn.out; have h3 := HA0.out; have h4 := HX.out; unfold wrap64; omega⟩, ⟨by (with_reducible repeat (first | apply Kd.R_alloc | apply Kd.R_drewN | apply Kd.R_drew)); exact Kd.R_mono (Kd.R_far (p := ⟨gb144, 1, none⟩) (Kd.R_types HO147.out BK144.out (by decide)) (fun _ hk => hk.2) (.slice Ao15 y145.length co15)) (fun _ hk => trivial)⟩, ⟨Q26 NB140_144 BK140⟩, ⟨by (with_reducible repeat (first | refine blk_drewN ?_ _ | refine blk_drew ?_ | refine blk_alloc ?_ _)); refine blk_put (cs := #[.int .i64 a0, u]) ?_ 1 _ rfl; (with_reducible repeat (first | refine blk_drewN ?_ _ | refine blk_drew ?_ | refine blk_alloc ?_ _)); exact BK144.out⟩, ⟨Q4 HB GE144⟩⟩
       ·rw [if_neg c12] at H
        replace c12 := Bool.eq_false_iff.mpr c12; have H' := Aside0.mk H; clear H
        go_wp2_with (first | ((with_reducible refine gate_dst (N := 24) rfl ?_); refine Own.goesC_ (some 24) rfl rfl HHas.out #[.int .i64 x, .int .i64 y] rfl rfl Q170 ?_; refine (HF.out x y _ HX.out HXY.out HYn.out (Q4 HB GE144)).mono ?_; rintro e w12 ⟨he_, hb⟩; rw [c12] at he_; subst he_; refine ⟨_, rfl, ?_⟩; replace HO := am (Kd.R_below Q154 hb); replace BK140 := bb BK140 hb; replace BK144 := bb BK144 hb; replace HB := am (below_step (Q4 HB GE144) hb); have _ : w12.cell? ⟨gb144, 0, none⟩ = some (.int .i64 a0) := (blk_cell BK144.out 0).trans rfl; have _ : w12.cell? ⟨gb144, 1, none⟩ = some u := (blk_cell BK144.out 1).trans rfl; have _ := blk_frozen BK144.out 0; have _ := blk_frozen BK144.out 1))
        go_roundg k2
        case measure => have := HK1.out; have := HK2.out; omega
        case rel => exact ⟨(wrap64 (y + 1)), es, u, Q17, H', ⟨Q168⟩, ⟨by have h1 := HXY.out; have h2 := HYn.out; have h3 := HA0.out; have h4 := HX.out; unfold wrap64; omega⟩, ⟨Q154⟩, ⟨Q0 BK140⟩, ⟨Q0 BK144⟩, ⟨Q4 HB GE144⟩⟩
      ·rw [if_neg c10] at H
       have c10b0 := decide_eq_false c10; clear c10; have H' := Aside0.mk H; clear H
       go_wp2
       go_roundg k2
       case measure => have := HK1.out; have := HK2.out; omega
       case rel => exact ⟨(wrap64 (x + 1)), es, u, Q17, H', ⟨Q168⟩, ⟨by have h1 := HX.out; have h2 := HXn.out; have h3 := HA0.out; unfold wrap64; omega⟩, ⟨Q154⟩, ⟨Q0 BK140⟩, ⟨Q0 BK144⟩, ⟨Q4 HB GE144⟩⟩
   ·rw [if_neg c9] at H
    have c9b0 := decide_eq_false c9; clear c9; obtain rfl := Option.some.inj H; obtain ⟨_, _⟩ := o2 NB144_140 NB140_144; obtain ⟨_, _, _, _⟩ := b2 BK144; obtain ⟨_, _, _, _⟩ := b2 BK140; obtain ⟨Ao20, co20, eo20⟩ := Kd.R_slice HO.out; subst eo20
    go_wp2
    refine bodyPost_ret (results_cell_row rfl _ _ gb140 30 #[.int .i64 a0, .slice Ao20 es.length co20] (0, 0) _ rfl (Q57 BK140) Try.underlying30 rfl (by kernel_rfl)) rfl ?_; exact ⟨_, Q17, by (with_reducible repeat (first | apply Kd.R_alloc | apply Kd.R_drewN | apply Kd.R_drew)); exact Kd.R_mono (Kd.R_far (p := ⟨gb140, 1, none⟩) (Kd.R_far (p := ⟨gb140, 0, none⟩) (Kd.R_types HO.out BK140.out (by decide)) (fun _ hk => hk.2) (.int .i64 a0)) (fun _ hk => hk.2) (.slice Ao20 es.length co20)) (fun _ hk => trivial), Q52 HB GE140 GE144⟩
theorem impl_graphBy.mono_l (h : Int → Int → Bool) : ∀ k, (∀ n x es, LeO (impl_graphBy.l0 k h n x es) (impl_graphBy.l0 (k + 1) h n x es)) ∧ (∀ n x y es, LeO (impl_graphBy.l1 k h n x y es) (impl_graphBy.l1 (k + 1) h n x y es))
 | 0 => ⟨fun _ _ _ r h => by simp [impl_graphBy.l0] at h, fun _ _ _ _ r h => by simp [impl_graphBy.l1] at h⟩
 | k + 1 => by
  obtain ⟨ih0, ih1⟩ := impl_graphBy.mono_l h k; refine ⟨?_, ?_⟩
  ·intro n x es
   unfold impl_graphBy.l0
   exact LeO.ite (ih1 _ _ _ _) (LeO.refl _)
  ·intro n x y es
   unfold impl_graphBy.l1
   exact LeO.ite (LeO.ite (LeO.ite (ih1 _ _ _ _) (LeO.refl _)) (ih1 _ _ _ _)) (ih0 _ _ _)
theorem impl_graphBy.mono (h : Int → Int → Bool) (n : Int) (k : Nat) : LeO (impl_graphBy.f k h n) (impl_graphBy.f (k + 1) h n) := (impl_graphBy.mono_l h k).1 _ _ _
/-! ### impl_graphBy_has -/
def impl_graphBy_has.c (near : List Int) (x y : Int) : Option Bool := impl_net_has.f near x y
def impl_graphBy_has.f (k : Nat) (a0 : Int) (near : List Int) : Option (Int × List (S71)) := if (0 ≤ a0 ∧ a0 ≤ 1000) ∧ okBy (impl_graphBy_has.c near) a0 = true then (impl_graphBy.f k (fun x y => (impl_graphBy_has.c near x y).getD false) a0).map (fun es => (a0, es)) else none
theorem impl_graphBy_has.mono : ∀ a0 near k, LeO (impl_graphBy_has.f k a0 near) (impl_graphBy_has.f (k + 1) a0 near) := by
 intro a0 near k
 unfold impl_graphBy_has.f
 exact LeO.ite (LeO.map _ (impl_graphBy.mono _ _ _)) (LeO.refl _)
theorem impl_graphBy_has.calls (k : Nat) (a0 : Int)  (Anear : Option Addr) (cnear : Nat) (near : List Int) (r1 : Int) (r2 : List (S71)) (w : World) (hrnear : Kd.C (Kd.int .i64) w Anear near.length near) (hcnear : near.length ≤ cnear) (h : impl_graphBy_has.f k a0 near = some (r1, r2)) :
  Calls Try.prog 108 #[.int .i64 a0, .func (.func 136) #[.agg #[.slice Anear near.length cnear]] #[]] w fun e w' => ∃ v1_ : Value, e = .returned (.agg #[.int .i64 r1, v1_]) ∧ Kd.R k71 71 w' w.heap.size (fun _ => True) v1_ r2 ∧ Below w.heap.size w w' := by
 unfold impl_graphBy_has.f at h
 by_cases hc : (0 ≤ a0 ∧ a0 ≤ 1000) ∧ okBy (impl_graphBy_has.c near) a0 = true
 ·rw [if_pos hc] at h
  obtain ⟨es, hes, he⟩ := Option.map_eq_some_iff.1 h
  simp only [Prod.mk.injEq] at he
  obtain ⟨rfl, rfl⟩ := he; refine impl_graphBy.gen k _ a0 136 #[.agg #[.slice Anear near.length cnear]] #[] es w hc.1 ⟨_, Try.func136, by kernel_rfl, rfl⟩ (fun x y W hx hxy hy hb => ?_) hes; refine (show Calls Try.prog 136 #[.agg #[.slice Anear near.length cnear], .int .i64 x, .int .i64 y] W _ from ?_); refine (impl_net_has.calls Anear cnear near x y _ W (Kd.C_below hrnear hb) hcnear  (show impl_net_has.f near x y = some _ from okBy_spec (c := impl_graphBy_has.c near) hc.2 hx hxy hy)).mono ?_; rintro e W' ⟨he, hd⟩; exact ⟨he, hd⟩
 ·rw [if_neg hc] at h
  cases h
/-! ### impl_graphBy_product -/
def impl_graphBy_productC.c (n nr : Int) (v w : List Int) (x y : Int) : Option Bool := impl_productOf_1C.f x y n nr v w
def impl_graphBy_productC.f (k : Nat) (a0 : Int) (n nr : Int) (v w : List Int) : Option (Int × List (S71)) := if (0 ≤ a0 ∧ a0 ≤ 1000) ∧ okBy (impl_graphBy_productC.c n nr v w) a0 = true then (impl_graphBy.f k (fun x y => (impl_graphBy_productC.c n nr v w x y).getD false) a0).map (fun es => (a0, es)) else none
theorem impl_graphBy_productC.mono : ∀ a0 n nr v w k, LeO (impl_graphBy_productC.f k a0 n nr v w) (impl_graphBy_productC.f (k + 1) a0 n nr v w) := by
 intro a0 n nr v w k
 unfold impl_graphBy_productC.f
 exact LeO.ite (LeO.map _ (impl_graphBy.mono _ _ _)) (LeO.refl _)
theorem impl_graphBy_productC.calls (k : Nat) (a0 : Int) (g0_ g1_ g2_ g3_ : Nat) (n nr : Int) (Av : Option Addr) (cv : Nat) (v : List Int) (Aw : Option Addr) (cw : Nat) (wl : List Int) (r1 : Int) (r2 : List (S71)) (w : World) (hrv : Kd.C (Kd.int .i64) w Av v.length v) (hcv : v.length ≤ cv) (hrw : Kd.C (Kd.int .i64) w Aw wl.length wl) (hcw : wl.length ≤ cw) (hb0 : w.heap[g0_]? = some (.cells #[.int .i64 n] 3 (0, 0))) (hb1 : w.heap[g1_]? = some (.cells #[.func (.func 131) #[] #[]] 112 (0, 0))) (hb2 : w.heap[g2_]? = some (.cells #[.slice Av v.length cv] 90 (0, 0))) (hb3 : w.heap[g3_]? = some (.cells #[.slice Aw wl.length cw] 90 (0, 0))) (h : impl_graphBy_productC.f k a0 n nr v wl = some (r1, r2)) :
  Calls Try.prog 108 #[.int .i64 a0, .func (.func 193) #[] #[.pointer (some ⟨g0_, 0, none⟩), .pointer (some ⟨g1_, 0, none⟩), .pointer (some ⟨g2_, 0, none⟩), .pointer (some ⟨g3_, 0, none⟩)]] w fun e w' => ∃ v1_ : Value, e = .returned (.agg #[.int .i64 r1, v1_]) ∧ Kd.R k71 71 w' w.heap.size (fun _ => True) v1_ r2 ∧ Below w.heap.size w w' := by
 unfold impl_graphBy_productC.f at h
 by_cases hc : (0 ≤ a0 ∧ a0 ≤ 1000) ∧ okBy (impl_graphBy_productC.c n nr v wl) a0 = true
 ·rw [if_pos hc] at h
  obtain ⟨es, hes, he⟩ := Option.map_eq_some_iff.1 h
  simp only [Prod.mk.injEq] at he
  obtain ⟨rfl, rfl⟩ := he; refine impl_graphBy.gen k _ a0 193 #[] #[.pointer (some ⟨g0_, 0, none⟩), .pointer (some ⟨g1_, 0, none⟩), .pointer (some ⟨g2_, 0, none⟩), .pointer (some ⟨g3_, 0, none⟩)] es w hc.1 ⟨_, Try.func193, by kernel_rfl, rfl⟩ (fun x y W hx hxy hy hb => ?_) hes; refine (show Calls Try.prog 193 #[.int .i64 x, .int .i64 y, .pointer (some ⟨g0_, 0, none⟩), .pointer (some ⟨g1_, 0, none⟩), .pointer (some ⟨g2_, 0, none⟩), .pointer (some ⟨g3_, 0, none⟩)] W _ from ?_); refine (impl_productOf_1C.calls x y g0_ n g1_ nr g2_ Av cv v g3_ Aw cw wl _ W (Kd.C_below hrv hb) hcv (Kd.C_below hrw hb) hcw (blk_below hb0 hb) (blk_below hb1 hb) (blk_below hb2 hb) (blk_below hb3 hb) (show impl_productOf_1C.f x y n nr v wl = some _ from okBy_spec (c := impl_graphBy_productC.c n nr v wl) hc.2 hx hxy hy)).mono ?_; rintro e W' ⟨he, hd⟩; exact ⟨he, hd⟩
 ·rw [if_neg hc] at h
  cases h
def impl_graphBy_productS.c (n nr : Int) (v w : List Int) (x y : Int) : Option Bool := impl_productOf_1S.f x y n nr v w
def impl_graphBy_productS.f (k : Nat) (a0 : Int) (n nr : Int) (v w : List Int) : Option (Int × List (S71)) := if (0 ≤ a0 ∧ a0 ≤ 1000) ∧ okBy (impl_graphBy_productS.c n nr v w) a0 = true then (impl_graphBy.f k (fun x y => (impl_graphBy_productS.c n nr v w x y).getD false) a0).map (fun es => (a0, es)) else none
theorem impl_graphBy_productS.mono : ∀ a0 n nr v w k, LeO (impl_graphBy_productS.f k a0 n nr v w) (impl_graphBy_productS.f (k + 1) a0 n nr v w) := by
 intro a0 n nr v w k
 unfold impl_graphBy_productS.f
 exact LeO.ite (LeO.map _ (impl_graphBy.mono _ _ _)) (LeO.refl _)
theorem impl_graphBy_productS.calls (k : Nat) (a0 : Int) (g0_ g1_ g2_ g3_ : Nat) (n nr : Int) (Av : Option Addr) (cv : Nat) (v : List Int) (Aw : Option Addr) (cw : Nat) (wl : List Int) (r1 : Int) (r2 : List (S71)) (w : World) (hrv : Kd.C (Kd.int .i64) w Av v.length v) (hcv : v.length ≤ cv) (hrw : Kd.C (Kd.int .i64) w Aw wl.length wl) (hcw : wl.length ≤ cw) (hb0 : w.heap[g0_]? = some (.cells #[.int .i64 n] 3 (0, 0))) (hb1 : w.heap[g1_]? = some (.cells #[.func (.func 133) #[] #[]] 112 (0, 0))) (hb2 : w.heap[g2_]? = some (.cells #[.slice Av v.length cv] 90 (0, 0))) (hb3 : w.heap[g3_]? = some (.cells #[.slice Aw wl.length cw] 90 (0, 0))) (h : impl_graphBy_productS.f k a0 n nr v wl = some (r1, r2)) :
  Calls Try.prog 108 #[.int .i64 a0, .func (.func 193) #[] #[.pointer (some ⟨g0_, 0, none⟩), .pointer (some ⟨g1_, 0, none⟩), .pointer (some ⟨g2_, 0, none⟩), .pointer (some ⟨g3_, 0, none⟩)]] w fun e w' => ∃ v1_ : Value, e = .returned (.agg #[.int .i64 r1, v1_]) ∧ Kd.R k71 71 w' w.heap.size (fun _ => True) v1_ r2 ∧ Below w.heap.size w w' := by
 unfold impl_graphBy_productS.f at h
 by_cases hc : (0 ≤ a0 ∧ a0 ≤ 1000) ∧ okBy (impl_graphBy_productS.c n nr v wl) a0 = true
 ·rw [if_pos hc] at h
  obtain ⟨es, hes, he⟩ := Option.map_eq_some_iff.1 h
  simp only [Prod.mk.injEq] at he
  obtain ⟨rfl, rfl⟩ := he; refine impl_graphBy.gen k _ a0 193 #[] #[.pointer (some ⟨g0_, 0, none⟩), .pointer (some ⟨g1_, 0, none⟩), .pointer (some ⟨g2_, 0, none⟩), .pointer (some ⟨g3_, 0, none⟩)] es w hc.1 ⟨_, Try.func193, by kernel_rfl, rfl⟩ (fun x y W hx hxy hy hb => ?_) hes; refine (show Calls Try.prog 193 #[.int .i64 x, .int .i64 y, .pointer (some ⟨g0_, 0, none⟩), .pointer (some ⟨g1_, 0, none⟩), .pointer (some ⟨g2_, 0, none⟩), .pointer (some ⟨g3_, 0, none⟩)] W _ from ?_); refine (impl_productOf_1S.calls x y g0_ n g1_ nr g2_ Av cv v g3_ Aw cw wl _ W (Kd.C_below hrv hb) hcv (Kd.C_below hrw hb) hcw (blk_below hb0 hb) (blk_below hb1 hb) (blk_below hb2 hb) (blk_below hb3 hb) (show impl_productOf_1S.f x y n nr v wl = some _ from okBy_spec (c := impl_graphBy_productS.c n nr v wl) hc.2 hx hxy hy)).mono ?_; rintro e W' ⟨he, hd⟩; exact ⟨he, hd⟩
 ·rw [if_neg hc] at h
  cases h
/-! ### impl_productC -/
def impl_productC.f (k : Nat) (a0_0 : Int) (l0_1 : List (S71)) (a1_0 : Int) (l1_1 : List (S71)) : Option (Int × (List (S71)) × Bool) := impl_productOfX.f impl_graphBy_productC.f k a0_0 l0_1 a1_0 l1_1 0
theorem impl_productC.mono : ∀ a0 a1 a2 a3 k, LeO (impl_productC.f k a0 a1 a2 a3) (impl_productC.f (k + 1) a0 a1 a2 a3) := fun _ _ _ _ _ => impl_productOfX.mono impl_graphBy_productC.f ⟨impl_graphBy_productC.mono⟩ _ _ _ _ _ _
theorem impl_productC.calls (k : Nat) (a0_0 : Int) (A0_1 : Option Addr) (c0_1 : Nat) (l0_1 : List (S71)) (a1_0 : Int) (A1_1 : Option Addr) (c1_1 : Nat) (l1_1 : List (S71)) (r1 : Int) (r2 : List (S71)) (r3 : Bool) (w : World) (hr0_1 : Kd.C k71 w A0_1 l0_1.length l0_1) (hc0_1 : l0_1.length ≤ c0_1) (hr1_1 : Kd.C k71 w A1_1 l1_1.length l1_1) (hc1_1 : l1_1.length ≤ c1_1) (h : impl_productC.f k a0_0 l0_1 a1_0 l1_1 = some (r1, r2, r3)) :
  Calls Try.prog 130 #[.agg #[.int .i64 a0_0, .slice A0_1 l0_1.length c0_1], .agg #[.int .i64 a1_0, .slice A1_1 l1_1.length c1_1], .func (.func 131) #[] #[]] w fun e w' => ∃ v1_ : Value, e = .returned (.tuple #[.agg #[.int .i64 r1, v1_], .bool r3]) ∧ Kd.R k71 71 w' w.heap.size (fun _ => True) v1_ r2 ∧ Below w.heap.size w w' := impl_productOfX.calls impl_graphBy_productC.f ⟨impl_graphBy_productC.mono⟩ 131 ⟨impl_graphBy_productC.calls⟩ k a0_0 A0_1 c0_1 l0_1 a1_0 A1_1 c1_1 l1_1 0 r1 r2 r3 w hr0_1 hc0_1 hr1_1 hc1_1 h
/-! ### impl_CartesianProduct: function 38 -/
def impl_CartesianProduct.f (k : Nat) (a0_0 : Int) (l0_1 : List (S71)) (a1_0 : Int) (l1_1 : List (S71)) : Option (Int × (List (S71)) × Bool) := (impl_productC.f k a0_0 l0_1 a1_0 l1_1).bind fun bt104 => (some (bt104.1, bt104.2.1, bt104.2.2))
theorem impl_CartesianProduct.mono : ∀ a0 a1 a2 a3 k, LeO (impl_CartesianProduct.f k a0 a1 a2 a3) (impl_CartesianProduct.f (k + 1) a0 a1 a2 a3) := by
 intro a0 a1 a2 a3 k
 unfold impl_CartesianProduct.f
 repeat' first | (with_reducible first | exact impl_productC.mono _ _ _ _ _ | exact LeO.refl _ | exact LeO.none _ | refine LeO.ite ?_ ?_ | refine LeO.bind ?_ (fun _ => ?_))
set_option maxHeartbeats 8000000 in
set_option maxRecDepth 100000 in
theorem impl_CartesianProduct.calls (k : Nat) (a0_0 : Int) (A0_1 : Option Addr) (c0_1 : Nat) (l0_1 : List (S71)) (a1_0 : Int) (A1_1 : Option Addr) (c1_1 : Nat) (l1_1 : List (S71)) (r1 : Int) (r2 : List (S71)) (r3 : Bool) (w : World) (hr0_1 : Kd.C k71 w A0_1 l0_1.length l0_1) (hc0_1 : l0_1.length ≤ c0_1) (hr1_1 : Kd.C k71 w A1_1 l1_1.length l1_1) (hc1_1 : l1_1.length ≤ c1_1) (h : impl_CartesianProduct.f k a0_0 l0_1 a1_0 l1_1 = some (r1, r2, r3)) :
  Calls Try.prog 38 #[.agg #[.int .i64 a0_0, .slice A0_1 l0_1.length c0_1], .agg #[.int .i64 a1_0, .slice A1_1 l1_1.length c1_1]] w fun e w' => ∃ v1_ : Value, e = .returned (.tuple #[.agg #[.int .i64 r1, v1_], .bool r3]) ∧ Kd.R k71 71 w' w.heap.size (fun _ => True) v1_ r2 ∧ Below w.heap.size w w' := by
 have hu30 := Try.underlying30
 have HR0_1 := Aside0.mk hr0_1
 have HC0_1 := Aside0.mk hc0_1
 clear hr0_1 hc0_1
 have HR1_1 := Aside0.mk hr1_1
 have HC1_1 := Aside0.mk hc1_1
 clear hr1_1 hc1_1
 have HB := am (Below.refl w.heap.size w)
 have H : ((impl_productC.f k a0_0 l0_1 a1_0 l1_1).bind fun bt104 => (some (bt104.1, bt104.2.1, bt104.2.2))) = some (r1, r2, r3) := h
 clear h
 replace H := (ob H)
 obtain ⟨⟨t104, t105, t108⟩, A30, H⟩ := H
 (try dsimp only at H)
 have A3 := Aside0.mk A30
 clear A30
 simp only [Option.some.injEq, Prod.mk.injEq] at H
 obtain ⟨rfl, rfl, rfl⟩ := H
 go_enter Try.func38, Try.ntmps38
 go_wp2_with (first | ((with_reducible refine gate_dst (N := 2) rfl ?_); refine box_event (by rfl) (N := 2) (by rfl) (cs := #[.int .i64 a0_0, .slice A0_1 l0_1.length c0_1]) (t := 30) Qr ?_; intro gb101 hg w4 hbox hb; have BK101 := am (hbox); have GE101 := ge HB hg; replace HB := bs HB hb; clear hb hbox hg) | ((with_reducible refine gate_dst (N := 3) rfl ?_); refine box_event (by rfl) (N := 3) (by rfl) (cs := #[.int .i64 a1_0, .slice A1_1 l1_1.length c1_1]) (t := 30) Qr ?_; intro gb102 hg w5 hbox hb; have BK102 := am (hbox); have GE102 := ge HB hg; replace HB := bs HB hb; obtain ⟨NB101_102, NB102_101⟩ := ne2 BK101 hg; replace BK101 := bb BK101 hb; clear hb hbox hg) | ((with_reducible refine gate_dst (N := 4) rfl ?_); refine box_event (by rfl) (N := 4) (by rfl) (cs := #[.int .i64 0, .slice none 0 0]) (t := 30) Qr ?_; intro gb103 hg w6 hbox hb; have BK103 := am (hbox); have GE103 := ge HB hg; replace HB := bs HB hb; obtain ⟨NB101_103, NB103_101⟩ := ne2 BK101 hg; replace BK101 := bb BK101 hb; obtain ⟨NB102_103, NB103_102⟩ := ne2 BK102 hg; replace BK102 := bb BK102 hb; clear hb hbox hg; obtain ⟨_, _, _, _⟩ := o4 NB101_102 NB102_101 NB101_103 NB103_101; obtain ⟨_, _, _, _⟩ := b2 BK101; obtain ⟨_, _⟩ := o2 NB102_103 NB103_102; obtain ⟨_, _, _, _⟩ := b2 BK102) | ((with_reducible refine gate_callee (f := 130) rfl ?_); refine goesL_ (some 8) rfl rfl Try.func130 (by kernel_rfl) rfl #[.agg #[.int .i64 a0_0, .slice A0_1 l0_1.length c0_1], .agg #[.int .i64 a1_0, .slice A1_1 l1_1.length c1_1], .func (.func 131) #[] #[]] rfl Q6 ?_; (with_reducible refine (impl_productC.calls k a0_0 _ _ l0_1 a1_0 _ _ l1_1  t104 t105 t108 _ ?side1 ?side2 ?side3 ?side4 A3.out).mono ?_); (case side1 => exact (Q11 HR0_1 HB)); (case side2 => exact HC0_1.out); (case side3 => exact (Q11 HR1_1 HB)); (case side4 => exact HC1_1.out); rintro e w12 ⟨v106, rfl, ho0, hb⟩; refine ⟨_, rfl, ?_⟩; have HO107 := am (Kd.R_lower ho0 (below_size (Q1 HB))); replace BK101 := bb BK101 hb; replace BK102 := bb BK102 hb; replace BK103 := bb BK103 hb; replace HB := bs HB hb; (try clear hb); (try clear ho0); obtain ⟨_, _, _, _⟩ := b2 BK103; obtain ⟨Ao14, co14, eo14⟩ := Kd.R_slice HO107.out; subst eo14))
 refine bodyPost_ret (results_ct rfl _ _ gb103 30 #[.int .i64 t104, .slice Ao14 t105.length co14] (0, 0) _ rfl (Q97 BK103) Try.underlying30 rfl (by kernel_rfl)) rfl ?_
 exact ⟨_, Q19, Q112 HO107 BK103, Q4 HB GE103⟩
/-! ### impl_ComplementOf_1: function 135 -/
def impl_ComplementOf_1.f (a0 : Int) (a1 : Int) (l2_0 : List Int) : Option (Bool) := (impl_net_has.f l2_0 a0 a1).bind fun t101 => (some (!t101))
set_option maxHeartbeats 8000000 in
set_option maxRecDepth 100000 in
theorem impl_ComplementOf_1.calls (a0 : Int) (a1 : Int) (g2 : Nat) (A2_0 : Option Addr) (c2_0 : Nat) (l2_0 : List Int) (r : Bool) (w : World) (hr2_0 : Kd.C (Kd.int .i64) w A2_0 l2_0.length l2_0) (hc2_0 : l2_0.length ≤ c2_0) (hb2 : w.heap[g2]? = some (.cells #[.slice A2_0 l2_0.length c2_0] 90 (0, 0))) (h : impl_ComplementOf_1.f a0 a1 l2_0 = some r) :
  Calls Try.prog 135 #[.int .i64 a0, .int .i64 a1, .pointer (some ⟨g2, 0, none⟩)] w fun e w' => e = .returned (.bool r) ∧ Below w.heap.size w w' := by
 have hu90 := Try.underlying90
 have HR2_0 := Aside0.mk hr2_0
 have HC2_0 := Aside0.mk hc2_0
 clear hr2_0 hc2_0
 have BK2 := Aside0.mk hb2
 clear hb2
 have HB := am (Below.refl w.heap.size w)
 have H : ((impl_net_has.f l2_0 a0 a1).bind fun t101 => (some (!t101))) = some r := h
 clear h
 replace H := (ob H)
 obtain ⟨t101, A40, H⟩ := H
 (try dsimp only at H)
 have A4 := Aside0.mk A40
 clear A40
 obtain rfl := Option.some.inj H
 obtain ⟨_, _⟩ := b1 BK2
 go_enter Try.func135, Try.ntmps135
 go_wp2_with (first | ((with_reducible refine gate_callee (f := 136) rfl ?_); refine goesL_ (some 9) rfl rfl Try.func136 (by kernel_rfl) rfl #[.agg #[.slice A2_0 l2_0.length c2_0], .int .i64 a0, .int .i64 a1] rfl Q6 ?_; (with_reducible refine (impl_net_has.calls _ _ l2_0 a0 a1 t101 _ ?side1 ?side2 A4.out).mono ?_); (case side1 => exact (Q100 HR2_0)); (case side2 => exact HC2_0.out); rintro e w6 ⟨rfl, hb⟩; refine ⟨_, rfl, ?_⟩; replace BK2 := bb BK2 hb; replace HB := bs HB hb; (try clear hb)))
 go_ret
 exact ⟨Q19, Q1 HB⟩
/-! ### impl_graphBy_ComplementOf -/
def impl_graphBy_ComplementOf.c (near : List Int) (x y : Int) : Option Bool := impl_ComplementOf_1.f x y near
def impl_graphBy_ComplementOf.f (k : Nat) (a0 : Int) (near : List Int) : Option (Int × List (S71)) := if (0 ≤ a0 ∧ a0 ≤ 1000) ∧ okBy (impl_graphBy_ComplementOf.c near) a0 = true then (impl_graphBy.f k (fun x y => (impl_graphBy_ComplementOf.c near x y).getD false) a0).map (fun es => (a0, es)) else none
theorem impl_graphBy_ComplementOf.mono : ∀ a0 near k, LeO (impl_graphBy_ComplementOf.f k a0 near) (impl_graphBy_ComplementOf.f (k + 1) a0 near) := by
 intro a0 near k
 unfold impl_graphBy_ComplementOf.f
 exact LeO.ite (LeO.map _ (impl_graphBy.mono _ _ _)) (LeO.refl _)
theorem impl_graphBy_ComplementOf.calls (k : Nat) (a0 : Int) (g0_ : Nat) (Anear : Option Addr) (cnear : Nat) (near : List Int) (r1 : Int) (r2 : List (S71)) (w : World) (hrnear : Kd.C (Kd.int .i64) w Anear near.length near) (hcnear : near.length ≤ cnear) (hb0 : w.heap[g0_]? = some (.cells #[.slice Anear near.length cnear] 90 (0, 0))) (h : impl_graphBy_ComplementOf.f k a0 near = some (r1, r2)) :
  Calls Try.prog 108 #[.int .i64 a0, .func (.func 135) #[] #[.pointer (some ⟨g0_, 0, none⟩)]] w fun e w' => ∃ v1_ : Value, e = .returned (.agg #[.int .i64 r1, v1_]) ∧ Kd.R k71 71 w' w.heap.size (fun _ => True) v1_ r2 ∧ Below w.heap.size w w' := by
 unfold impl_graphBy_ComplementOf.f at h
 by_cases hc : (0 ≤ a0 ∧ a0 ≤ 1000) ∧ okBy (impl_graphBy_ComplementOf.c near) a0 = true
 ·rw [if_pos hc] at h
  obtain ⟨es, hes, he⟩ := Option.map_eq_some_iff.1 h
  simp only [Prod.mk.injEq] at he
  obtain ⟨rfl, rfl⟩ := he; refine impl_graphBy.gen k _ a0 135 #[] #[.pointer (some ⟨g0_, 0, none⟩)] es w hc.1 ⟨_, Try.func135, by kernel_rfl, rfl⟩ (fun x y W hx hxy hy hb => ?_) hes; refine (show Calls Try.prog 135 #[.int .i64 x, .int .i64 y, .pointer (some ⟨g0_, 0, none⟩)] W _ from ?_); refine (impl_ComplementOf_1.calls x y g0_ Anear cnear near _ W (Kd.C_below hrnear hb) hcnear (blk_below hb0 hb) (show impl_ComplementOf_1.f x y near = some _ from okBy_spec (c := impl_graphBy_ComplementOf.c near) hc.2 hx hxy hy)).mono ?_; rintro e W' ⟨he, hd⟩; exact ⟨he, hd⟩
 ·rw [if_neg hc] at h
  cases h
/-! ### impl_ComplementOf: function 43 -/
def impl_ComplementOf.f (k : Nat) (a0_0 : Int) (l0_1 : List (S71)) : Option (Int × (List (S71)) × Bool) := (impl_IsGraph.f k a0_0 l0_1).bind fun t103 => (if t103 = true then ((impl_netOf.f k a0_0 l0_1).bind fun t104 => ((impl_graphBy_ComplementOf.f k a0_0 t104).bind fun bt108 => (some (bt108.1, bt108.2, true)))) else (some (0, ([] : List (S71)), false)))
theorem impl_ComplementOf.mono : ∀ a0 a1 k, LeO (impl_ComplementOf.f k a0 a1) (impl_ComplementOf.f (k + 1) a0 a1) := by
 intro a0 a1 k
 unfold impl_ComplementOf.f
 repeat' first | (with_reducible first | exact impl_IsGraph.mono _ _ _ | exact impl_graphBy_ComplementOf.mono _ _ _ | exact impl_netOf.mono _ _ _ | exact LeO.refl _ | exact LeO.none _ | refine LeO.ite ?_ ?_ | refine LeO.bind ?_ (fun _ => ?_))
set_option maxHeartbeats 8000000 in
set_option maxRecDepth 100000 in
theorem impl_ComplementOf.calls (k : Nat) (a0_0 : Int) (A0_1 : Option Addr) (c0_1 : Nat) (l0_1 : List (S71)) (r1 : Int) (r2 : List (S71)) (r3 : Bool) (w : World) (hr0_1 : Kd.C k71 w A0_1 l0_1.length l0_1) (hc0_1 : l0_1.length ≤ c0_1) (h : impl_ComplementOf.f k a0_0 l0_1 = some (r1, r2, r3)) :
  Calls Try.prog 43 #[.agg #[.int .i64 a0_0, .slice A0_1 l0_1.length c0_1]] w fun e w' => ∃ v1_ : Value, e = .returned (.tuple #[.agg #[.int .i64 r1, v1_], .bool r3]) ∧ Kd.R k71 71 w' w.heap.size (fun _ => True) v1_ r2 ∧ Below w.heap.size w w' := by
 have hu30 := Try.underlying30
 have hu90 := Try.underlying90
 have HR0_1 := Aside0.mk hr0_1
 have HC0_1 := Aside0.mk hc0_1
 clear hr0_1 hc0_1
 have HB := am (Below.refl w.heap.size w)
 have H : ((impl_IsGraph.f k a0_0 l0_1).bind fun t103 => (if t103 = true then ((impl_netOf.f k a0_0 l0_1).bind fun t104 => ((impl_graphBy_ComplementOf.f k a0_0 t104).bind fun bt108 => (some (bt108.1, bt108.2, true)))) else (some (0, ([] : List (S71)), false)))) = some (r1, r2, r3) := h
 clear h
 replace H := (ob H)
 obtain ⟨t103, A20, H⟩ := H
 (try dsimp only at H)
 have A2 := Aside0.mk A20
 clear A20
 have HU3 := Aside0.mk H
 clear H
 go_enter Try.func43, Try.ntmps43
 go_upto_if 7 with (first | ((with_reducible refine gate_dst (N := 1) rfl ?_); refine box_event (by rfl) (N := 1) (by rfl) (cs := #[.int .i64 a0_0, .slice A0_1 l0_1.length c0_1]) (t := 30) Qr ?_; intro gb101 hg w4 hbox hb; have BK101 := am (hbox); have GE101 := ge HB hg; replace HB := bs HB hb; clear hb hbox hg) | ((with_reducible refine gate_dst (N := 2) rfl ?_); refine box_event (by rfl) (N := 2) (by rfl) (cs := #[.int .i64 0, .slice none 0 0]) (t := 30) Qr ?_; intro gb102 hg w5 hbox hb; have BK102 := am (hbox); have GE102 := ge HB hg; replace HB := bs HB hb; obtain ⟨NB101_102, NB102_101⟩ := ne2 BK101 hg; replace BK101 := bb BK101 hb; clear hb hbox hg; obtain ⟨_, _⟩ := o2 NB101_102 NB102_101; obtain ⟨_, _, _, _⟩ := b2 BK101) | ((with_reducible refine gate_callee (f := 71) rfl ?_); refine goesL_ (some 6) rfl rfl Try.func71 (by kernel_rfl) rfl #[.agg #[.int .i64 a0_0, .slice A0_1 l0_1.length c0_1]] rfl Q6 ?_; (with_reducible refine (impl_IsGraph.calls k a0_0 _ _ l0_1 t103 _ ?side1 ?side2 A2.out).mono ?_); (case side1 => exact (Q11 HR0_1 HB)); (case side2 => exact HC0_1.out); rintro e w8 ⟨rfl, hb⟩; refine ⟨_, rfl, ?_⟩; replace BK101 := bb BK101 hb; replace BK102 := bb BK102 hb; replace HB := bs HB hb; (try clear hb)))
 (try simp only [Act.put, List.setIfInBounds_toArray, List.set_cons_zero, List.set_cons_succ])
 have H := HU3.out
 clear HU3
 by_cases c9 : t103 = true
 ·subst c9
  have H1 : ((impl_netOf.f k a0_0 l0_1).bind fun t104 => ((impl_graphBy_ComplementOf.f k a0_0 t104).bind fun bt108 => (some (bt108.1, bt108.2, true)))) = some (r1, r2, r3) := by rw [if_pos rfl] at H; exact H
  clear H; have H := H1; clear H1; replace H := (ob H); obtain ⟨t104, A100, H⟩ := H; (try dsimp only at H); have A10 := Aside0.mk A100; clear A100; replace H := (ob H); obtain ⟨⟨t108, t109⟩, A110, H⟩ := H; (try dsimp only at H); have A11 := Aside0.mk A110; clear A110
  simp only [Option.some.injEq, Prod.mk.injEq] at H
  obtain ⟨rfl, rfl, rfl⟩ := H; obtain ⟨_, _⟩ := o2 NB101_102 NB102_101; obtain ⟨_, _, _, _⟩ := b2 BK101
  go_wp2_with (first | ((with_reducible refine gate_callee (f := 101) rfl ?_); refine goesL_ (some 10) rfl rfl Try.func101 (by kernel_rfl) rfl #[.agg #[.int .i64 a0_0, .slice A0_1 l0_1.length c0_1]] rfl Q6 ?_; (with_reducible refine (impl_netOf.calls k a0_0 _ _ l0_1 t104 _ ?side1 ?side2 A10.out).mono ?_); (case side1 => exact (Q11 HR0_1 HB)); (case side2 => exact HC0_1.out); rintro e w14 ⟨v105, rfl, ho0, hb⟩; refine ⟨_, rfl, ?_⟩; have HO106 := am (Kd.R_lower ho0 (below_size (Q1 HB))); replace BK101 := bb BK101 hb; replace BK102 := bb BK102 hb; replace HB := bs HB hb; (try clear hb); (try clear ho0)) | ((with_reducible refine gate_dst (N := 4) rfl ?_); refine box_event (by rfl) (N := 4) (by rfl) (cs := #[.slice none 0 0]) (t := 90) Qr ?_; intro gb107 hg w15 hbox hb; replace HO106 := am (Kd.R_below (Q5 HO106) hb); have BK107 := am (hbox); have GE107 := ge HB hg; replace HB := bs HB hb; obtain ⟨NB101_107, NB107_101⟩ := ne2 BK101 hg; replace BK101 := bb BK101 hb; obtain ⟨NB102_107, NB107_102⟩ := ne2 BK102 hg; replace BK102 := bb BK102 hb; clear hb hbox hg; obtain ⟨Ao16, co16, eo16⟩ := Kd.R_slice HO106.out; subst eo16; obtain ⟨_, _, _, _⟩ := o4 NB107_101 NB101_107 NB107_102 NB102_107; obtain ⟨_, _⟩ := b1 BK107; obtain ⟨_, _, _, _⟩ := b2 BK101) | ((with_reducible refine gate_callee (f := 108) rfl ?_); refine goesL_ (some 14) rfl rfl Try.func108 (by kernel_rfl) rfl #[.int .i64 a0_0, .func (.func 135) #[] #[.pointer (some ⟨gb107, 0, none⟩)]] rfl Q6 ?_; (with_reducible refine (impl_graphBy_ComplementOf.calls k a0_0 gb107 Ao16 co16 t104 t108 t109 _ ?side1 ?side2 ?side3 A11.out).mono ?_); (case side1 => exact rx HO106 (Q195 HO106 BK107)); (case side2 => exact (Kd.R_reads' HO106.out).2.1); (case side3 => exact by (with_reducible repeat (first | refine blk_drewN ?_ _ | refine blk_drew ?_ | refine blk_alloc ?_ _)); refine blk_put (cs := #[.slice none 0 0]) ?_ 0 _ rfl; (with_reducible repeat (first | refine blk_drewN ?_ _ | refine blk_drew ?_ | refine blk_alloc ?_ _)); exact BK107.out); rintro e w21 ⟨v110, rfl, ho0, hb⟩; refine ⟨_, rfl, ?_⟩; replace HO106 := am (Kd.R_below (Q195 HO106 BK107) hb); have HO111 := am (Kd.R_lower ho0 (below_size (Q4 HB GE107))); replace BK101 := B26 NB101_107 BK101 hb; replace BK102 := B26 NB102_107 BK102 hb; replace BK107 := am (blk_below (g := gb107) (o := .cells #[.slice Ao16 t104.length co16] 90 (0, 0)) (Q152 BK107) hb); replace HB := am (below_step (Q4 HB GE107) hb); (try clear hb); (try clear ho0); obtain ⟨_, _, _, _⟩ := b2 BK102; obtain ⟨Ao23, co23, eo23⟩ := Kd.R_slice HO111.out; subst eo23))
  refine bodyPost_ret (results_ct rfl _ _ gb102 30 #[.int .i64 t108, .slice Ao23 t109.length co23] (0, 0) _ rfl (by (with_reducible repeat (first | refine blk_drewN ?_ _ | refine blk_drew ?_ | refine blk_alloc ?_ _)); refine blk_put (cs := #[.int .i64 t108, .slice none 0 0]) ?_ 1 _ rfl; (with_reducible repeat (first | refine blk_drewN ?_ _ | refine blk_drew ?_ | refine blk_alloc ?_ _)); refine blk_put (cs := #[.int .i64 0, .slice none 0 0]) ?_ 0 _ rfl; (with_reducible repeat (first | refine blk_drewN ?_ _ | refine blk_drew ?_ | refine blk_alloc ?_ _)); exact BK102.out) Try.underlying30 rfl (by kernel_rfl)) rfl ?_; exact ⟨_, Q19, by (with_reducible repeat (first | apply Kd.R_alloc | apply Kd.R_drewN | apply Kd.R_drew)); exact Kd.R_mono (Kd.R_far (p := ⟨gb102, 1, none⟩) (Kd.R_far (p := ⟨gb102, 0, none⟩) (Kd.R_types HO111.out BK102.out (by decide)) (fun _ hk => hk.2) (.int .i64 t108)) (fun _ hk => hk.2) (.slice Ao23 t109.length co23)) (fun _ hk => trivial), Q4 HB GE102⟩
 ·replace c9 := Bool.eq_false_iff.mpr c9
  subst c9; have H1 : (some (0, ([] : List (S71)), false)) = some (r1, r2, r3) := by rw [if_neg (show ¬ (false = true) by decide)] at H; exact H
  clear H; have H := H1; clear H1
  simp only [Option.some.injEq, Prod.mk.injEq] at H
  obtain ⟨rfl, rfl, rfl⟩ := H; obtain ⟨_, _⟩ := o2 NB102_101 NB101_102; obtain ⟨_, _, _, _⟩ := b2 BK102
  go_wp2
  refine bodyPost_ret (results_ct rfl _ _ gb102 30 #[.int .i64 0, .slice none 0 0] (0, 0) _ rfl (Q99 BK102) Try.underlying30 rfl (by kernel_rfl)) rfl ?_; exact ⟨_, Q19, Q147, Q4 HB GE102⟩
/-! ### impl_net_around: function 185 -/
def impl_net_around.l0 : Nat → Int → Int → List Int → Int → Int → Option (Int)
 | 0, _, _, _, _, _ => none
 | k + 1, x1, x5, x10, x11, x12 => if x12 < x11 then (if 0 ≤ x12 then (if x12 < (x10.length : Int) then (if (Go.bits .and .i64 (shr .i64 x1 x12) 1) = 1 then (impl_net_around.l0 k x1 (Go.bits .or .i64 x5 (rd x10 x12)) x10 x11 (wrap64 (x12 + 1))) else (impl_net_around.l0 k x1 x5 x10 x11 (wrap64 (x12 + 1)))) else (none)) else (none)) else (some x5)
def impl_net_around.f (k : Nat) (l0_0 : List Int) (a1 : Int) : Option (Int) := impl_net_around.l0 k a1 a1 l0_0 (l0_0.length : Int) 0
theorem impl_net_around.mono_l : ∀ k, (∀ y0 y1 y2 y3 y4, LeO (impl_net_around.l0 k y0 y1 y2 y3 y4) (impl_net_around.l0 (k + 1) y0 y1 y2 y3 y4))
 | 0 => fun _ _ _ _ _ r h => by simp [impl_net_around.l0] at h
 | k + 1 => by
  have ih0 := impl_net_around.mono_l k
  all_goals
   intros
   first | unfold impl_net_around.l0
   repeat' first | (with_reducible first | exact ih0 _ _ _ _ _ | exact LeO.refl _ | exact LeO.none _ | refine LeO.ite ?_ ?_ | refine LeO.bind ?_ (fun _ => ?_))
theorem impl_net_around.mono : ∀ a0 a1 k, LeO (impl_net_around.f k a0 a1) (impl_net_around.f (k + 1) a0 a1) := by
 intro a0 a1 k
 have ih0 := impl_net_around.mono_l k
 unfold impl_net_around.f
 repeat' first | (with_reducible first | exact ih0 _ _ _ _ _ | exact LeO.refl _ | exact LeO.none _ | refine LeO.ite ?_ ?_ | refine LeO.bind ?_ (fun _ => ?_))
set_option maxHeartbeats 8000000 in
set_option maxRecDepth 100000 in
theorem impl_net_around.calls (k : Nat) (A0_0 : Option Addr) (c0_0 : Nat) (l0_0 : List Int) (a1 : Int) (r : Int) (w : World) (hr0_0 : Kd.C (Kd.int .i64) w A0_0 l0_0.length l0_0) (hc0_0 : l0_0.length ≤ c0_0) (h : impl_net_around.f k l0_0 a1 = some r) :
  Calls Try.prog 185 #[.agg #[.slice A0_0 l0_0.length c0_0], .int .i64 a1] w fun e w' => e = .returned (.int .i64 r) ∧ Below w.heap.size w w' := by
 have hu90 := Try.underlying90
 have HR0_0 := Aside0.mk hr0_0
 have HC0_0 := Aside0.mk hc0_0
 clear hr0_0 hc0_0
 have HB := am (Below.refl w.heap.size w)
 have H : (impl_net_around.l0 k a1 a1 l0_0 (l0_0.length : Int) 0) = some r := h
 clear h
 have H' := Aside0.mk H
 clear H
 go_enter Try.func185, Try.ntmps185
 go_wp2_with (first | ((with_reducible refine gate_dst (N := 2) rfl ?_); refine box_event (by rfl) (N := 2) (by rfl) (cs := #[.slice A0_0 l0_0.length c0_0]) (t := 90) Qr ?_; intro gb101 hg w3 hbox hb; have BK101 := am (hbox); replace HB := bs HB hb; clear hb hbox hg; obtain ⟨_, _⟩ := b1 BK101))
 go_loopg [5, 12] k (fun kq v5 v12 w' => ∃ (x5_1 : Int) (x12_1 : Int), v5 = .int .i64 x5_1 ∧ v12 = .int .i64 x12_1 ∧ Aside0 (impl_net_around.l0 kq a1 x5_1 l0_0 (l0_0.length : Int) x12_1 = some r) ∧ Aside0 (kq ≤ k) ∧ Aside0 (w'.heap[gb101]? = some (.cells #[(.slice A0_0 l0_0.length c0_0)] 90 (0, 0))) ∧ Aside0 (Below w.heap.size w w'))
 case atStart => exact ⟨(a1), (0), Q17, Q17, H', ⟨Nat.le_refl _⟩, ⟨Q0 BK101⟩, ⟨Q1 HB⟩⟩
 case round =>
  clear H'
  obtain ⟨x5_1, x12_1, rfl, rfl, HA, HK1, BK101, HB⟩ := hrel
  cases gk with
  | zero => exact absurd HA.out (by simp [impl_net_around.l0])
  | succ k1 =>
   have H := HA.out; clear HA
   simp only [impl_net_around.l0] at H
   by_cases c5 : x12_1 < (l0_0.length : Int)
   ·rw [if_pos c5] at H
    have c5b0 := decide_eq_true c5; clear c5
    obtain ⟨c6, H⟩ := ifn H
    have c6b0 := decide_eq_true c6; clear c6
    obtain ⟨c7, H⟩ := ifn H
    have c7b0 := decide_eq_true c7; clear c7; have c8b0 := eq_true (D4 : 0 ≤ x12_1); obtain ⟨ji9, hji9⟩ : ∃ j_ : Int, (shr .i64 a1 x12_1) = j_ := ⟨_, rfl⟩; replace H : (if (Go.bits .and .i64 (ji9) 1) = 1 then (impl_net_around.l0 k1 a1 (Go.bits .or .i64 x5_1 (rd l0_0 x12_1)) l0_0 (l0_0.length : Int) (wrap64 (x12_1 + 1))) else (impl_net_around.l0 k1 a1 x5_1 l0_0 (l0_0.length : Int) (wrap64 (x12_1 + 1)))) = some r := by first | (rw [hji9] at H; exact H) | (simp only [hji9] at H ⊢; exact H)
    have hji9_ : (a1 / 2 ^ min x12_1.toNat 64) = ji9 := hji9; have hji9z : x12_1 ≤ 64 → (a1 / 2 ^ x12_1.toNat) = ji9 := shr_small hji9; have HU10 := Aside0.mk H; clear H; have p102 : 0 ≤ (x12_1 : Int) := D4; have q102 : x12_1 < (l0_0.length : Int) := D4; obtain ⟨ad102, e102, hx102_0⟩ := Kd.at_int HR0_0.out x12_1 p102 q102
    cases e102
    replace hx102_0 := (HB.out.cell (World.block_lt_of_cell? w _ hx102_0)).trans hx102_0; replace p102 := eq_true p102; replace q102 := eq_true q102
    go_upto_if 21 with (fail)
    have H := HU10.out; clear HU10
    by_cases c11 : (Go.bits .and .i64 (ji9) 1) = 1
    ·rw [if_pos c11] at H
     have c11b0 := beq_iff_eq.mpr c11; have c11b1 := bne_eq_false_iff_eq.mpr c11; clear c11
     (first | rw [c11b0] | (simp only [i64_w, i32_w]; rw [c11b0]) | rw [c11b1] | skip)
     have H' := Aside0.mk H; clear H
     go_wp2
     go_roundg k1
     case measure => have := HK1.out; omega
     case rel => exact ⟨(Go.bits .or .i64 x5_1 (rd l0_0 x12_1)), (wrap64 (x12_1 + 1)), Q17, Q17, H', ⟨Q163⟩, ⟨Q0 BK101⟩, ⟨Q1 HB⟩⟩
    ·rw [if_neg c11] at H
     have c11b0 := beq_eq_false_iff_ne.mpr c11; have c11b1 := bne_iff_ne.mpr c11
     (first | rw [c11b0] | (simp only [i64_w, i32_w]; rw [c11b0]) | rw [c11b1] | skip)
     have H' := Aside0.mk H; clear H
     go_wp2
     go_roundg k1
     case measure => have := HK1.out; omega
     case rel => exact ⟨(x5_1), (wrap64 (x12_1 + 1)), Q17, Q17, H', ⟨Q163⟩, ⟨Q0 BK101⟩, ⟨Q1 HB⟩⟩
   ·rw [if_neg c5] at H
    have c5b0 := decide_eq_false c5; clear c5; obtain rfl := Option.some.inj H
    go_wp2
    go_ret
    exact ⟨Q19, Q1 HB⟩
/-! ### impl_net_ball: function 116 -/
def impl_net_ball.l0 : Nat → Int → Int → List Int → Option (Int)
 | 0, _, _, _ => none
 | k + 1, x2, x7, x102000 => if x2 > 0 then ((impl_net_around.f k x102000 x7).bind fun t102 => (if t102 = x7 then (some x7) else (impl_net_ball.l0 k (wrap64 (x2 - 1)) t102 x102000))) else (some x7)
def impl_net_ball.f (k : Nat) (l0_0 : List Int) (a1 : Int) (a2 : Int) : Option (Int) := if 0 ≤ a1 then (impl_net_ball.l0 k a2 (shl .i64 1 a1) l0_0) else (none)
theorem impl_net_ball.mono_l : ∀ k, (∀ y0 y1 y2, LeO (impl_net_ball.l0 k y0 y1 y2) (impl_net_ball.l0 (k + 1) y0 y1 y2))
 | 0 => fun _ _ _ r h => by simp [impl_net_ball.l0] at h
 | k + 1 => by
  have ih0 := impl_net_ball.mono_l k
  all_goals
   intros
   first | unfold impl_net_ball.l0
   repeat' first | (with_reducible first | exact ih0 _ _ _ | exact impl_net_around.mono _ _ _ | exact LeO.refl _ | exact LeO.none _ | refine LeO.ite ?_ ?_ | refine LeO.bind ?_ (fun _ => ?_))
theorem impl_net_ball.mono : ∀ a0 a1 a2 k, LeO (impl_net_ball.f k a0 a1 a2) (impl_net_ball.f (k + 1) a0 a1 a2) := by
 intro a0 a1 a2 k
 have ih0 := impl_net_ball.mono_l k
 unfold impl_net_ball.f
 repeat' first | (with_reducible first | exact ih0 _ _ _ | exact impl_net_around.mono _ _ _ | exact LeO.refl _ | exact LeO.none _ | refine LeO.ite ?_ ?_ | refine LeO.bind ?_ (fun _ => ?_))
set_option maxHeartbeats 8000000 in
set_option maxRecDepth 100000 in
theorem impl_net_ball.calls (k : Nat) (A0_0 : Option Addr) (c0_0 : Nat) (l0_0 : List Int) (a1 : Int) (a2 : Int) (r : Int) (w : World) (hr0_0 : Kd.C (Kd.int .i64) w A0_0 l0_0.length l0_0) (hc0_0 : l0_0.length ≤ c0_0) (h : impl_net_ball.f k l0_0 a1 a2 = some r) :
  Calls Try.prog 116 #[.agg #[.slice A0_0 l0_0.length c0_0], .int .i64 a1, .int .i64 a2] w fun e w' => e = .returned (.int .i64 r) ∧ Below w.heap.size w w' := by
 have hu90 := Try.underlying90
 have HR0_0 := Aside0.mk hr0_0
 have HC0_0 := Aside0.mk hc0_0
 clear hr0_0 hc0_0
 have HB := am (Below.refl w.heap.size w)
 have H : (if 0 ≤ a1 then (impl_net_ball.l0 k a2 (shl .i64 1 a1) l0_0) else (none)) = some r := h
 clear h
 by_cases c4 : 0 ≤ a1
 ·rw [if_pos c4] at H
  have c4b0 := eq_true c4; have c4b1 := decide_eq_true c4; clear c4; obtain ⟨ji5, hji5⟩ : ∃ j_ : Int, (shl .i64 1 a1) = j_ := ⟨_, rfl⟩; replace H : (impl_net_ball.l0 k a2 ji5 l0_0) = some r := by first | (rw [hji5] at H; exact H) | (simp only [hji5] at H ⊢; exact H)
  have hji5_ : (IntKind.i64.wrap (1 * 2 ^ min a1.toNat 64)) = ji5 := hji5; have hji5z : a1 ≤ 64 → (IntKind.i64.wrap (1 * 2 ^ a1.toNat)) = ji5 := shl_small hji5; have hji5u : (IntKind.i64.wrap (2 ^ min a1.toNat 64)) = ji5 := by have h_ := hji5_; rw [Int.one_mul] at h_; exact h_
  have hji5v : a1 ≤ 64 → (IntKind.i64.wrap (2 ^ a1.toNat)) = ji5 := fun hle_ => by have h_ := hji5z hle_; rw [Int.one_mul] at h_; exact h_
  have hji5y : (wrap64 (1 * 2 ^ min a1.toNat 64)) = ji5 := (i64_w _).symm.trans hji5_; have hji5x : a1 ≤ 64 → (wrap64 (1 * 2 ^ a1.toNat)) = ji5 := fun h_ => (i64_w _).symm.trans (hji5z h_)
  have H' := Aside0.mk H; clear H
  go_enter Try.func116, Try.ntmps116
  go_wp2_with (first | ((with_reducible refine gate_dst (N := 3) rfl ?_); refine box_event (by rfl) (N := 3) (by rfl) (cs := #[.slice A0_0 l0_0.length c0_0]) (t := 90) Qr ?_; intro gb101 hg w6 hbox hb; have BK101 := am (hbox); replace HB := bs HB hb; clear hb hbox hg))
  go_loopg [2, 7] k (fun kq v2 v7 w' => ∃ (x2_1 : Int) (x7_1 : Int), v2 = .int .i64 x2_1 ∧ v7 = .int .i64 x7_1 ∧ Aside0 (impl_net_ball.l0 kq x2_1 x7_1 l0_0 = some r) ∧ Aside0 (kq ≤ k) ∧ Aside0 (w'.heap[gb101]? = some (.cells #[(.slice A0_0 l0_0.length c0_0)] 90 (0, 0))) ∧ Aside0 (Below w.heap.size w w'))
  case atStart => exact ⟨(a2), (ji5), Q17, (by first | rfl | (simp; done) | (simp only [← hji5] <;> (first | rfl | simp)) | (simp [*]; done)), H', ⟨Nat.le_refl _⟩, ⟨Q0 BK101⟩, ⟨Q1 HB⟩⟩
  case round =>
   clear H'
   obtain ⟨x2_1, x7_1, rfl, rfl, HA, HK1, BK101, HB⟩ := hrel
   cases gk with
   | zero => exact absurd HA.out (by simp [impl_net_ball.l0])
   | succ k1 =>
    have H := HA.out; clear HA
    simp only [impl_net_ball.l0] at H
    by_cases c7 : x2_1 > 0
    ·rw [if_pos c7] at H
     have c7b0 : decide (0 < x2_1) = true := decide_eq_true c7; clear c7; replace H := (ob H); obtain ⟨t102, A80, H⟩ := H; (try dsimp only at H); have A8 := Aside0.mk A80; clear A80; have HU9 := Aside0.mk H; clear H; obtain ⟨_, _⟩ := b1 BK101
     go_upto_if 20 with (first | ((with_reducible refine gate_callee (f := 185) rfl ?_); refine goesL_ (some 17) rfl rfl Try.func185 (by kernel_rfl) rfl #[.agg #[.slice A0_0 l0_0.length c0_0], .int .i64 x7_1] rfl Q6 ?_; (with_reducible refine (impl_net_around.calls k1 _ _ l0_0 x7_1 t102 _ ?side1 ?side2 A8.out).mono ?_); (case side1 => exact (Q11 HR0_0 HB)); (case side2 => exact HC0_0.out); rintro e w11 ⟨rfl, hb⟩; refine ⟨_, rfl, ?_⟩; replace BK101 := bb BK101 hb; replace HB := bs HB hb; (try clear hb)))
     (try simp only [Act.put, List.setIfInBounds_toArray, List.set_cons_zero, List.set_cons_succ]); have H := HU9.out; clear HU9
     by_cases c12 : t102 = x7_1
     ·rw [if_pos c12] at H
      have c12b0 := beq_iff_eq.mpr c12; have c12b1 := bne_eq_false_iff_eq.mpr c12; clear c12
      (first | rw [c12b0] | (simp only [i64_w, i32_w]; rw [c12b0]) | rw [c12b1] | skip)
      obtain rfl := Option.some.inj H
      go_wp2
      go_ret
      exact ⟨Q200, Q1 HB⟩
     ·rw [if_neg c12] at H
      have c12b0 := beq_eq_false_iff_ne.mpr c12; have c12b1 := bne_iff_ne.mpr c12
      (first | rw [c12b0] | (simp only [i64_w, i32_w]; rw [c12b0]) | rw [c12b1] | skip)
      have H' := Aside0.mk H; clear H
      go_wp2
      go_roundg k1
      case measure => have := HK1.out; omega
      case rel => exact ⟨(wrap64 (x2_1 - 1)), (t102), Q17, Q17, H', ⟨Q163⟩, ⟨Q0 BK101⟩, ⟨Q1 HB⟩⟩
    ·rw [if_neg c7] at H
     have c7b0 : decide (0 < x2_1) = false := decide_eq_false c7; clear c7; obtain rfl := Option.some.inj H
     go_wp2
     go_ret
     exact ⟨Q200, Q1 HB⟩
 ·rw [if_neg c4] at H
  exact absurd H (by simp)
/-! ### bits_Mul64: function 240 -/
def bits_Mul64.f (a0 : Int) (a1 : Int) : Option (Int × Int) := some (IntKind.u64.wrap ((IntKind.u64.wrap ((IntKind.u64.wrap ((a0 / 4294967296) * (a1 / 4294967296))) + ((IntKind.u64.wrap ((IntKind.u64.wrap ((a0 / 4294967296) * (Go.bits .and .u64 a1 4294967295))) + ((IntKind.u64.wrap ((Go.bits .and .u64 a0 4294967295) * (Go.bits .and .u64 a1 4294967295))) / 4294967296))) / 4294967296))) + ((IntKind.u64.wrap ((Go.bits .and .u64 (IntKind.u64.wrap ((IntKind.u64.wrap ((a0 / 4294967296) * (Go.bits .and .u64 a1 4294967295))) + ((IntKind.u64.wrap ((Go.bits .and .u64 a0 4294967295) * (Go.bits .and .u64 a1 4294967295))) / 4294967296))) 4294967295) + (IntKind.u64.wrap ((Go.bits .and .u64 a0 4294967295) * (a1 / 4294967296))))) / 4294967296)), IntKind.u64.wrap (a0 * a1))
set_option maxHeartbeats 8000000 in
set_option maxRecDepth 100000 in
theorem bits_Mul64.calls (a0 : Int) (a1 : Int) (r1 : Int) (r2 : Int) (w : World) (h : bits_Mul64.f a0 a1 = some (r1, r2)) :
  Calls Try.prog 240 #[.int .u64 a0, .int .u64 a1] w fun e w' => e = .returned (.tuple #[.int .u64 r1, .int .u64 r2]) ∧ Drawn0 w w' := by
 have H : (some (IntKind.u64.wrap ((IntKind.u64.wrap ((IntKind.u64.wrap ((a0 / 4294967296) * (a1 / 4294967296))) + ((IntKind.u64.wrap ((IntKind.u64.wrap ((a0 / 4294967296) * (Go.bits .and .u64 a1 4294967295))) + ((IntKind.u64.wrap ((Go.bits .and .u64 a0 4294967295) * (Go.bits .and .u64 a1 4294967295))) / 4294967296))) / 4294967296))) + ((IntKind.u64.wrap ((Go.bits .and .u64 (IntKind.u64.wrap ((IntKind.u64.wrap ((a0 / 4294967296) * (Go.bits .and .u64 a1 4294967295))) + ((IntKind.u64.wrap ((Go.bits .and .u64 a0 4294967295) * (Go.bits .and .u64 a1 4294967295))) / 4294967296))) 4294967295) + (IntKind.u64.wrap ((Go.bits .and .u64 a0 4294967295) * (a1 / 4294967296))))) / 4294967296)), IntKind.u64.wrap (a0 * a1))) = some (r1, r2) := h
 clear h
 simp only [Option.some.injEq, Prod.mk.injEq] at H
 obtain ⟨rfl, rfl⟩ := H
 go_enter Try.func240, Try.ntmps240
 go_wp2
 go_ret2
 exact ⟨Q17, Q51⟩
/-! ### bits_Mul: function 216 -/
def bits_Mul.f (a0 : Int) (a1 : Int) : Option (Int × Int) := (bits_Mul64.f a0 a1).bind fun bt101 => (some (bt101.1, bt101.2))
set_option maxHeartbeats 8000000 in
set_option maxRecDepth 100000 in
theorem bits_Mul.calls (a0 : Int) (a1 : Int) (r1 : Int) (r2 : Int) (w : World) (h : bits_Mul.f a0 a1 = some (r1, r2)) :
  Calls Try.prog 216 #[.int .u64 a0, .int .u64 a1] w fun e w' => e = .returned (.tuple #[.int .u64 r1, .int .u64 r2]) ∧ Drawn0 w w' := by
 have H : ((bits_Mul64.f a0 a1).bind fun bt101 => (some (bt101.1, bt101.2))) = some (r1, r2) := h
 clear h
 replace H := (ob H)
 obtain ⟨⟨t101, t102⟩, A30, H⟩ := H
 (try dsimp only at H)
 have A3 := Aside0.mk A30
 clear A30
 simp only [Option.some.injEq, Prod.mk.injEq] at H
 obtain ⟨rfl, rfl⟩ := H
 go_enter Try.func216, Try.ntmps216
 go_wp2_with (first | ((with_reducible refine gate_callee (f := 240) rfl ?_); refine goesL_ (some 25) rfl rfl Try.func240 (by kernel_rfl) rfl #[.int .u64 a0, .int .u64 a1] rfl Q6 ?_; (with_reducible refine (bits_Mul64.calls a0 a1 t101 t102 _ A3.out).mono ?_); rintro e w' ⟨rfl, ⟨nd, rfl⟩⟩; refine ⟨_, rfl, ?_⟩))
 go_ret2
 exact ⟨Q17, Q51⟩
/-! ### slices_Repeat_int_int: function 195 -/
/-- A list of one number, so many times. -/
def slices_Repeat_int_int.f (l0 : List Int) (a1 : Int) : Option (List Int) := if l0.length = 1 ∧ 0 ≤ a1 ∧ a1 ≤ 8 then some (List.replicate a1.toNat (rd l0 0)) else none
theorem rep_all : ((List.range 9).all fun n => bits_Mul.f 1 (n : Int) == some (0, (n : Int))) = true := by kernel_rfl
theorem rep_mul (n : Nat) (h : n ≤ 8) : bits_Mul.f 1 (n : Int) = some (0, (n : Int)) := eq_of_beq (List.all_eq_true.1 rep_all n (List.mem_range.2 (by omega)))
theorem rep_shape {W : World} {base n B : Nat} {ok : Nat → Prop} {v : Value} {xs : List Int} (ho : Kd.R (Kd.int .i64) 3 W base ok v xs) (hx : xs.length = n) (hnew : ∃ b, v.ownBlock = some b ∧ B ≤ b) : ∃ g cap, ∃ cur : List Value, v = .slice (some ⟨g, 0, none⟩) n cap ∧ base ≤ g ∧ W.heap[g]? = some (.cells cur.toArray 3 (0, 0)) ∧ n ≤ cap ∧ cap ≤ maxLen ∧ cur.length = cap := by
 obtain ⟨_, h⟩ := Kd.own_of_R ho
 rw [hx] at h
 rcases h with ⟨rfl, _⟩ | ⟨g, cap, cur, rfl, h1, h2, h3, h4, h5, _⟩
 ·obtain ⟨b, hb, _⟩ := hnew
  cases hb
 ·exact ⟨g, cap, cur.toList, rfl, h1, by simpa using h2, h3, h4, by simpa using h5⟩
theorem rep_own {W : World} {base n : Nat} {g cap : Nat} {cur : List Value} {x0 : Int} (hb : base ≤ g) (hk : W.heap[g]? = some (.cells cur.toArray 3 (0, 0))) (h1 : n ≤ cap) (h2 : cap ≤ maxLen) (h3 : cur.length = cap) (h : ∀ j, j < n → cur[j]? = some (.int .i64 x0)) : Kd.R (Kd.int .i64) 3 W base (fun _ => True) (.slice (some ⟨g, 0, none⟩) n cap) (List.replicate n x0) := by
 have e : cur.take n = encs (Value.int .i64) (List.replicate n x0) := by
  apply List.ext_getElem?
  intro j; rw [List.getElem?_take]
  unfold encs
  rw [List.map_replicate, List.getElem?_replicate]
  by_cases c : j < n
  ·rw [if_pos c, if_pos c]; exact h j c
  ·rw [if_neg c, if_neg c]
 refine Kd.R_of_own (xs := List.replicate n x0) ?_ (fun _ _ => trivial)
 rw [List.length_replicate]
 exact ⟨by simp [encs], .inr ⟨g, cap, cur.toArray, rfl, hb, hk, h1, h2, by simp [h3], by simpa using e⟩⟩
theorem splice_get {cur : List Value} {m : Nat} {u : Value} {k : Nat} (hm : m + k ≤ cur.length) (h : ∀ j, j < m → cur[j]? = some u) : ∀ j, j < m + k → (splice cur m (List.replicate k u))[j]? = some u := by
 intro j hj
 unfold splice
 have hl : (cur.take m).length = m := by rw [List.length_take]; omega
 by_cases c : j < m
 ·rw [List.getElem?_append_left (by omega), List.getElem?_take_of_lt c]
  exact h j c
 ·rw [List.getElem?_append_right (by omega), hl, List.getElem?_append_left (by rw [List.length_replicate]; omega), List.getElem?_replicate, if_pos (by omega)]
theorem rep_src {u v : Value} {k j : Nat} (h : (List.replicate k u)[j]? = some v) : j < k ∧ v = u := by
 rw [List.getElem?_replicate] at h
 by_cases c : j < k
 ·rw [if_pos c] at h
  exact ⟨c, (Option.some.inj h).symm⟩
 ·rw [if_neg c] at h
  cases h
set_option maxHeartbeats 8000000 in
set_option maxRecDepth 100000 in
theorem slices_Repeat_int_int.calls (A0 : Option Addr) (c0 : Nat) (l0 : List Int) (a1 : Int) (r : List Int) (w : World) (hr0 : Kd.C (Kd.int .i64) w A0 l0.length l0) (hc0 : l0.length ≤ c0) (h : slices_Repeat_int_int.f l0 a1 = some r) :
  Calls Try.prog 195 #[.slice A0 l0.length c0, .int .i64 a1] w fun e w' => ∃ v0_ : Value, e = .returned v0_ ∧ Kd.R (Kd.int .i64) 3 w' w.heap.size (fun _ => True) v0_ r ∧ Below w.heap.size w w' := by
 unfold slices_Repeat_int_int.f at h
 by_cases hc : l0.length = 1 ∧ 0 ≤ a1 ∧ a1 ≤ 8
 ·rw [if_pos hc] at h
  obtain rfl := Option.some.inj h; clear h; obtain ⟨hc1, ha0, ha8⟩ := hc; obtain ⟨n, rfl⟩ := Int.eq_ofNat_of_zero_le ha0; have hn8 : n ≤ 8 := by omega
  obtain ⟨x0, rfl⟩ := List.length_eq_one_iff.1 hc1; obtain ⟨ad, rfl, hx0⟩ := Kd.at_int hr0 0 (by decide) (by simp); have HX := am (show w.cell? (ad.add 0) = some (.int .i64 x0) from hx0); clear hx0 hr0 hc0 hc1 ha0 ha8; have HM := am (rep_mul n hn8); have HN := Aside0.mk hn8; have HB := am (Below.refl w.heap.size w); have hwu : IntKind.u64.wrap (n : Int) = n := by rw [IntKind.wrap_u64]; omega
  have hwi : wrap64 (n : Int) = n := by unfold wrap64; omega
  have hwj : IntKind.i64.wrap (n : Int) = n := by rw [IntKind.wrap_i64]; omega
  have hz1 : ((0 : Nat) > 0) = False := by simp
  have hn0 : decide ((n : Int) < 0) = false := decide_eq_false (by omega); have hnb : decide ((n : Int) > 9223372036854775807) = false := decide_eq_false (by omega); have hnc : decide ((n : Int) < 9223372036854775807) = true := decide_eq_true (by omega); have hnd : decide (9223372036854775807 < (n : Int)) = false := decide_eq_false (by omega); rw [show (([x0] : List Int).length) = 1 from rfl]; clear hn8
  go_enter Try.func195, Try.ntmps195
  go_wp2_with (first | ((with_reducible refine gate_callee (f := 216) rfl ?_); refine goesL_ (some 18) rfl rfl Try.func216 (by kernel_rfl) rfl #[.int .u64 1, .int .u64 (n : Int)] rfl Q170 ?_; (with_reducible refine (bits_Mul.calls 1 (n : Int) 0 (n : Int) _ HM.out).mono ?_); rintro e w' ⟨rfl, ⟨nd, rfl⟩⟩; refine ⟨_, rfl, ?_⟩) | ((with_reducible refine gate_dst (N := 30) rfl ?_); refine Kd.R_make (Kd.int .i64) _ 3 rfl (N := 30) rfl 25 _ _ rfl (n : Int) rfl rfl Try.underlying25 (.int .i64 0) 8 info3 rfl (by decide) (by omega) 0 (ok := fun _ => True) (okp := fun _ => True) rfl (fun _ hk => hk) trivial (Int.natCast_nonneg _) (by have := HN.out; simp only [Int.toNat_natCast]; omega) (Below.refl _ _) (Nat.le_refl _) ?_; intro v1 w8 ho hb hg_ hnew_; obtain ⟨g, cap, cur0, hv_, hge, hbk, hcap, hmax, hlen⟩ := rep_shape (n := n) ho (by simp) hnew_; subst hv_; replace HB := bs HB hb; have BK := Aside0.mk hbk; have HCAP := Aside0.mk hcap; have HMAX := Aside0.mk hmax; have HLEN := Aside0.mk hlen; have GE := am (show w.heap.size ≤ g from Nat.le_trans (below_size (pw_below_drewN (Below.refl _ _) nd)) hge); have HX1 := am (show w8.cell? (ad.add 0) = some (.int .i64 x0) from (HB.out.cell (World.block_lt_of_cell? w _ HX.out)).trans HX.out); clear ho hb hg_ hnew_ hge hbk hcap hmax hlen) | ((with_reducible refine gate_builtin (b := .copy) (xs := #[.tmp 31, .tmp 32]) rfl ?_); refine wpList_copy_splice rfl (.tmp 31) (.tmp 32) 25 25 rfl 3 Try.underlying25 (by kernel_rfl) _ _ _ _ _ _ rfl rfl g 0 cur0 3 BK.out (List.replicate (min 1 n) (.int .i64 x0)) List.length_replicate (fun _ => ⟨rfl, ad, rfl, fun j v hj => by obtain ⟨h1, rfl⟩ := rep_src hj; rw [show j = 0 by omega]; exact HX1.out⟩) (by have h1 := HCAP.out; have h2 := HLEN.out; rw [List.length_replicate]; omega) (by intro v hv; rw [List.eq_of_mem_replicate hv]; rfl) w.heap.size w HB.out GE.out ?_; intro w9 hg9 hb9; have BK1 := Aside0.mk hg9.out; clear HB; have HB := Aside0.mk hb9; clear hg9 hb9))
  go_loopg [8] n (fun kq v8 w' => ∃ (m : Nat) (cur : List Value), v8 = .int .i64 (m : Int) ∧ Aside0 (m ≤ n ∧ (0 < n → 0 < m) ∧ n - m ≤ kq ∧ cur.length = cap ∧ ∀ j, j < m → cur[j]? = some (.int .i64 x0)) ∧ Aside0 (w'.heap[g]? = some (.cells cur.toArray 3 (0, 0))) ∧ Aside0 (Below w.heap.size w w'))
  case atStart =>
   refine ⟨min 1 n, splice cur0 0 (List.replicate (min 1 n) (.int .i64 x0)), by simp [goInt], ⟨by omega, by omega, by omega, ?_, ?_⟩, BK1, HB⟩
   ·rw [length_splice _ _ _ (by have h1 := HCAP.out; have h2 := HLEN.out; rw [List.length_replicate]; omega)]
    exact HLEN.out
   ·have := splice_get (cur := cur0) (m := 0) (u := .int .i64 x0) (k := min 1 n) (by have h1 := HCAP.out; have h2 := HLEN.out; omega) (fun j hj => by omega)
    rwa [Nat.zero_add] at this
  case round =>
   obtain ⟨m, cur, rfl, HA, BK2, HB⟩ := hrel
   by_cases hlt : m < n
   ·have HLT := Aside0.mk hlt
    have hcm : (cap = m) = False := by have h1 := HCAP.out; simp; omega
    have c1 : decide ((m : Int) < (n : Int)) = true := decide_eq_true (by omega); have c2 : ((m : Int) < (n : Int)) = True := eq_true (by omega); have c3 : ((m : Int) ≤ (n : Int)) = True := eq_true (by omega); have c4 : (0 ≤ (m : Int)) = True := eq_true (by omega); have c5 : ((m : Int) ≤ (cap : Int)) = True := eq_true (by have h1 := HCAP.out; omega); have c6 : (m ≤ cap) = True := eq_true (by have h1 := HCAP.out; omega); have c7 : (m ≤ n) = True := eq_true (by omega); clear hlt; have BKd := am (blk_drew BK2.out); have HBd := am (below_drew1 HB.out)
    go_wp2
    go_region_law (refine step_copy_splice rfl (.tmp 41) (.tmp 44) 25 25 rfl 3 Try.underlying25 (by kernel_rfl) (some ⟨g, m, none⟩) (some ⟨g, 0, none⟩) (n - m) (cap - m) m cap (by simp [Act.eval, Act.put]) (by simp [Act.eval, Act.put]) g m cur 3 BKd.out (List.replicate (min m (n - m)) (.int .i64 x0)) List.length_replicate (fun _ => ⟨rfl, ⟨g, 0, none⟩, rfl, fun j v hj => by obtain ⟨h1, rfl⟩ := rep_src hj; rw [add_plain]; exact (blk_cell BKd.out j).trans (by simpa using HA.out.2.2.2.2 j (by omega))⟩) (by have h1 := HCAP.out; have h2 := HA.out.2.2.2.1; have h3 := HLT.out; rw [List.length_replicate]; omega) (by intro v hv; rw [List.eq_of_mem_replicate hv]; rfl) w.heap.size w HBd.out GE.out ?_; intro w10 hg10 hb10)
    have BK3 := Aside0.mk hg10.out; have HB3 := Aside0.mk hb10; clear hg10 hb10
    go_wp2
    go_roundg (n - (m + min m (n - m)))
    case measure => have h1 := HA.out; have h2 := HLT.out; omega
    case rel =>
     refine ⟨m + min m (n - m), splice cur m (List.replicate (min m (n - m)) (.int .i64 x0)), ?_, ⟨?_, ?_, Nat.le_refl _, ?_, ?_⟩, BK3, HB3⟩
     ·have h1 := HN.out; have h2 := HLT.out
      simp only [IntKind.wrap_i64, Value.int.injEq, true_and]
      omega
     ·have h2 := HLT.out; omega
     ·have h1 := HA.out; have h2 := HLT.out; omega
     ·have h1 := HCAP.out; have h2 := HA.out.2.2.2.1; have h3 := HLT.out
      rw [length_splice _ _ _ (by rw [List.length_replicate]; omega)]; exact h2
     ·have h1 := HCAP.out; have h2 := HA.out.2.2.2.1; have h3 := HLT.out
      exact splice_get (by omega) HA.out.2.2.2.2
   ·have HLT := Aside0.mk hlt
    have c1 : decide ((m : Int) < (n : Int)) = false := decide_eq_false (by omega); have c2 : ((m : Int) < (n : Int)) = False := eq_false (by omega); clear hlt
    go_wp2
    go_ret
    refine ⟨_, rfl, ?_, HB.out⟩; have h1 := HA.out; have h2 := HLT.out; obtain rfl : m = n := by omega
    exact rep_own GE.out BK2.out HCAP.out HMAX.out h1.2.2.2.1 h1.2.2.2.2
 ·rw [if_neg hc] at h
  cases h
end Go.Proofs.Ytcjddikalgnhpaa.P
