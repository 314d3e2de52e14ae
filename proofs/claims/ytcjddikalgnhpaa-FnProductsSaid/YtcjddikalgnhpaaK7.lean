/- Functions of the program as Lean functions, that each call comes to what they say, and what holds of them; part 7 of 15; no conditions beyond those that each theorem names. -/
import Derived.ChangeKeysEq
import Derived.Test.YtcjddikalgnhpaaK1
import Derived.Test.YtcjddikalgnhpaaK6
namespace Go.Proofs.Ytcjddikalgnhpaa.P
open Go.RowKit Go.Proofs.YtcjddikalgnhpaaW.PrintWords Go.Proofs.YtcjddikalgnhpaaW.PrintLast Go.Proofs.YtcjddikalgnhpaaW.PrintMore
attribute [local go_sem] max2_int min2_int max_two min_two max_three min_three max_four min_four   -- for this text's walks alone
set_option linter.unusedVariables false
set_option linter.unusedSimpArgs false
/-! ### spec_l2Dist: function 157 -/
mutual
def spec_l2Dist.l0 : Nat → List (List Int) → Int → Int → List (S71) → Option ((List (List Int)))
 | 0, _, _, _, _ => none
 | k + 1, x3, x4, x102000, x102001 => if x4 < x102000 then (spec_l2Dist.l1 k x3 x4 (([] : List Int)) 0 x102000 x102001) else (some x3)
def spec_l2Dist.l1 : Nat → List (List Int) → Int → List Int → Int → Int → List (S71) → Option ((List (List Int)))
 | 0, _, _, _, _, _, _ => none
 | k + 1, x3, x4, x5, x6, x102000, x102001 => if x6 < x102000 then (if x5.length < 17592186044416 then (spec_l2Dist.l1 k x3 x4 (x5 ++ [(-1)]) (wrap64 (x6 + 1)) x102000 x102001) else (none)) else (if 0 ≤ x4 then (if x4 < (x5.length : Int) then (spec_l2Dist.l2 k x3 x4 (x5.set (x4 : Int).toNat 0) 0 x102000 x102001) else (none)) else (none))
def spec_l2Dist.l2 : Nat → List (List Int) → Int → List Int → Int → Int → List (S71) → Option ((List (List Int)))
 | 0, _, _, _, _, _, _ => none
 | k + 1, x3, x4, x5, x7, x102000, x102001 => if x7 < x102000 then (spec_l2Dist.l3 k x3 x4 x5 x7 0 x102000 x102001) else (if x3.length < 5864062014805 then (spec_l2Dist.l0 k (x3 ++ [x5]) (wrap64 (x4 + 1)) x102000 x102001) else (none))
def spec_l2Dist.l3 : Nat → List (List Int) → Int → List Int → Int → Int → Int → List (S71) → Option ((List (List Int)))
 | 0, _, _, _, _, _, _, _ => none
 | k + 1, x3, x4, x5, x7, x8, x102000, x102001 => if x8 < x102000 then (spec_l2Dist.l4 k x3 x4 x5 x7 x8 0 x102000 x102001) else (spec_l2Dist.l2 k x3 x4 x5 (wrap64 (x7 + 1)) x102000 x102001)
def spec_l2Dist.l4 : Nat → List (List Int) → Int → List Int → Int → Int → Int → Int → List (S71) → Option ((List (List Int)))
 | 0, _, _, _, _, _, _, _, _ => none
 | k + 1, x3, x4, x5, x7, x8, x9, x102000, x102001 => if x9 < x102000 then (if 0 ≤ x8 then (if x8 < (x5.length : Int) then (if (rd x5 x8) = x7 then (if 0 ≤ x9 then (if x9 < (x5.length : Int) then (if (rd x5 x9) < 0 then ((spec_l2Near.f k x102000 x102001 x8 x9).bind fun t117 => (if t117 = true then (spec_l2Dist.l4 k x3 x4 (x5.set (x9 : Int).toNat (wrap64 (x7 + 1))) x7 x8 (wrap64 (x9 + 1)) x102000 x102001) else (spec_l2Dist.l4 k x3 x4 x5 x7 x8 (wrap64 (x9 + 1)) x102000 x102001))) else (spec_l2Dist.l4 k x3 x4 x5 x7 x8 (wrap64 (x9 + 1)) x102000 x102001)) else (none)) else (none)) else (spec_l2Dist.l4 k x3 x4 x5 x7 x8 (wrap64 (x9 + 1)) x102000 x102001)) else (none)) else (none)) else (spec_l2Dist.l3 k x3 x4 x5 x7 (wrap64 (x8 + 1)) x102000 x102001)
end
def spec_l2Dist.f (k : Nat) (a0_0 : Int) (l0_1 : List (S71)) : Option ((List (List Int))) := spec_l2Dist.l0 k (([] : List (List Int))) 0 a0_0 l0_1
theorem spec_l2Dist.mono_l : ∀ k, (∀ y0 y1 y2 y3, LeO (spec_l2Dist.l0 k y0 y1 y2 y3) (spec_l2Dist.l0 (k + 1) y0 y1 y2 y3)) ∧ (∀ y0 y1 y2 y3 y4 y5, LeO (spec_l2Dist.l1 k y0 y1 y2 y3 y4 y5) (spec_l2Dist.l1 (k + 1) y0 y1 y2 y3 y4 y5)) ∧ (∀ y0 y1 y2 y3 y4 y5, LeO (spec_l2Dist.l2 k y0 y1 y2 y3 y4 y5) (spec_l2Dist.l2 (k + 1) y0 y1 y2 y3 y4 y5)) ∧ (∀ y0 y1 y2 y3 y4 y5 y6, LeO (spec_l2Dist.l3 k y0 y1 y2 y3 y4 y5 y6) (spec_l2Dist.l3 (k + 1) y0 y1 y2 y3 y4 y5 y6)) ∧ (∀ y0 y1 y2 y3 y4 y5 y6 y7, LeO (spec_l2Dist.l4 k y0 y1 y2 y3 y4 y5 y6 y7) (spec_l2Dist.l4 (k + 1) y0 y1 y2 y3 y4 y5 y6 y7))
 | 0 => ⟨fun _ _ _ _ r h => by simp [spec_l2Dist.l0] at h, fun _ _ _ _ _ _ r h => by simp [spec_l2Dist.l1] at h, fun _ _ _ _ _ _ r h => by simp [spec_l2Dist.l2] at h, fun _ _ _ _ _ _ _ r h => by simp [spec_l2Dist.l3] at h, fun _ _ _ _ _ _ _ _ r h => by simp [spec_l2Dist.l4] at h⟩
 | k + 1 => by
  obtain ⟨ih0, ih1, ih2, ih3, ih4⟩ := spec_l2Dist.mono_l k; refine ⟨?_, ?_, ?_, ?_, ?_⟩
  all_goals
   intros
   first | unfold spec_l2Dist.l0 | unfold spec_l2Dist.l1 | unfold spec_l2Dist.l2 | unfold spec_l2Dist.l3 | unfold spec_l2Dist.l4
   repeat' first | (with_reducible first | exact ih0 _ _ _ _ | exact ih1 _ _ _ _ _ _ | exact ih2 _ _ _ _ _ _ | exact ih3 _ _ _ _ _ _ _ | exact ih4 _ _ _ _ _ _ _ _ | exact spec_l2Near.mono _ _ _ _ _ | exact LeO.refl _ | exact LeO.none _ | refine LeO.ite ?_ ?_ | refine LeO.bind ?_ (fun _ => ?_))
theorem spec_l2Dist.mono : ∀ a0 a1 k, LeO (spec_l2Dist.f k a0 a1) (spec_l2Dist.f (k + 1) a0 a1) := by
 intro a0 a1 k
 obtain ⟨ih0, ih1, ih2, ih3, ih4⟩ := spec_l2Dist.mono_l k
 unfold spec_l2Dist.f
 repeat' first | (with_reducible first | exact ih0 _ _ _ _ | exact ih1 _ _ _ _ _ _ | exact ih2 _ _ _ _ _ _ | exact ih3 _ _ _ _ _ _ _ | exact ih4 _ _ _ _ _ _ _ _ | exact spec_l2Near.mono _ _ _ _ _ | exact LeO.refl _ | exact LeO.none _ | refine LeO.ite ?_ ?_ | refine LeO.bind ?_ (fun _ => ?_))
set_option maxHeartbeats 8000000 in
set_option maxRecDepth 100000 in
theorem spec_l2Dist.calls (k : Nat) (a0_0 : Int) (A0_1 : Option Addr) (c0_1 : Nat) (l0_1 : List (S71)) (r : List (List Int)) (w : World) (hr0_1 : Kd.C k71 w A0_1 l0_1.length l0_1) (hc0_1 : l0_1.length ≤ c0_1) (h : spec_l2Dist.f k a0_0 l0_1 = some r) :
  Calls Try.prog 157 #[.agg #[.int .i64 a0_0, .slice A0_1 l0_1.length c0_1]] w fun e w' => ∃ v0_ : Value, e = .returned (v0_) ∧ Kd.S (Kd.slice 3 (Kd.int .i64)) 25 w' w.heap.size (fun _ => True) v0_ r ∧ Below w.heap.size w w' := by
 have hu30 := Try.underlying30
 have HR0_1 := Aside0.mk hr0_1
 have HC0_1 := Aside0.mk hc0_1
 clear hr0_1 hc0_1
 have HB := am (Below.refl w.heap.size w)
 have H : (spec_l2Dist.l0 k (([] : List (List Int))) 0 a0_0 l0_1) = some r := h
 clear h
 obtain ⟨y102, hy102⟩ : ∃ y_ : List (List Int), y_ = (([] : List (List Int))) := ⟨_, rfl⟩
 replace H : (spec_l2Dist.l0 k y102 0 a0_0 l0_1) = some r := RH hy102 H
 have Ny102 := Aside0.mk hy102
 clear hy102
 have H' := Aside0.mk H
 clear H
 go_enter Try.func157, Try.ntmps157
 go_wp2_with (first | ((with_reducible refine gate_dst (N := 1) rfl ?_); refine box_event (by rfl) (N := 1) (by rfl) (cs := #[.int .i64 a0_0, .slice A0_1 l0_1.length c0_1]) (t := 30) Qr ?_; intro gb101 hg w2 hbox hb; have BK101 := am (hbox); replace HB := bs HB hb; clear hb hbox hg) | ((with_reducible refine gate_dst (N := 10) rfl ?_); refine Kd.S_lit (Kd.slice 3 (Kd.int .i64)) _ 25 (by rfl) (N := 10) (by rfl) (xs := ([] : List (List Int))) (inner := []) (ok := fun _ => True) (okp := fun _ => True) Qr ?hp (fun _ hk => hk) trivial (Below.refl _ _) (Nat.le_refl _) (by simp) ?_; (case hp => exact (Reps.none _ _)); intro v103 w3 ho4 hb hg_ hnew_; clear hg_ hnew_; (first | rw [← Ny102.out] at ho4 | (simp only [Int.reduceToNat] at ho4; rw [← Ny102.out] at ho4)); have HO104 := am (Kd.S_lower ho4 (below_size (Q1 HB))); replace BK101 := bb BK101 hb; replace HB := bs HB hb; clear hb ho4))
 go_loopg [3, 4] k (fun kq v3 v4 w' => ∃ (x3_1 : List (List Int)) (x4_1 : Int), v4 = .int .i64 x4_1 ∧ Aside0 (spec_l2Dist.l0 kq x3_1 x4_1 a0_0 l0_1 = some r) ∧ Aside0 (kq ≤ k) ∧ Aside0 (Kd.S (Kd.slice 3 (Kd.int .i64)) 25 w' w.heap.size (fun _ => True) v3 x3_1) ∧ Aside0 (w'.heap[gb101]? = some (.cells #[.int .i64 a0_0, (.slice A0_1 l0_1.length c0_1)] 30 (0, 0))) ∧ Aside0 (Below w.heap.size w w'))
 case atStart => exact ⟨(y102), (0), Q17, H', ⟨Nat.le_refl _⟩, ⟨Q10 HO104⟩, ⟨Q0 BK101⟩, ⟨Q1 HB⟩⟩
 case round =>
  clear H'
  obtain ⟨x3_1, x4_1, rfl, HA, HK1, HO_3, BK101, HB⟩ := hrel
  cases gk with
  | zero => exact absurd HA.out (by simp [spec_l2Dist.l0])
  | succ k1 =>
   have H := HA.out; clear HA
   simp only [spec_l2Dist.l0] at H
   by_cases c5 : x4_1 < a0_0
   ·rw [if_pos c5] at H
    have c5b0 := decide_eq_true c5; clear c5; obtain ⟨y105, hy105⟩ : ∃ y_ : List Int, y_ = (([] : List Int)) := ⟨_, rfl⟩; replace H : (spec_l2Dist.l1 k1 x3_1 x4_1 y105 0 a0_0 l0_1) = some r := RH hy105 H; have Ny105 := Aside0.mk hy105; clear hy105; have H' := Aside0.mk H; clear H; obtain ⟨_, _, _, _⟩ := b2 BK101
    go_wp2_with (first | ((with_reducible refine gate_dst (N := 17) rfl ?_); refine Kd.R_lit (Kd.int .i64) _ 3 (by rfl) (N := 17) (by rfl) (xs := ([] : List Int)) (inner := []) (ok := fun _ => True) (okp := fun _ => True) Qr ?hp (fun _ hk => hk) trivial (Below.refl _ _) (Nat.le_refl _) (by simp) ?_; (case hp => exact (Reps.none _ _)); intro v106 w7 ho8 hb hg_ hnew_; clear hg_ hnew_; (first | rw [← Ny105.out] at ho8 | (simp only [Int.reduceToNat] at ho8; rw [← Ny105.out] at ho8)); replace HO_3 := am (Kd.S_elder' Q109 (Kd.R_base ho8) hb); have HO107 := am (Kd.R_lower ho8 (below_size (Q1 HB))); replace BK101 := bb BK101 hb; replace HB := bs HB hb; clear hb ho8))
    go_loopg [5, 6] k1 (fun kq v5 v6 w' => ∃ (x5_2 : List Int) (x6_2 : Int), v6 = .int .i64 x6_2 ∧ Aside0 (spec_l2Dist.l1 kq x3_1 x4_1 x5_2 x6_2 a0_0 l0_1 = some r) ∧ Aside0 (kq ≤ k1) ∧ Aside0 (Kd.S (Kd.slice 3 (Kd.int .i64)) 25 w' w.heap.size (fun k_ => some k_ ≠ (v5 : Value).ownBlock) u3 x3_1) ∧ Aside0 (Kd.R (Kd.int .i64) 3 w' w.heap.size (fun _ => True) v5 x5_2) ∧ Aside0 (w'.heap[gb101]? = some (.cells #[.int .i64 a0_0, (.slice A0_1 l0_1.length c0_1)] 30 (0, 0))) ∧ Aside0 (Below w.heap.size w w'))
    case atStart => exact ⟨(y105), (0), Q17, H', ⟨Nat.le_refl _⟩, ⟨Q183⟩, ⟨Q5 HO107⟩, ⟨Q0 BK101⟩, ⟨Q1 HB⟩⟩
    case round =>
     clear H'
     obtain ⟨x5_2, x6_2, rfl, HA, HK2, HO_3, HO_5, BK101, HB⟩ := hrel
     cases gk with
     | zero => exact absurd HA.out (by simp [spec_l2Dist.l1])
     | succ k2 =>
      have H := HA.out; clear HA
      simp only [spec_l2Dist.l1] at H
      by_cases c9 : x6_2 < a0_0
      ·rw [if_pos c9] at H
       have c9b0 := decide_eq_true c9; clear c9
       obtain ⟨c10, H⟩ := ifn H
       have LMc10 := Aside0.mk c10; clear c10; obtain ⟨y108, hy108⟩ : ∃ y_ : List Int, y_ = (x5_2 ++ [(-1)]) := ⟨_, rfl⟩; replace H : (spec_l2Dist.l1 k2 x3_1 x4_1 y108 (wrap64 (x6_2 + 1)) a0_0 l0_1) = some r := RH hy108 H; have Ny108 := Aside0.mk hy108; clear hy108; have H' := Aside0.mk H; clear H; obtain ⟨_, _, _, _⟩ := b2 BK101
       go_wp2_with (first | ((with_reducible refine gate_builtin (b := .append) (xs := #[.tmp 24, .tmp 25]) rfl ?_); at_builtin; refine Kd.R_append (Kd.int .i64) (w0 := w) w.heap.size rfl (.tmp 24) (.tmp 25) 25 3 (.int .i64 0) 8 rfl Try.underlying25 info3 rfl (by decide) (by omega) u5 x5_2 (-1) [.int .i64 (-1)] (fun _ => True) (fun _ => False) rfl rfl ?aP (fun _ hk => hk.elim) ?aF ?aO ?aB ?aS ?aL ?_; (case aP => exact rfl); (case aB => exact (Q1 HB)); (case aF => exact (fun _ _ => trivial)); (case aO => exact Q194); (case aS => exact (below_size (Q1 HB))); (case aL => have := LMc10.out; omega); intro v109 w12 ho hb hg hat; rw [← Ny108.out] at ho; replace HO_3 := am (Kd.S_after (ok := (fun _ => True)) Q177 hg hat); replace BK101 := am (blk_grown (g := gb101) (o := .cells #[.int .i64 a0_0, .slice A0_1 l0_1.length c0_1] 30 (0, 0)) (Q0 BK101) hg (Kd.R_ne HO_5.out BK101.out (by decide))); replace HB := am (hb); have HO110 := am (ho); clear HO_5; clear ho hb hg hat))
       go_roundg k2
       case measure => have := HK1.out; have := HK2.out; omega
       case rel => exact ⟨(y108), (wrap64 (x6_2 + 1)), Q17, H', ⟨Q168⟩, ⟨Q183⟩, ⟨Q5 HO110⟩, ⟨Q0 BK101⟩, ⟨Q1 HB⟩⟩
      ·rw [if_neg c9] at H
       have c9b0 := decide_eq_false c9; clear c9
       obtain ⟨c13, H⟩ := ifn H
       have c13b0 := decide_eq_true c13; clear c13
       obtain ⟨c14, H⟩ := ifn H
       have c14b0 := decide_eq_true c14; clear c14; obtain ⟨y111, hy111⟩ : ∃ y_ : List Int, y_ = (x5_2.set (x4_1 : Int).toNat 0) := ⟨_, rfl⟩; replace H : (spec_l2Dist.l2 k2 x3_1 x4_1 y111 0 a0_0 l0_1) = some r := RH hy111 H; have Ny111 := Aside0.mk hy111; clear hy111; have H' := Aside0.mk H; clear H; obtain ⟨_, _, _, _⟩ := b2 BK101; have p15 : 0 ≤ (x4_1 : Int) := D4; have q15 : (x4_1 : Int) < ((x5_2.length : Int) : Int) := D4; obtain ⟨go15, co15, eo15, gb15, gl15, cl15, HG15⟩ := Kd.R_form HO_5.out (by omega)
       (first | cases eo15 | (injection eo15 with ea_ en_ ec_; (first | subst ea_ | (injection ea_ with ea_; subst ea_)); subst ec_; clear en_))
       have GB15 := Aside0.mk gb15; have GG15 := Aside0.mk HG15; clear gb15 gl15 HG15; obtain ⟨hx15_0, hf15_0⟩ := Kd.R_celln 0 HO_5.out (x4_1 : Int) p15 q15; replace p15 := eq_true p15; replace q15 := eq_true q15; have HP17 := Kd.R_putg HO_5.out (x4_1 : Int) 0
       go_wp2_with (first | ((with_reducible refine gate_store (t := 3) (p := 29) rfl ?_); refine store_event (t := 3) (p := 29) (v := ?vo_w18) (w1 := (wr.setCell ⟨go15, (x4_1 : Int).toNat, none⟩ (.int .i64 0))) ?hg ?ho ?hn ?hr ?_; (case ho => rfl); (case hg => rfl); (case hn => rfl); (case hr => first | (go_simp; done) | (go_simp; rfl)); intro w18 hw; have hg : wr.grownBy w18 (some go15) := (by rw [hw]; exact HP17.2); have hp_ : Kd.R (Kd.int .i64) 3 w18 w.heap.size (fun _ => True) (.slice (some ⟨go15, 0, none⟩) x5_2.length co15) y111 := (by rw [hw, Ny111.out]; exact HP17.1); clear HP17; replace HO_3 := am (Kd.S_after (v := (.slice (some ⟨go15, 0, none⟩) x5_2.length co15)) (v1 := (.slice (some ⟨go15, 0, none⟩) x5_2.length co15)) (ok := (fun _ => True)) Q177 hg (.inl rfl)); replace BK101 := am (blk_grown (g := gb101) (o := .cells #[.int .i64 a0_0, .slice A0_1 l0_1.length c0_1] 30 (0, 0)) (Q0 BK101) hg (Kd.R_ne HO_5.out BK101.out (by decide))); replace HO_5 := am (hp_); replace HB := am ((by rw [hw]; exact below_set (HB.out) GB15.out : Below w.heap.size w w18)); clear hg hw hp_))
       go_loopg [7] k2 (fun kq v7 w' => ∃ (x5_3 : List Int) (x7_3 : Int), v7 = .int .i64 x7_3 ∧ Aside0 (spec_l2Dist.l2 kq x3_1 x4_1 x5_3 x7_3 a0_0 l0_1 = some r) ∧ Aside0 (kq ≤ k2) ∧ Aside0 (Kd.S (Kd.slice 3 (Kd.int .i64)) 25 w' w.heap.size (fun k_ => some k_ ≠ ((.slice (some ⟨go15, 0, none⟩) x5_2.length co15) : Value).ownBlock) u3 x3_1) ∧ Aside0 (Kd.R (Kd.int .i64) 3 w' w.heap.size (fun _ => True) (.slice (some ⟨go15, 0, none⟩) x5_2.length co15) x5_3) ∧ Aside0 (w'.heap[gb101]? = some (.cells #[.int .i64 a0_0, (.slice A0_1 l0_1.length c0_1)] 30 (0, 0))) ∧ Aside0 (Below w.heap.size w w'))
       case atStart => exact ⟨(y111), (0), Q17, H', ⟨Nat.le_refl _⟩, ⟨Q183⟩, ⟨Q194⟩, ⟨Q0 BK101⟩, ⟨Q1 HB⟩⟩
       case round =>
        clear H'
        obtain ⟨x5_3, x7_3, rfl, HA, HK3, HO_3, HO_5, BK101, HB⟩ := hrel; have hl5_3 := (Kd.R_reads' HO_5.out).1; rw [hl5_3] at HO_5; (try simp only [hl5_3]); (try simp only [hl5_3] at BK101); (try simp only [hl5_3] at HO_3)
        cases gk with
        | zero => exact absurd HA.out (by simp [spec_l2Dist.l2])
        | succ k3 =>
         have H := HA.out; clear HA
         simp only [spec_l2Dist.l2] at H
         by_cases c19 : x7_3 < a0_0
         ·rw [if_pos c19] at H
          have c19b0 := decide_eq_true c19; clear c19; have H' := Aside0.mk H; clear H; obtain ⟨_, _, _, _⟩ := b2 BK101
          go_wp2
          go_loopg [8] k3 (fun kq v8 w' => ∃ (x5_4 : List Int) (x8_4 : Int), v8 = .int .i64 x8_4 ∧ Aside0 (spec_l2Dist.l3 kq x3_1 x4_1 x5_4 x7_3 x8_4 a0_0 l0_1 = some r) ∧ Aside0 (kq ≤ k3) ∧ Aside0 (Kd.S (Kd.slice 3 (Kd.int .i64)) 25 w' w.heap.size (fun k_ => some k_ ≠ ((.slice (some ⟨go15, 0, none⟩) x5_3.length co15) : Value).ownBlock) u3 x3_1) ∧ Aside0 (Kd.R (Kd.int .i64) 3 w' w.heap.size (fun _ => True) (.slice (some ⟨go15, 0, none⟩) x5_3.length co15) x5_4) ∧ Aside0 (w'.heap[gb101]? = some (.cells #[.int .i64 a0_0, (.slice A0_1 l0_1.length c0_1)] 30 (0, 0))) ∧ Aside0 (Below w.heap.size w w'))
          case atStart => exact ⟨(x5_3), (0), Q17, H', ⟨Nat.le_refl _⟩, ⟨by (try simp only [hl5_3]); (with_reducible repeat (first | apply Kd.S_alloc | apply Kd.S_drewN | apply Kd.S_drew)); exact HO_3.out⟩, ⟨by (try simp only [hl5_3]); (with_reducible repeat (first | apply Kd.R_alloc | apply Kd.R_drewN | apply Kd.R_drew)); exact HO_5.out⟩, ⟨by (try simp only [hl5_3]); (with_reducible repeat (first | refine blk_drewN ?_ _ | refine blk_drew ?_ | refine blk_alloc ?_ _)); exact BK101.out⟩, ⟨Q1 HB⟩⟩
          case round =>
           clear H'
           obtain ⟨x5_4, x8_4, rfl, HA, HK4, HO_3, HO_5, BK101, HB⟩ := hrel; have hl5_4 := (Kd.R_reads' HO_5.out).1; rw [hl5_4] at HO_5; (try simp only [hl5_4]); (try simp only [hl5_4] at BK101); (try simp only [hl5_4] at HO_3)
           cases gk with
           | zero => exact absurd HA.out (by simp [spec_l2Dist.l3])
           | succ k4 =>
            have H := HA.out; clear HA
            simp only [spec_l2Dist.l3] at H
            by_cases c21 : x8_4 < a0_0
            ·rw [if_pos c21] at H
             have c21b0 := decide_eq_true c21; clear c21; have H' := Aside0.mk H; clear H; obtain ⟨_, _, _, _⟩ := b2 BK101
             go_wp2
             go_loopg [9] k4 (fun kq v9 w' => ∃ (x5_5 : List Int) (x9_5 : Int), v9 = .int .i64 x9_5 ∧ Aside0 (spec_l2Dist.l4 kq x3_1 x4_1 x5_5 x7_3 x8_4 x9_5 a0_0 l0_1 = some r) ∧ Aside0 (kq ≤ k4) ∧ Aside0 (Kd.S (Kd.slice 3 (Kd.int .i64)) 25 w' w.heap.size (fun k_ => some k_ ≠ ((.slice (some ⟨go15, 0, none⟩) x5_4.length co15) : Value).ownBlock) u3 x3_1) ∧ Aside0 (Kd.R (Kd.int .i64) 3 w' w.heap.size (fun _ => True) (.slice (some ⟨go15, 0, none⟩) x5_4.length co15) x5_5) ∧ Aside0 (w'.heap[gb101]? = some (.cells #[.int .i64 a0_0, (.slice A0_1 l0_1.length c0_1)] 30 (0, 0))) ∧ Aside0 (Below w.heap.size w w'))
             case atStart => exact ⟨(x5_4), (0), Q17, H', ⟨Nat.le_refl _⟩, ⟨Q207⟩, ⟨Q208⟩, ⟨by (try simp only [hl5_3]); (try simp only [hl5_4]); (with_reducible repeat (first | refine blk_drewN ?_ _ | refine blk_drew ?_ | refine blk_alloc ?_ _)); exact BK101.out⟩, ⟨Q1 HB⟩⟩
             case round =>
              clear H'
              obtain ⟨x5_5, x9_5, rfl, HA, HK5, HO_3, HO_5, BK101, HB⟩ := hrel; have hl5_5 := (Kd.R_reads' HO_5.out).1; rw [hl5_5] at HO_5; (try simp only [hl5_5]); (try simp only [hl5_5] at BK101); (try simp only [hl5_5] at HO_3)
              cases gk with
              | zero => exact absurd HA.out (by simp [spec_l2Dist.l4])
              | succ k5 =>
               have H := HA.out; clear HA
               simp only [spec_l2Dist.l4] at H
               by_cases c23 : x9_5 < a0_0
               ·rw [if_pos c23] at H
                have c23b0 := decide_eq_true c23; clear c23
                obtain ⟨c24, H⟩ := ifn H
                have c24b0 := decide_eq_true c24; clear c24
                obtain ⟨c25, H⟩ := ifn H
                have c25b0 := decide_eq_true c25; clear c25
                by_cases c26 : (rd x5_5 x8_4) = x7_3
                ·rw [if_pos c26] at H
                 have c26b0 := beq_iff_eq.mpr c26; have c26b1 := bne_eq_false_iff_eq.mpr c26; clear c26
                 obtain ⟨c27, H⟩ := ifn H
                 have c27b0 := decide_eq_true c27; clear c27
                 obtain ⟨c28, H⟩ := ifn H
                 have c28b0 := decide_eq_true c28; clear c28
                 by_cases c29 : (rd x5_5 x9_5) < 0
                 ·rw [if_pos c29] at H
                  have c29b0 := decide_eq_true c29; clear c29; replace H := (ob H); obtain ⟨t117, A300, H⟩ := H; (try dsimp only at H); have A30 := Aside0.mk A300; clear A300; have HU31 := Aside0.mk H; clear H; obtain ⟨_, _, _, _⟩ := b2 BK101; have p115 : 0 ≤ (x8_4 : Int) := D4; have q115 : x8_4 < (x5_5.length : Int) := D4; obtain ⟨ad115, e115, hx115_0⟩ := Kd.at_int (Kd.R_reads' HO_5.out).2.2 x8_4 p115 q115; obtain rfl : (⟨go15, 0, none⟩ : Addr) = ad115 := (by injection e115)
                  (first | simp only [add_plain] at hx115_0 | simp only [add_at] at hx115_0 | simp only [Addr.add, Nat.zero_add] at hx115_0 | skip)
                  replace p115 := eq_true p115; replace q115 := eq_true q115; have p116 : 0 ≤ (x9_5 : Int) := D4; have q116 : x9_5 < (x5_5.length : Int) := D4; obtain ⟨ad116, e116, hx116_0⟩ := Kd.at_int (Kd.R_reads' HO_5.out).2.2 x9_5 p116 q116; obtain rfl : (⟨go15, 0, none⟩ : Addr) = ad116 := (by injection e116)
                  (first | simp only [add_plain] at hx116_0 | simp only [add_at] at hx116_0 | simp only [Addr.add, Nat.zero_add] at hx116_0 | skip)
                  replace p116 := eq_true p116; replace q116 := eq_true q116
                  go_upto_if 66 with (first | (go_at_call 137; (with_reducible refine (spec_l2Near.calls k5 a0_0 _ _ l0_1 x8_4 x9_5 t117 _ ?side1 ?side2 A30.out).mono ?_); (case side1 => exact (Q11 HR0_1 HB)); (case side2 => exact HC0_1.out); rintro e w33 ⟨rfl, hb⟩; replace HO_3 := am (Kd.S_below Q109 hb); replace HO_5 := am (Kd.R_below Q194 hb); replace BK101 := bb BK101 hb; replace HB := bs HB hb; (try clear hb)))
                  (try simp only [Act.put, List.setIfInBounds_toArray, List.set_cons_zero, List.set_cons_succ]); have H := HU31.out; clear HU31
                  by_cases c34 : t117 = true
                  ·subst c34
                   have H1 : (spec_l2Dist.l4 k5 x3_1 x4_1 (x5_5.set (x9_5 : Int).toNat (wrap64 (x7_3 + 1))) x7_3 x8_4 (wrap64 (x9_5 + 1)) a0_0 l0_1) = some r := by rw [if_pos rfl] at H; exact H
                   clear H; have H := H1; clear H1; obtain ⟨y118, hy118⟩ : ∃ y_ : List Int, y_ = (x5_5.set (x9_5 : Int).toNat (wrap64 (x7_3 + 1))) := ⟨_, rfl⟩; replace H : (spec_l2Dist.l4 k5 x3_1 x4_1 y118 x7_3 x8_4 (wrap64 (x9_5 + 1)) a0_0 l0_1) = some r := RH hy118 H; have Ny118 := Aside0.mk hy118; clear hy118; have H' := Aside0.mk H; clear H; have p35 : 0 ≤ (x9_5 : Int) := D4; have q35 : (x9_5 : Int) < ((x5_5.length : Int) : Int) := D4; obtain ⟨hx35_0, hf35_0⟩ := Kd.R_celln 0 HO_5.out (x9_5 : Int) p35 q35; replace p35 := eq_true p35; replace q35 := eq_true q35; have HP36 := Kd.R_putg HO_5.out (x9_5 : Int) (wrap64 (x7_3 + 1))
                   go_wp2_with (first | ((with_reducible refine gate_store (t := 3) (p := 71) rfl ?_); refine store_event (t := 3) (p := 71) (v := ?vo_w37) (w1 := (w33.setCell ⟨go15, (x9_5 : Int).toNat, none⟩ (.int .i64 (wrap64 (x7_3 + 1))))) ?hg ?ho ?hn ?hr ?_; (case ho => rfl); (case hg => rfl); (case hn => rfl); (case hr => first | (go_simp; done) | (go_simp; rfl)); intro w37 hw; have hg : w33.grownBy w37 (some go15) := (by rw [hw]; exact HP36.2); have hp_ : Kd.R (Kd.int .i64) 3 w37 w.heap.size (fun _ => True) (.slice (some ⟨go15, 0, none⟩) x5_5.length co15) y118 := (by rw [hw, Ny118.out]; exact HP36.1); clear HP36; replace HO_3 := am (Kd.S_after (v := (.slice (some ⟨go15, 0, none⟩) x5_5.length co15)) (v1 := (.slice (some ⟨go15, 0, none⟩) x5_5.length co15)) (ok := (fun _ => True)) Q177 hg (.inl rfl)); replace BK101 := am (blk_grown (g := gb101) (o := .cells #[.int .i64 a0_0, .slice A0_1 l0_1.length c0_1] 30 (0, 0)) (Q0 BK101) hg (Kd.R_ne HO_5.out BK101.out (by decide))); replace HO_5 := am (hp_); replace HB := am ((by rw [hw]; exact below_set (HB.out) GB15.out : Below w.heap.size w w37)); clear hg hw hp_))
                   (try simp only [← hl5_5])
                   go_roundg k5
                   case measure => have := HK1.out; have := HK2.out; have := HK3.out; have := HK4.out; have := HK5.out; omega
                   case rel => exact ⟨(y118), (wrap64 (x9_5 + 1)), Q17, H', ⟨Q165⟩, ⟨by (try simp only [hl5_3]); (try simp only [hl5_4]); (try simp only [hl5_5]); (with_reducible repeat (first | apply Kd.S_alloc | apply Kd.S_drewN | apply Kd.S_drew)); exact Kd.S_mono HO_3.out (fun _ hk => hk.2)⟩, ⟨Q130⟩, ⟨Q129 BK101⟩, ⟨Q1 HB⟩⟩
                  ·replace c34 := Bool.eq_false_iff.mpr c34
                   subst c34; have H1 : (spec_l2Dist.l4 k5 x3_1 x4_1 x5_5 x7_3 x8_4 (wrap64 (x9_5 + 1)) a0_0 l0_1) = some r := by rw [if_neg (show ¬ (false = true) by decide)] at H; exact H
                   clear H; have H := H1; clear H1; have H' := Aside0.mk H; clear H
                   go_wp2
                   (try simp only [← hl5_5])
                   go_roundg k5
                   case measure => have := HK1.out; have := HK2.out; have := HK3.out; have := HK4.out; have := HK5.out; omega
                   case rel => exact ⟨(x5_5), (wrap64 (x9_5 + 1)), Q17, H', ⟨Q165⟩, ⟨Q150⟩, ⟨Q130⟩, ⟨Q129 BK101⟩, ⟨Q1 HB⟩⟩
                 ·rw [if_neg c29] at H
                  have c29b0 := decide_eq_false c29; clear c29; have HU38 := Aside0.mk H; clear H; obtain ⟨_, _, _, _⟩ := b2 BK101; have p115 : 0 ≤ (x8_4 : Int) := D4; have q115 : x8_4 < (x5_5.length : Int) := D4; obtain ⟨ad115, e115, hx115_0⟩ := Kd.at_int (Kd.R_reads' HO_5.out).2.2 x8_4 p115 q115; obtain rfl : (⟨go15, 0, none⟩ : Addr) = ad115 := (by injection e115)
                  (first | simp only [add_plain] at hx115_0 | simp only [add_at] at hx115_0 | simp only [Addr.add, Nat.zero_add] at hx115_0 | skip)
                  replace p115 := eq_true p115; replace q115 := eq_true q115; have p116 : 0 ≤ (x9_5 : Int) := D4; have q116 : x9_5 < (x5_5.length : Int) := D4; obtain ⟨ad116, e116, hx116_0⟩ := Kd.at_int (Kd.R_reads' HO_5.out).2.2 x9_5 p116 q116; obtain rfl : (⟨go15, 0, none⟩ : Addr) = ad116 := (by injection e116)
                  (first | simp only [add_plain] at hx116_0 | simp only [add_at] at hx116_0 | simp only [Addr.add, Nat.zero_add] at hx116_0 | skip)
                  replace p116 := eq_true p116; replace q116 := eq_true q116
                  go_upto_if 66 with (fail)
                  have H := HU38.out; clear HU38; have H' := Aside0.mk H; clear H
                  go_wp2
                  (try simp only [← hl5_5])
                  go_roundg k5
                  case measure => have := HK1.out; have := HK2.out; have := HK3.out; have := HK4.out; have := HK5.out; omega
                  case rel => exact ⟨(x5_5), (wrap64 (x9_5 + 1)), Q17, H', ⟨Q165⟩, ⟨Q150⟩, ⟨Q130⟩, ⟨Q129 BK101⟩, ⟨Q1 HB⟩⟩
                ·rw [if_neg c26] at H
                 have c26b0 := beq_eq_false_iff_ne.mpr c26; have c26b1 := bne_iff_ne.mpr c26; have HU40 := Aside0.mk H; clear H; obtain ⟨_, _, _, _⟩ := b2 BK101; have p115 : 0 ≤ (x8_4 : Int) := D4; have q115 : x8_4 < (x5_5.length : Int) := D4; obtain ⟨ad115, e115, hx115_0⟩ := Kd.at_int (Kd.R_reads' HO_5.out).2.2 x8_4 p115 q115; obtain rfl : (⟨go15, 0, none⟩ : Addr) = ad115 := (by injection e115)
                 (first | simp only [add_plain] at hx115_0 | simp only [add_at] at hx115_0 | simp only [Addr.add, Nat.zero_add] at hx115_0 | skip)
                 replace p115 := eq_true p115; replace q115 := eq_true q115
                 go_upto_if 66 with (fail)
                 have H := HU40.out; clear HU40; have H' := Aside0.mk H; clear H
                 go_wp2
                 (try simp only [← hl5_5])
                 go_roundg k5
                 case measure => have := HK1.out; have := HK2.out; have := HK3.out; have := HK4.out; have := HK5.out; omega
                 case rel => exact ⟨(x5_5), (wrap64 (x9_5 + 1)), Q17, H', ⟨Q165⟩, ⟨Q150⟩, ⟨Q130⟩, ⟨Q129 BK101⟩, ⟨Q1 HB⟩⟩
               ·rw [if_neg c23] at H
                have c23b0 := decide_eq_false c23; clear c23; have H' := Aside0.mk H; clear H; obtain ⟨_, _, _, _⟩ := b2 BK101
                go_wp2
                (try simp only [← hl5_4, ← hl5_5])
                go_roundg k5
                case measure => have := HK1.out; have := HK2.out; have := HK3.out; have := HK4.out; have := HK5.out; omega
                case rel => exact ⟨(x5_5), (wrap64 (x8_4 + 1)), Q17, H', ⟨Q165⟩, ⟨Q150⟩, ⟨Q130⟩, ⟨Q129 BK101⟩, ⟨Q1 HB⟩⟩
            ·rw [if_neg c21] at H
             have c21b0 := decide_eq_false c21; clear c21; have H' := Aside0.mk H; clear H; obtain ⟨_, _, _, _⟩ := b2 BK101
             go_wp2
             (try simp only [← hl5_3, ← hl5_4])
             go_roundg k4
             case measure => have := HK1.out; have := HK2.out; have := HK3.out; have := HK4.out; omega
             case rel => exact ⟨(x5_4), (wrap64 (x7_3 + 1)), Q17, H', ⟨by have := HK1.out; have := HK2.out; have := HK3.out; have := HK4.out; omega⟩, ⟨Q207⟩, ⟨Q208⟩, ⟨by (try simp only [hl5_3]); (try simp only [hl5_4]); (with_reducible repeat (first | refine blk_drewN ?_ _ | refine blk_drew ?_ | refine blk_alloc ?_ _)); exact BK101.out⟩, ⟨Q1 HB⟩⟩
         ·rw [if_neg c19] at H
          have c19b0 := decide_eq_false c19; clear c19
          obtain ⟨c44, H⟩ := ifn H
          have LMc44 := Aside0.mk c44; clear c44; obtain ⟨y112, hy112⟩ : ∃ y_ : List (List Int), y_ = (x3_1 ++ [x5_3]) := ⟨_, rfl⟩; replace H : (spec_l2Dist.l0 k3 y112 (wrap64 (x4_1 + 1)) a0_0 l0_1) = some r := RH hy112 H; have Ny112 := Aside0.mk hy112; clear hy112; have H' := Aside0.mk H; clear H; obtain ⟨_, _, _, _⟩ := b2 BK101
          go_wp2_with (first | ((with_reducible refine gate_builtin (b := .append) (xs := #[.tmp 72, .tmp 74]) rfl ?_); at_builtin; refine Kd.S_append (Kd.slice 3 (Kd.int .i64)) (w0 := w) w.heap.size rfl (.tmp 72) (.tmp 74) 27 25 (.slice none 0 0) 24 rfl Try.underlying27 info25 rfl (by decide) (by omega) u3 x3_1 x5_3 [.slice (some ⟨go15, 0, none⟩) x5_3.length co15] (fun _ => True) (fun k_ => some k_ = (.slice (some ⟨go15, 0, none⟩) x5_3.length co15 : Value).ownBlock) rfl rfl ?aP (fun k_ hk_ => ((Kd.R_mono (ok' := fun k_ => ((fun _ => True)) k_ ∧ some k_ ≠ (u3 : Value).ownBlock) (Kd.R_apart' (HO_5.out) (Kd.S_typed HO_3.out) (by decide)) (fun k_ hk => ⟨trivial, hk.2⟩))).1 k_ hk_.symm) ?aF ?aO ?aB ?aS ?aL ?_; (case aP => exact Kd.M_row (Kd.R_mono (Kd.R_tight rfl (Kd.R_mono (ok' := fun k_ => ((fun _ => True)) k_ ∧ some k_ ≠ (u3 : Value).ownBlock) (Kd.R_apart' (HO_5.out) (Kd.S_typed HO_3.out) (by decide)) (fun k_ hk => ⟨trivial, hk.2⟩))) (fun _ h_ => h_))); (case aB => exact (Q1 HB)); (case aF => exact (fun _ _ => trivial)); (case aO => exact (by (with_reducible repeat (first | apply Kd.S_alloc | apply Kd.S_drewN | apply Kd.S_drew)); exact Kd.S_mono HO_3.out (fun k_ hk => ⟨trivial, fun e_ => hk e_⟩))); (case aS => exact (below_size (Q1 HB))); (case aL => have := LMc44.out; omega); intro v113 w46 ho hb hg hat; rw [← Ny112.out] at ho; replace BK101 := am (blk_grown (g := gb101) (o := .cells #[.int .i64 a0_0, .slice A0_1 l0_1.length c0_1] 30 (0, 0)) (Q0 BK101) hg (Kd.S_ne HO_3.out BK101.out (by decide))); replace HB := am (hb); have HO114 := am (ho); clear HO_3 HO_5; clear ho hb hg hat))
          (try simp only [← hl5_3])
          go_roundg k3
          case measure => have := HK1.out; have := HK2.out; have := HK3.out; omega
          case rel => exact ⟨(y112), (wrap64 (x4_1 + 1)), Q17, H', ⟨by have := HK1.out; have := HK2.out; have := HK3.out; omega⟩, ⟨by (try simp only [hl5_3]); (with_reducible repeat (first | apply Kd.S_alloc | apply Kd.S_drewN | apply Kd.S_drew)); exact HO114.out⟩, ⟨by (try simp only [hl5_3]); (with_reducible repeat (first | refine blk_drewN ?_ _ | refine blk_drew ?_ | refine blk_alloc ?_ _)); exact BK101.out⟩, ⟨Q1 HB⟩⟩
   ·rw [if_neg c5] at H
    have c5b0 := decide_eq_false c5; clear c5; obtain rfl := Option.some.inj H; obtain ⟨_, _, _, _⟩ := b2 BK101
    go_wp2
    go_ret
    exact ⟨_, Q19, Q109, Q1 HB⟩
/-! ### spec_l2Before: function 189 -/
def spec_l2Before.f (a0_0 : Int) (a0_1 : Int) (a1_0 : Int) (a1_1 : Int) : Option (Bool) := if a0_0 < a1_0 then (some true) else (if a0_0 = a1_0 then (some (decide (a0_1 < a1_1))) else (some false))
set_option maxHeartbeats 8000000 in
set_option maxRecDepth 100000 in
theorem spec_l2Before.calls (a0_0 : Int) (a0_1 : Int) (a1_0 : Int) (a1_1 : Int) (r : Bool) (w : World) (h : spec_l2Before.f a0_0 a0_1 a1_0 a1_1 = some r) :
  Calls Try.prog 189 #[.agg #[.int .i64 a0_0, .int .i64 a0_1], .agg #[.int .i64 a1_0, .int .i64 a1_1]] w fun e w' => e = .returned (.bool r) ∧ Below w.heap.size w w' := by
 have hu71 := Try.underlying71
 have HB := am (Below.refl w.heap.size w)
 have H : (if a0_0 < a1_0 then (some true) else (if a0_0 = a1_0 then (some (decide (a0_1 < a1_1))) else (some false))) = some r := h
 clear h
 have HU3 := Aside0.mk H
 clear H
 go_enter Try.func189, Try.ntmps189
 go_upto_region 1 with (first | ((with_reducible refine gate_dst (N := 2) rfl ?_); refine box_event (by rfl) (N := 2) (by rfl) (cs := #[.int .i64 a0_0, .int .i64 a0_1]) (t := 71) Qr ?_; intro gb101 hg w4 hbox hb; have BK101 := am (hbox); replace HB := bs HB hb; clear hb hbox hg) | ((with_reducible refine gate_dst (N := 3) rfl ?_); refine box_event (by rfl) (N := 3) (by rfl) (cs := #[.int .i64 a1_0, .int .i64 a1_1]) (t := 71) Qr ?_; intro gb102 hg w5 hbox hb; have BK102 := am (hbox); replace HB := bs HB hb; have NB101_102 := am ((by rw [hg]; exact Nat.ne_of_lt (blk_lt (g := gb101) (o := .cells #[.int .i64 a0_0, .int .i64 a0_1] 71 (0, 0)) (Q0 BK101)) : gb101 ≠ gb102)); have NB102_101 := am ((by rw [hg]; exact Nat.ne_of_gt (blk_lt (g := gb101) (o := .cells #[.int .i64 a0_0, .int .i64 a0_1] 71 (0, 0)) (Q0 BK101)) : gb102 ≠ gb101)); replace BK101 := bb BK101 hb; clear hb hbox hg))
 (try simp only [Act.put, List.setIfInBounds_toArray, List.set_cons_zero, List.set_cons_succ])
 have H := HU3.out
 clear HU3
 by_cases c6 : a0_0 < a1_0
 ·rw [if_pos c6] at H
  have c6b0 := decide_eq_true c6; clear c6; obtain rfl := Option.some.inj H; obtain ⟨_, _⟩ := o2 NB101_102 NB102_101; obtain ⟨_, _, _, _⟩ := b2 BK101; obtain ⟨_, _, _, _⟩ := b2 BK102
  go_wp2
  go_ret
  exact ⟨Q19, Q1 HB⟩
 ·rw [if_neg c6] at H
  have c6b0 := decide_eq_false c6; clear c6
  by_cases c10 : a0_0 = a1_0
  ·rw [if_pos c10] at H
   have c10b0 := beq_iff_eq.mpr c10; have c10b1 := bne_eq_false_iff_eq.mpr c10; clear c10; obtain rfl := Option.some.inj H; obtain ⟨_, _⟩ := o2 NB101_102 NB102_101; obtain ⟨_, _, _, _⟩ := b2 BK101; obtain ⟨_, _, _, _⟩ := b2 BK102
   go_wp2
   go_ret
   exact ⟨Q19, Q1 HB⟩
  ·rw [if_neg c10] at H
   have c10b0 := beq_eq_false_iff_ne.mpr c10; have c10b1 := bne_iff_ne.mpr c10; obtain rfl := Option.some.inj H; obtain ⟨_, _⟩ := o2 NB101_102 NB102_101; obtain ⟨_, _, _, _⟩ := b2 BK101; obtain ⟨_, _, _, _⟩ := b2 BK102
   go_wp2
   go_ret
   exact ⟨Q19, Q1 HB⟩
/-! ### spec_l1Least: function 186 -/
def spec_l1Least.f (a0 : Int) (a1 : Int) : Option (Int) := if a0 < a1 then (some a0) else (some a1)
set_option maxHeartbeats 8000000 in
set_option maxRecDepth 100000 in
theorem spec_l1Least.calls (a0 : Int) (a1 : Int) (r : Int) (w : World) (h : spec_l1Least.f a0 a1 = some r) :
  Calls Try.prog 186 #[.int .i64 a0, .int .i64 a1] w fun e w' => e = .returned (.int .i64 r) ∧ Drawn0 w w' := by
 have H : (if a0 < a1 then (some a0) else (some a1)) = some r := h
 clear h
 by_cases c3 : a0 < a1
 ·rw [if_pos c3] at H
  have c3b0 : decide (a0 < a1) = true := decide_eq_true c3; clear c3; obtain rfl := Option.some.inj H
  go_enter Try.func186, Try.ntmps186
  go_wp2
  go_ret
  exact ⟨Q17, Q51⟩
 ·rw [if_neg c3] at H
  have c3b0 : decide (a0 < a1) = false := decide_eq_false c3; clear c3; obtain rfl := Option.some.inj H
  go_enter Try.func186, Try.ntmps186
  go_wp2
  go_ret
  exact ⟨Q17, Q51⟩
/-! ### spec_l1Most: function 187 -/
def spec_l1Most.f (a0 : Int) (a1 : Int) : Option (Int) := if a0 > a1 then (some a0) else (some a1)
set_option maxHeartbeats 8000000 in
set_option maxRecDepth 100000 in
theorem spec_l1Most.calls (a0 : Int) (a1 : Int) (r : Int) (w : World) (h : spec_l1Most.f a0 a1 = some r) :
  Calls Try.prog 187 #[.int .i64 a0, .int .i64 a1] w fun e w' => e = .returned (.int .i64 r) ∧ Drawn0 w w' := by
 have H : (if a0 > a1 then (some a0) else (some a1)) = some r := h
 clear h
 by_cases c3 : a0 > a1
 ·rw [if_pos c3] at H
  have c3b0 : decide (a1 < a0) = true := decide_eq_true c3; clear c3; obtain rfl := Option.some.inj H
  go_enter Try.func187, Try.ntmps187
  go_wp2
  go_ret
  exact ⟨Q17, Q51⟩
 ·rw [if_neg c3] at H
  have c3b0 : decide (a1 < a0) = false := decide_eq_false c3; clear c3; obtain rfl := Option.some.inj H
  go_enter Try.func187, Try.ntmps187
  go_wp2
  go_ret
  exact ⟨Q17, Q51⟩
/-! ### spec_l1In: function 110 -/
def spec_l1In.f (a0 : Int) (a1 : Int) (a2 : Int) : Option (Bool) := if a0 ≥ a1 then (some (decide (a0 ≤ a2))) else (some false)
set_option maxHeartbeats 8000000 in
set_option maxRecDepth 100000 in
theorem spec_l1In.calls (a0 : Int) (a1 : Int) (a2 : Int) (r : Bool) (w : World) (h : spec_l1In.f a0 a1 a2 = some r) :
  Calls Try.prog 110 #[.int .i64 a0, .int .i64 a1, .int .i64 a2] w fun e w' => e = .returned (.bool r) ∧ Drawn0 w w' := by
 have H : (if a0 ≥ a1 then (some (decide (a0 ≤ a2))) else (some false)) = some r := h
 clear h
 by_cases c4 : a0 ≥ a1
 ·rw [if_pos c4] at H
  have c4b0 : decide (a1 ≤ a0) = true := decide_eq_true c4; clear c4; obtain rfl := Option.some.inj H
  go_enter Try.func110, Try.ntmps110
  go_wp2
  go_ret
  exact ⟨Q17, Q51⟩
 ·rw [if_neg c4] at H
  have c4b0 : decide (a1 ≤ a0) = false := decide_eq_false c4; clear c4; obtain rfl := Option.some.inj H
  go_enter Try.func110, Try.ntmps110
  go_wp2
  go_ret
  exact ⟨Q17, Q51⟩
/-! ### spec_l2Good: function 120 -/
def spec_l2Good.l0 : Nat → Int → Int → List (S71) → Option (Bool)
 | 0, _, _, _ => none
 | k + 1, x3, x102000, x102001 => if x3 < (x102001.length : Int) then (if 0 ≤ x3 then ((spec_l1In.f ((rd_T71 x102001 x3).f0) 0 (wrap64 (x102000 - 1))).bind fun t105 => (if t105 = true then ((spec_l1In.f ((rd_T71 x102001 x3).f1) 0 (wrap64 (x102000 - 1))).bind fun t106 => (if t106 = true then (if ((rd_T71 x102001 x3).f0) ≥ ((rd_T71 x102001 x3).f1) then (some false) else (if x3 > 0 then (if 0 ≤ (wrap64 (x3 - 1)) then (if (wrap64 (x3 - 1)) < (x102001.length : Int) then ((spec_l2Before.f ((rd_T71 x102001 (wrap64 (x3 - 1))).f0) ((rd_T71 x102001 (wrap64 (x3 - 1))).f1) ((rd_T71 x102001 x3).f0) ((rd_T71 x102001 x3).f1)).bind fun t108 => (if t108 = true then (spec_l2Good.l0 k (wrap64 (x3 + 1)) x102000 x102001) else (some false))) else (none)) else (none)) else (spec_l2Good.l0 k (wrap64 (x3 + 1)) x102000 x102001))) else (some false))) else (some false))) else (none)) else ((spec_l1In.f x102000 0 8).bind fun t102 => (some t102))
def spec_l2Good.f (k : Nat) (a0_0 : Int) (l0_1 : List (S71)) : Option (Bool) := spec_l2Good.l0 k 0 a0_0 l0_1
theorem spec_l2Good.mono_l : ∀ k, (∀ y0 y1 y2, LeO (spec_l2Good.l0 k y0 y1 y2) (spec_l2Good.l0 (k + 1) y0 y1 y2))
 | 0 => fun _ _ _ r h => by simp [spec_l2Good.l0] at h
 | k + 1 => by
  have ih0 := spec_l2Good.mono_l k
  all_goals
   intros
   first | unfold spec_l2Good.l0
   repeat' first | (with_reducible first | exact ih0 _ _ _ | exact LeO.refl _ | exact LeO.none _ | refine LeO.ite ?_ ?_ | refine LeO.bind ?_ (fun _ => ?_))
theorem spec_l2Good.mono : ∀ a0 a1 k, LeO (spec_l2Good.f k a0 a1) (spec_l2Good.f (k + 1) a0 a1) := by
 intro a0 a1 k
 have ih0 := spec_l2Good.mono_l k
 unfold spec_l2Good.f
 repeat' first | (with_reducible first | exact ih0 _ _ _ | exact LeO.refl _ | exact LeO.none _ | refine LeO.ite ?_ ?_ | refine LeO.bind ?_ (fun _ => ?_))
def spec_l2Good.T5 : Bool × List (List Nat × List Nat) := (true, [([], []), ([0], [0]), ([], []), ([2], [2]), ([3], [3]), ([1, 4], [1, 4]), ([5], [5]), ([6, 5], [6]), ([7], [7]), ([8, 7], [7, 8]), ([7], [7]), ([10, 7], [7, 10]), ([11, 7], [7, 11]), ([9, 12, 7, 7], [7, 9, 12]), ([13, 7], [7, 13]), ([7, 14], [7, 14]), ([15, 13], [15]), ([16], [16]), ([17, 16], [16, 17]), ([16], [16]), ([19, 16], [16, 19]), ([18, 20, 16], [16, 18, 20]), ([16, 21], [16, 21]), ([22, 16], [22]), ([23], [23]), ([24, 23], [23, 24]), ([25, 23, 23], [23, 25]), ([26], [26]), ([27, 26], [26, 27]), ([26], [26]), ([29, 26], [26, 29]), ([28, 30, 26], [26, 28, 30]), ([31, 26], [26, 31]), ([26], [26]), ([32, 33, 26, 26], [26, 32, 33]), ([34, 26], [26, 34]), ([26, 35, 23], [23, 26, 35]), ([23, 36], [23, 36])])
def spec_l2Good.B5 : List Nat := [0, 1, 0, 4, 12, 31, 63, 127, 255, 511, 255, 1279, 3327, 8191, 16383, 32767, 65535, 131071, 262143, 131071, 655359, 2097151, 4194303, 8388607, 16777215, 33554431, 67108863, 134217727, 268435455, 134217727, 671088639, 2147483647, 4294967295, 134217727, 17179869183, 34359738367, 68719476735, 137438953471]
theorem spec_l2Good.tab5 : rtab .any (opsOf Try.f120 5) = spec_l2Good.T5 := by kernel_rfl
theorem spec_l2Good.bits5 : waitsOk spec_l2Good.T5.2 spec_l2Good.B5 = true := by kernel_rfl
set_option maxHeartbeats 8000000 in
set_option maxRecDepth 100000 in
theorem spec_l2Good.calls (k : Nat) (a0_0 : Int) (A0_1 : Option Addr) (c0_1 : Nat) (l0_1 : List (S71)) (r : Bool) (w : World) (hr0_1 : Kd.C k71 w A0_1 l0_1.length l0_1) (hc0_1 : l0_1.length ≤ c0_1) (h : spec_l2Good.f k a0_0 l0_1 = some r) :
  Calls Try.prog 120 #[.agg #[.int .i64 a0_0, .slice A0_1 l0_1.length c0_1]] w fun e w' => e = .returned (.bool r) ∧ Below w.heap.size w w' := by
 have hu30 := Try.underlying30
 have hu71 := Try.underlying71
 have HR0_1 := Aside0.mk hr0_1
 have HC0_1 := Aside0.mk hc0_1
 clear hr0_1 hc0_1
 have HB := am (Below.refl w.heap.size w)
 have H : (spec_l2Good.l0 k 0 a0_0 l0_1) = some r := h
 clear h
 have H' := Aside0.mk H
 clear H
 go_enter Try.func120, Try.ntmps120
 go_wp2_with (first | ((with_reducible refine gate_dst (N := 1) rfl ?_); refine box_event (by rfl) (N := 1) (by rfl) (cs := #[.int .i64 a0_0, .slice A0_1 l0_1.length c0_1]) (t := 30) Qr ?_; intro gb101 hg w2 hbox hb; have BK101 := am (hbox); have GE101 := ge HB hg; replace HB := bs HB hb; clear hb hbox hg))
 go_loopg [3] k (fun kq v3 w' => ∃ (x3_1 : Int), v3 = .int .i64 x3_1 ∧ Aside0 (spec_l2Good.l0 kq x3_1 a0_0 l0_1 = some r) ∧ Aside0 (kq ≤ k) ∧ Aside0 (w'.heap[gb101]? = some (.cells #[.int .i64 a0_0, (.slice A0_1 l0_1.length c0_1)] 30 (0, 0))) ∧ Aside0 (Below w.heap.size w w'))
 case atStart => exact ⟨(0), Q17, H', ⟨Nat.le_refl _⟩, ⟨Q0 BK101⟩, ⟨Q1 HB⟩⟩
 case round =>
  clear H'
  obtain ⟨x3_1, rfl, HA, HK1, BK101, HB⟩ := hrel
  cases gk with
  | zero => exact absurd HA.out (by simp [spec_l2Good.l0])
  | succ k1 =>
   have H := HA.out; clear HA
   simp only [spec_l2Good.l0] at H
   by_cases c3 : x3_1 < (l0_1.length : Int)
   ·rw [if_pos c3] at H
    have c3b0 := decide_eq_true c3; clear c3
    obtain ⟨c4, H⟩ := ifn H
    have c4b0 := decide_eq_true c4; clear c4; replace H := (ob H); obtain ⟨t105, A50, H⟩ := H; (try dsimp only at H); have A5 := Aside0.mk A50; clear A50
    by_cases c6 : t105 = true
    ·subst c6
     have H1 : ((spec_l1In.f ((rd_T71 l0_1 x3_1).f1) 0 (wrap64 (a0_0 - 1))).bind fun t106 => (if t106 = true then (if ((rd_T71 l0_1 x3_1).f0) ≥ ((rd_T71 l0_1 x3_1).f1) then (some false) else (if x3_1 > 0 then (if 0 ≤ (wrap64 (x3_1 - 1)) then (if (wrap64 (x3_1 - 1)) < (l0_1.length : Int) then ((spec_l2Before.f ((rd_T71 l0_1 (wrap64 (x3_1 - 1))).f0) ((rd_T71 l0_1 (wrap64 (x3_1 - 1))).f1) ((rd_T71 l0_1 x3_1).f0) ((rd_T71 l0_1 x3_1).f1)).bind fun t108 => (if t108 = true then (spec_l2Good.l0 k1 (wrap64 (x3_1 + 1)) a0_0 l0_1) else (some false))) else (none)) else (none)) else (spec_l2Good.l0 k1 (wrap64 (x3_1 + 1)) a0_0 l0_1))) else (some false))) = some r := by rw [if_pos rfl] at H; exact H
     clear H; have H := H1; clear H1; replace H := (ob H); obtain ⟨t106, A70, H⟩ := H; (try dsimp only at H); have A7 := Aside0.mk A70; clear A70
     by_cases c8 : t106 = true
     ·subst c8
      have H1 : (if ((rd_T71 l0_1 x3_1).f0) ≥ ((rd_T71 l0_1 x3_1).f1) then (some false) else (if x3_1 > 0 then (if 0 ≤ (wrap64 (x3_1 - 1)) then (if (wrap64 (x3_1 - 1)) < (l0_1.length : Int) then ((spec_l2Before.f ((rd_T71 l0_1 (wrap64 (x3_1 - 1))).f0) ((rd_T71 l0_1 (wrap64 (x3_1 - 1))).f1) ((rd_T71 l0_1 x3_1).f0) ((rd_T71 l0_1 x3_1).f1)).bind fun t108 => (if t108 = true then (spec_l2Good.l0 k1 (wrap64 (x3_1 + 1)) a0_0 l0_1) else (some false))) else (none)) else (none)) else (spec_l2Good.l0 k1 (wrap64 (x3_1 + 1)) a0_0 l0_1))) = some r := by rw [if_pos rfl] at H; exact H
      clear H; have H := H1; clear H1
      by_cases c9 : ((rd_T71 l0_1 x3_1).f0) ≥ ((rd_T71 l0_1 x3_1).f1)
      ·rw [if_pos c9] at H
       have c9b0 : decide (((rd_T71 l0_1 x3_1).f1) ≤ ((rd_T71 l0_1 x3_1).f0)) = true := decide_eq_true c9; clear c9; have HU10 := Aside0.mk H; clear H; obtain ⟨_, _, _, _⟩ := b2 BK101; have p103 : 0 ≤ (x3_1 : Int) := D4; have q103 : x3_1 < (l0_1.length : Int) := D4; obtain ⟨ad103, e103, hx103_0, hx103_1⟩ := at_T71 HR0_1.out x3_1 p103 q103
       cases e103
       replace hx103_0 := (HB.out.cell (World.block_lt_of_cell? w _ hx103_0)).trans hx103_0; replace hx103_1 := (HB.out.cell (World.block_lt_of_cell? w _ hx103_1)).trans hx103_1; replace p103 := eq_true p103; replace q103 := eq_true q103
       try go_wp2_with (first | ((with_reducible refine gate_dst (N := 4) rfl ?_); refine box_event (by rfl) (N := 4) (by rfl) (cs := #[.int .i64 0, .int .i64 0]) (t := 71) Qr ?_; intro gb104 hg w12 hbox hb; have BK104 := am (hbox); have GE104 := ge HB hg; replace HB := bs HB hb; obtain ⟨NB101_104, NB104_101⟩ := ne2 BK101 hg; replace BK101 := bb BK101 hb; clear hb hbox hg; obtain ⟨_, _⟩ := o2 NB104_101 NB101_104; obtain ⟨_, _, _, _⟩ := b2 BK104))
       have n0_ : Aside0 (((w12.setCell ⟨gb104, 0, none⟩ (.int .i64 ((rd_T71 l0_1 x3_1).f0))).setCell ⟨gb104, 1, none⟩ (.int .i64 ((rd_T71 l0_1 x3_1).f1))).heap[gb101]? = some (.cells #[.int .i64 a0_0, .slice (some ad103) l0_1.length c0_1] 30 (0, 0))) := ⟨Q2 NB101_104 BK101⟩; have n1_ : Aside0 (((w12.setCell ⟨gb104, 0, none⟩ (.int .i64 ((rd_T71 l0_1 x3_1).f0))).setCell ⟨gb104, 1, none⟩ (.int .i64 ((rd_T71 l0_1 x3_1).f1))).heap[gb104]? = some (.cells #[.int .i64 ((rd_T71 l0_1 x3_1).f0), .int .i64 ((rd_T71 l0_1 x3_1).f1)] 71 (0, 0))) := ⟨Q63 BK104⟩; have n2_ : Aside0 (Below w.heap.size w ((w12.setCell ⟨gb104, 0, none⟩ (.int .i64 ((rd_T71 l0_1 x3_1).f0))).setCell ⟨gb104, 1, none⟩ (.int .i64 ((rd_T71 l0_1 x3_1).f1)))) := ⟨Q4 HB GE104⟩; (try clear BK101); (try clear BK104); (try clear HB); generalize ((w12.setCell ⟨gb104, 0, none⟩ (.int .i64 ((rd_T71 l0_1 x3_1).f0))).setCell ⟨gb104, 1, none⟩ (.int .i64 ((rd_T71 l0_1 x3_1).f1))) = w15 at n0_ n1_ n2_ ⊢; have BK101 := n0_; have BK104 := n1_; have HB := n2_; clear n0_ n1_ n2_; replace BK101 := am (blk_drew BK101.out); replace BK104 := am (blk_drew BK104.out); replace HB := am (below_drew1 HB.out); refine start_ (n := 38) (S := fun w' => w'.cell? ⟨gb104, 0, none⟩ = some (.int .i64 ((rd_T71 l0_1 x3_1).f0)) ∧ w'.cell? ⟨gb104, 1, none⟩ = some (.int .i64 ((rd_T71 l0_1 x3_1).f1)) ∧ w'.cell? ⟨gb101, 0, none⟩ = some (.int .i64 a0_0) ∧ w'.cell? ⟨gb101, 1, none⟩ = some (.slice (some ad103) l0_1.length c0_1)) (ds := []) #[false, false, false, false, false, false, false, false, false, false, false, false, false, false, false, false, false, false, false, false, false, false, false, false, false, false, false, false, false, false, false, false, false, false, false, false, false, false] (by kernel_rfl) rfl rfl ⟨(blk_cell BK104.out 0).trans rfl, (blk_cell BK104.out 1).trans rfl, (blk_cell BK101.out 0).trans rfl, (blk_cell BK101.out 1).trans rfl⟩ (fun hHeld => ?_); refine with_tabW spec_l2Good.tab5 spec_l2Good.bits5 (fun HT_ HW_ => ?_); generalize w15.drew = w16 at BK101 BK104 HB hHeld ⊢; refine pq 0 17 rfl rfl HT_ ?_; refine pq 2 19 rfl rfl HT_ ?_; refine tq4 1 18 rfl rfl HT_ HW_ hHeld ?_; refine tq4 3 20 rfl rfl HT_ HW_ hHeld ?_; refine pq 4 21 rfl rfl HT_ ?_; refine oq 5 22 rfl rfl HT_ (fun K hK => ?_); refine goes_ Try.func110 (by kernel_rfl) rfl #[.int .i64 ((rd_T71 l0_1 x3_1).f0), .int .i64 0, .int .i64 (wrap64 (a0_0 - 1))] (by rfl) rfl rfl Q6 ?_
       with_reducible refine (spec_l1In.calls ((rd_T71 l0_1 x3_1).f0) 0 (wrap64 (a0_0 - 1)) true _ A5.out).mono ?_
       rintro e w' ⟨rfl, ⟨nd, rfl⟩⟩; refine ⟨_, rfl, ?_⟩; refine hK.out _ _ ⟨(blk_cell BK104.out 0).trans rfl, (blk_cell BK104.out 1).trans rfl, (blk_cell BK101.out 0).trans rfl, (blk_cell BK101.out 1).trans rfl⟩ (fun hHeld => ?_); clear hK K; refine nz ?_
       refine pq 6 23 rfl rfl HT_ ?_; refine pq 7 24 rfl rfl HT_ ?_; refine pq 8 25 rfl rfl HT_ ?_; refine pq 10 27 rfl rfl HT_ ?_; refine tq4 9 26 rfl rfl HT_ HW_ hHeld ?_; refine tq4 11 28 rfl rfl HT_ HW_ hHeld ?_; refine pq 12 29 rfl rfl HT_ ?_; refine oq 13 30 rfl rfl HT_ (fun K hK => ?_); refine goes_ Try.func110 (by kernel_rfl) rfl #[.int .i64 ((rd_T71 l0_1 x3_1).f1), .int .i64 0, .int .i64 (wrap64 (a0_0 - 1))] (by rfl) rfl rfl Q6 ?_
       with_reducible refine (spec_l1In.calls ((rd_T71 l0_1 x3_1).f1) 0 (wrap64 (a0_0 - 1)) true _ A7.out).mono ?_
       rintro e w' ⟨rfl, ⟨nd, rfl⟩⟩; refine ⟨_, rfl, ?_⟩; refine hK.out _ _ ⟨(blk_cell BK104.out 0).trans rfl, (blk_cell BK104.out 1).trans rfl, (blk_cell BK101.out 0).trans rfl, (blk_cell BK101.out 1).trans rfl⟩ (fun hHeld => ?_); clear hK K; refine nz ?_
       refine pq 14 31 rfl rfl HT_ ?_; refine pq 15 32 rfl rfl HT_ ?_; refine pq 16 33 rfl rfl HT_ ?_; refine pq 17 34 rfl rfl HT_ ?_; refine pq 19 36 rfl rfl HT_ ?_; refine tq4 18 35 rfl rfl HT_ HW_ hHeld ?_; refine tq4 20 37 rfl rfl HT_ HW_ hHeld ?_; refine pq 21 38 rfl rfl HT_ ?_; refine pq 22 39 rfl rfl HT_ ?_; refine pq 23 40 rfl rfl HT_ ?_; refine pu 24 41 rfl rfl HT_ ?_; refine pu 25 42 rfl rfl HT_ ?_; refine pu 26 43 rfl rfl HT_ ?_; refine pu 27 44 rfl rfl HT_ ?_; refine pu 28 45 rfl rfl HT_ ?_; refine pu 29 46 rfl rfl HT_ ?_; refine pu 30 47 rfl rfl HT_ ?_; refine pu 31 48 rfl rfl HT_ ?_; refine pu 32 49 rfl rfl HT_ ?_; refine pu 33 50 rfl rfl HT_ ?_; refine pu 34 51 rfl rfl HT_ ?_; refine pu 35 52 rfl rfl HT_ ?_; refine pu 36 53 rfl rfl HT_ ?_; refine pq 37 54 rfl rfl HT_ ?_; refine done_ (done_of HT_.out (by kernel_rfl)) ?_
       go_upto_if 54 with (fail)
       have H := HU10.out; clear HU10; obtain rfl := Option.some.inj H
       go_wp2
       go_ret
       exact ⟨Q19, Q1 HB⟩
      ·rw [if_neg c9] at H
       have c9b0 : decide (((rd_T71 l0_1 x3_1).f1) ≤ ((rd_T71 l0_1 x3_1).f0)) = false := decide_eq_false c9; clear c9
       by_cases c17 : x3_1 > 0
       ·rw [if_pos c17] at H
        have c17b0 : decide (0 < x3_1) = true := decide_eq_true c17; clear c17; obtain ⟨ji18, hji18⟩ : ∃ j_ : Int, (wrap64 (x3_1 - 1)) = j_ := ⟨_, rfl⟩; replace H : (if 0 ≤ (ji18) then (if (ji18) < (l0_1.length : Int) then ((spec_l2Before.f ((rd_T71 l0_1 (ji18)).f0) ((rd_T71 l0_1 (ji18)).f1) ((rd_T71 l0_1 x3_1).f0) ((rd_T71 l0_1 x3_1).f1)).bind fun t108 => (if t108 = true then (spec_l2Good.l0 k1 (wrap64 (x3_1 + 1)) a0_0 l0_1) else (some false))) else (none)) else (none)) = some r := by first | (rw [hji18] at H; exact H) | (simp only [hji18] at H ⊢; exact H)
        (try rw [hji18] at A5); (try rw [hji18] at A7); have hji18w : (IntKind.i64.wrap (x3_1 - 1)) = ji18 := (i64_w _).trans hji18
        obtain ⟨c19, H⟩ := ifn H
        have c19b0 := decide_eq_true c19; clear c19
        obtain ⟨c20, H⟩ := ifn H
        have c20b0 := decide_eq_true c20; clear c20; replace H := (ob H); obtain ⟨t108, A210, H⟩ := H; (try dsimp only at H); have A21 := Aside0.mk A210; clear A210; have HU22 := Aside0.mk H; clear H; obtain ⟨_, _, _, _⟩ := b2 BK101; have p103 : 0 ≤ (x3_1 : Int) := D4; have q103 : x3_1 < (l0_1.length : Int) := D4; obtain ⟨ad103, e103, hx103_0, hx103_1⟩ := at_T71 HR0_1.out x3_1 p103 q103
        cases e103
        replace hx103_0 := (HB.out.cell (World.block_lt_of_cell? w _ hx103_0)).trans hx103_0; replace hx103_1 := (HB.out.cell (World.block_lt_of_cell? w _ hx103_1)).trans hx103_1; replace p103 := eq_true p103; replace q103 := eq_true q103
        try go_wp2_with (first | ((with_reducible refine gate_dst (N := 4) rfl ?_); refine box_event (by rfl) (N := 4) (by rfl) (cs := #[.int .i64 0, .int .i64 0]) (t := 71) Qr ?_; intro gb104 hg w24 hbox hb; have BK104 := am (hbox); have GE104 := ge HB hg; replace HB := bs HB hb; obtain ⟨NB101_104, NB104_101⟩ := ne2 BK101 hg; replace BK101 := bb BK101 hb; clear hb hbox hg; obtain ⟨_, _⟩ := o2 NB104_101 NB101_104; obtain ⟨_, _, _, _⟩ := b2 BK104))
        have n0_ : Aside0 (((w24.setCell ⟨gb104, 0, none⟩ (.int .i64 ((rd_T71 l0_1 x3_1).f0))).setCell ⟨gb104, 1, none⟩ (.int .i64 ((rd_T71 l0_1 x3_1).f1))).heap[gb101]? = some (.cells #[.int .i64 a0_0, .slice (some ad103) l0_1.length c0_1] 30 (0, 0))) := ⟨Q2 NB101_104 BK101⟩; have n1_ : Aside0 (((w24.setCell ⟨gb104, 0, none⟩ (.int .i64 ((rd_T71 l0_1 x3_1).f0))).setCell ⟨gb104, 1, none⟩ (.int .i64 ((rd_T71 l0_1 x3_1).f1))).heap[gb104]? = some (.cells #[.int .i64 ((rd_T71 l0_1 x3_1).f0), .int .i64 ((rd_T71 l0_1 x3_1).f1)] 71 (0, 0))) := ⟨Q63 BK104⟩; have n2_ : Aside0 (Below w.heap.size w ((w24.setCell ⟨gb104, 0, none⟩ (.int .i64 ((rd_T71 l0_1 x3_1).f0))).setCell ⟨gb104, 1, none⟩ (.int .i64 ((rd_T71 l0_1 x3_1).f1)))) := ⟨Q4 HB GE104⟩; (try clear BK101); (try clear BK104); (try clear HB); generalize ((w24.setCell ⟨gb104, 0, none⟩ (.int .i64 ((rd_T71 l0_1 x3_1).f0))).setCell ⟨gb104, 1, none⟩ (.int .i64 ((rd_T71 l0_1 x3_1).f1))) = w27 at n0_ n1_ n2_ ⊢; have BK101 := n0_; have BK104 := n1_; have HB := n2_; clear n0_ n1_ n2_; replace BK101 := am (blk_drew BK101.out); replace BK104 := am (blk_drew BK104.out); replace HB := am (below_drew1 HB.out); have p107 : 0 ≤ ((ji18) : Int) := D4; have q107 : (ji18) < (l0_1.length : Int) := D4; obtain ⟨ad107, e107, hx107_0, hx107_1⟩ := at_T71 HR0_1.out (ji18) p107 q107; have hw107_1 := hx107_1; have hw107_0 := hx107_0; obtain rfl : ad103 = ad107 := (by injection e107); replace hx107_0 := (HB.out.cell (World.block_lt_of_cell? w _ hx107_0)).trans hx107_0; replace hx107_1 := (HB.out.cell (World.block_lt_of_cell? w _ hx107_1)).trans hx107_1; replace p107 := eq_true p107; replace q107 := eq_true q107; refine start_ (n := 38) (S := fun w' => w'.cell? ⟨gb104, 0, none⟩ = some (.int .i64 ((rd_T71 l0_1 x3_1).f0)) ∧ w'.cell? ⟨gb104, 1, none⟩ = some (.int .i64 ((rd_T71 l0_1 x3_1).f1)) ∧ w'.cell? ⟨gb101, 0, none⟩ = some (.int .i64 a0_0) ∧ w'.cell? ⟨gb101, 1, none⟩ = some (.slice (some ad103) l0_1.length c0_1) ∧ w'.cell? (ad103.add (((ji18)).toNat * 2)) = some (.int .i64 ((rd_T71 l0_1 (ji18)).f0)) ∧ w'.cell? ⟨(ad103.add (((ji18)).toNat * 2)).block, (ad103.add (((ji18)).toNat * 2)).off + 1, none⟩ = some (.int .i64 ((rd_T71 l0_1 (ji18)).f1))) (ds := []) #[false, false, false, false, false, false, false, false, false, false, false, false, false, false, false, false, false, false, false, false, false, false, false, false, false, false, false, false, false, false, false, false, false, false, false, false, false, false] (by kernel_rfl) rfl rfl ⟨(blk_cell BK104.out 0).trans rfl, (blk_cell BK104.out 1).trans rfl, (blk_cell BK101.out 0).trans rfl, (blk_cell BK101.out 1).trans rfl, ((HB.out.cell (World.block_lt_of_cell? w _ hw107_0)).trans hw107_0), ((HB.out.cell (World.block_lt_of_cell? w _ hw107_1)).trans hw107_1)⟩ (fun hHeld => ?_); refine with_tabW spec_l2Good.tab5 spec_l2Good.bits5 (fun HT_ HW_ => ?_); generalize w27.drew = w28 at BK101 BK104 HB hx107_0 hx107_1 hHeld ⊢; refine pq 0 17 rfl rfl HT_ ?_; refine pq 2 19 rfl rfl HT_ ?_; refine tq6 1 18 rfl rfl HT_ HW_ hHeld ?_; refine tq6 3 20 rfl rfl HT_ HW_ hHeld ?_; refine pq 4 21 rfl rfl HT_ ?_; refine oq 5 22 rfl rfl HT_ (fun K hK => ?_); refine goes_ Try.func110 (by kernel_rfl) rfl #[.int .i64 ((rd_T71 l0_1 x3_1).f0), .int .i64 0, .int .i64 (wrap64 (a0_0 - 1))] (by rfl) rfl rfl Q6 ?_
        with_reducible refine (spec_l1In.calls ((rd_T71 l0_1 x3_1).f0) 0 (wrap64 (a0_0 - 1)) true _ A5.out).mono ?_
        rintro e w' ⟨rfl, ⟨nd, rfl⟩⟩; refine ⟨_, rfl, ?_⟩; refine hK.out _ _ ⟨(blk_cell BK104.out 0).trans rfl, (blk_cell BK104.out 1).trans rfl, (blk_cell BK101.out 0).trans rfl, (blk_cell BK101.out 1).trans rfl, ((HB.out.cell (World.block_lt_of_cell? w _ hw107_0)).trans hw107_0), ((HB.out.cell (World.block_lt_of_cell? w _ hw107_1)).trans hw107_1)⟩ (fun hHeld => ?_); clear hK K; refine nz ?_
        refine pq 6 23 rfl rfl HT_ ?_; refine pq 7 24 rfl rfl HT_ ?_; refine pq 8 25 rfl rfl HT_ ?_; refine pq 10 27 rfl rfl HT_ ?_; refine tq6 9 26 rfl rfl HT_ HW_ hHeld ?_; refine tq6 11 28 rfl rfl HT_ HW_ hHeld ?_; refine pq 12 29 rfl rfl HT_ ?_; refine oq 13 30 rfl rfl HT_ (fun K hK => ?_); refine goes_ Try.func110 (by kernel_rfl) rfl #[.int .i64 ((rd_T71 l0_1 x3_1).f1), .int .i64 0, .int .i64 (wrap64 (a0_0 - 1))] (by rfl) rfl rfl Q6 ?_
        with_reducible refine (spec_l1In.calls ((rd_T71 l0_1 x3_1).f1) 0 (wrap64 (a0_0 - 1)) true _ A7.out).mono ?_
        rintro e w' ⟨rfl, ⟨nd, rfl⟩⟩; refine ⟨_, rfl, ?_⟩; refine hK.out _ _ ⟨(blk_cell BK104.out 0).trans rfl, (blk_cell BK104.out 1).trans rfl, (blk_cell BK101.out 0).trans rfl, (blk_cell BK101.out 1).trans rfl, ((HB.out.cell (World.block_lt_of_cell? w _ hw107_0)).trans hw107_0), ((HB.out.cell (World.block_lt_of_cell? w _ hw107_1)).trans hw107_1)⟩ (fun hHeld => ?_); clear hK K; refine nz ?_
        refine pq 14 31 rfl rfl HT_ ?_; refine pq 15 32 rfl rfl HT_ ?_; refine pq 16 33 rfl rfl HT_ ?_; refine pq 17 34 rfl rfl HT_ ?_; refine pq 19 36 rfl rfl HT_ ?_; refine tq6 18 35 rfl rfl HT_ HW_ hHeld ?_; refine tq6 20 37 rfl rfl HT_ HW_ hHeld ?_; refine pq 21 38 rfl rfl HT_ ?_; refine pq 22 39 rfl rfl HT_ ?_; refine pq 23 40 rfl rfl HT_ ?_; refine pq 24 41 rfl rfl HT_ ?_; refine pq 25 42 rfl rfl HT_ ?_; refine pq 26 43 rfl rfl HT_ ?_; refine pq 27 44 rfl rfl HT_ ?_; refine pq 29 46 rfl rfl HT_ ?_; refine pq 30 47 rfl rfl HT_ ?_; refine tq6 28 45 rfl rfl HT_ HW_ hHeld ?_; refine pq 31 48 rfl rfl HT_ ?_; refine tq6 32 49 rfl rfl HT_ HW_ hHeld ?_; refine tq6 33 50 rfl rfl HT_ HW_ hHeld ?_; refine oq 34 51 rfl rfl HT_ (fun K hK => ?_); refine goes_ Try.func189 (by kernel_rfl) rfl #[.agg #[.int .i64 ((rd_T71 l0_1 (ji18)).f0), .int .i64 ((rd_T71 l0_1 (ji18)).f1)], .agg #[.int .i64 ((rd_T71 l0_1 x3_1).f0), .int .i64 ((rd_T71 l0_1 x3_1).f1)]] (by rfl) rfl rfl (by (try simp only [List.map_toArray, List.map_cons, List.map_nil]); first | done | (simp only [hji18]; rfl) | rfl | (simp only [List.length_drop, List.length_take]; rfl)) ?_
        with_reducible refine (spec_l2Before.calls ((rd_T71 l0_1 (ji18)).f0) ((rd_T71 l0_1 (ji18)).f1) ((rd_T71 l0_1 x3_1).f0) ((rd_T71 l0_1 x3_1).f1) t108 _ A21.out).mono ?_
        rintro e w29 ⟨rfl, hb⟩; refine ⟨_, rfl, ?_⟩; replace BK101 := bb BK101 hb; replace BK104 := bb BK104 hb; replace HB := bs HB hb; (try clear hb); refine hK.out _ _ ⟨(blk_cell BK104.out 0).trans rfl, (blk_cell BK104.out 1).trans rfl, (blk_cell BK101.out 0).trans rfl, (blk_cell BK101.out 1).trans rfl, ((HB.out.cell (World.block_lt_of_cell? w _ hw107_0)).trans hw107_0), ((HB.out.cell (World.block_lt_of_cell? w _ hw107_1)).trans hw107_1)⟩ (fun hHeld => ?_); clear hK K; refine nz ?_
        refine pq 35 52 rfl rfl HT_ ?_; refine pq 36 53 rfl rfl HT_ ?_; refine pq 37 54 rfl rfl HT_ ?_; refine done_ (done_of HT_.out (by kernel_rfl)) ?_
        go_upto_if 54 with (fail)
        have H := HU22.out; clear HU22
        by_cases c30 : t108 = true
        ·subst c30
         have H1 : (spec_l2Good.l0 k1 (wrap64 (x3_1 + 1)) a0_0 l0_1) = some r := by rw [if_pos rfl] at H; exact H
         clear H; have H := H1; clear H1; have H' := Aside0.mk H; clear H
         go_wp2
         go_roundg k1
         case measure => have := HK1.out; omega
         case rel => exact ⟨(wrap64 (x3_1 + 1)), Q17, H', ⟨Q163⟩, ⟨Q0 BK101⟩, ⟨Q1 HB⟩⟩
        ·replace c30 := Bool.eq_false_iff.mpr c30
         subst c30; have H1 : (some false) = some r := by rw [if_neg (show ¬ (false = true) by decide)] at H; exact H
         clear H; have H := H1; clear H1; obtain rfl := Option.some.inj H
         go_wp2
         go_ret
         exact ⟨by first | rfl | (simp [errW_none, errW_some] <;> rfl) | (simp only [← hji18]; first | rfl | (simp [errW_none, errW_some] <;> rfl)) | (simp [*, errW_none, errW_some] <;> rfl), Q1 HB⟩
       ·rw [if_neg c17] at H
        have c17b0 : decide (0 < x3_1) = false := decide_eq_false c17; clear c17; have HU31 := Aside0.mk H; clear H; obtain ⟨_, _, _, _⟩ := b2 BK101; have p103 : 0 ≤ (x3_1 : Int) := D4; have q103 : x3_1 < (l0_1.length : Int) := D4; obtain ⟨ad103, e103, hx103_0, hx103_1⟩ := at_T71 HR0_1.out x3_1 p103 q103
        cases e103
        replace hx103_0 := (HB.out.cell (World.block_lt_of_cell? w _ hx103_0)).trans hx103_0; replace hx103_1 := (HB.out.cell (World.block_lt_of_cell? w _ hx103_1)).trans hx103_1; replace p103 := eq_true p103; replace q103 := eq_true q103
        try go_wp2_with (first | ((with_reducible refine gate_dst (N := 4) rfl ?_); refine box_event (by rfl) (N := 4) (by rfl) (cs := #[.int .i64 0, .int .i64 0]) (t := 71) Qr ?_; intro gb104 hg w33 hbox hb; have BK104 := am (hbox); have GE104 := ge HB hg; replace HB := bs HB hb; obtain ⟨NB101_104, NB104_101⟩ := ne2 BK101 hg; replace BK101 := bb BK101 hb; clear hb hbox hg; obtain ⟨_, _⟩ := o2 NB104_101 NB101_104; obtain ⟨_, _, _, _⟩ := b2 BK104))
        have n0_ : Aside0 (((w33.setCell ⟨gb104, 0, none⟩ (.int .i64 ((rd_T71 l0_1 x3_1).f0))).setCell ⟨gb104, 1, none⟩ (.int .i64 ((rd_T71 l0_1 x3_1).f1))).heap[gb101]? = some (.cells #[.int .i64 a0_0, .slice (some ad103) l0_1.length c0_1] 30 (0, 0))) := ⟨Q2 NB101_104 BK101⟩; have n1_ : Aside0 (((w33.setCell ⟨gb104, 0, none⟩ (.int .i64 ((rd_T71 l0_1 x3_1).f0))).setCell ⟨gb104, 1, none⟩ (.int .i64 ((rd_T71 l0_1 x3_1).f1))).heap[gb104]? = some (.cells #[.int .i64 ((rd_T71 l0_1 x3_1).f0), .int .i64 ((rd_T71 l0_1 x3_1).f1)] 71 (0, 0))) := ⟨Q63 BK104⟩; have n2_ : Aside0 (Below w.heap.size w ((w33.setCell ⟨gb104, 0, none⟩ (.int .i64 ((rd_T71 l0_1 x3_1).f0))).setCell ⟨gb104, 1, none⟩ (.int .i64 ((rd_T71 l0_1 x3_1).f1)))) := ⟨Q4 HB GE104⟩; (try clear BK101); (try clear BK104); (try clear HB); generalize ((w33.setCell ⟨gb104, 0, none⟩ (.int .i64 ((rd_T71 l0_1 x3_1).f0))).setCell ⟨gb104, 1, none⟩ (.int .i64 ((rd_T71 l0_1 x3_1).f1))) = w36 at n0_ n1_ n2_ ⊢; have BK101 := n0_; have BK104 := n1_; have HB := n2_; clear n0_ n1_ n2_; replace BK101 := am (blk_drew BK101.out); replace BK104 := am (blk_drew BK104.out); replace HB := am (below_drew1 HB.out); refine start_ (n := 38) (S := fun w' => w'.cell? ⟨gb104, 0, none⟩ = some (.int .i64 ((rd_T71 l0_1 x3_1).f0)) ∧ w'.cell? ⟨gb104, 1, none⟩ = some (.int .i64 ((rd_T71 l0_1 x3_1).f1)) ∧ w'.cell? ⟨gb101, 0, none⟩ = some (.int .i64 a0_0) ∧ w'.cell? ⟨gb101, 1, none⟩ = some (.slice (some ad103) l0_1.length c0_1)) (ds := []) #[false, false, false, false, false, false, false, false, false, false, false, false, false, false, false, false, false, false, false, false, false, false, false, false, false, false, false, false, false, false, false, false, false, false, false, false, false, false] (by kernel_rfl) rfl rfl ⟨(blk_cell BK104.out 0).trans rfl, (blk_cell BK104.out 1).trans rfl, (blk_cell BK101.out 0).trans rfl, (blk_cell BK101.out 1).trans rfl⟩ (fun hHeld => ?_); refine with_tabW spec_l2Good.tab5 spec_l2Good.bits5 (fun HT_ HW_ => ?_); generalize w36.drew = w37 at BK101 BK104 HB hHeld ⊢; refine pq 0 17 rfl rfl HT_ ?_; refine pq 2 19 rfl rfl HT_ ?_; refine tq4 1 18 rfl rfl HT_ HW_ hHeld ?_; refine tq4 3 20 rfl rfl HT_ HW_ hHeld ?_; refine pq 4 21 rfl rfl HT_ ?_; refine oq 5 22 rfl rfl HT_ (fun K hK => ?_); refine goes_ Try.func110 (by kernel_rfl) rfl #[.int .i64 ((rd_T71 l0_1 x3_1).f0), .int .i64 0, .int .i64 (wrap64 (a0_0 - 1))] (by rfl) rfl rfl Q6 ?_
        with_reducible refine (spec_l1In.calls ((rd_T71 l0_1 x3_1).f0) 0 (wrap64 (a0_0 - 1)) true _ A5.out).mono ?_
        rintro e w' ⟨rfl, ⟨nd, rfl⟩⟩; refine ⟨_, rfl, ?_⟩; refine hK.out _ _ ⟨(blk_cell BK104.out 0).trans rfl, (blk_cell BK104.out 1).trans rfl, (blk_cell BK101.out 0).trans rfl, (blk_cell BK101.out 1).trans rfl⟩ (fun hHeld => ?_); clear hK K; refine nz ?_
        refine pq 6 23 rfl rfl HT_ ?_; refine pq 7 24 rfl rfl HT_ ?_; refine pq 8 25 rfl rfl HT_ ?_; refine pq 10 27 rfl rfl HT_ ?_; refine tq4 9 26 rfl rfl HT_ HW_ hHeld ?_; refine tq4 11 28 rfl rfl HT_ HW_ hHeld ?_; refine pq 12 29 rfl rfl HT_ ?_; refine oq 13 30 rfl rfl HT_ (fun K hK => ?_); refine goes_ Try.func110 (by kernel_rfl) rfl #[.int .i64 ((rd_T71 l0_1 x3_1).f1), .int .i64 0, .int .i64 (wrap64 (a0_0 - 1))] (by rfl) rfl rfl Q6 ?_
        with_reducible refine (spec_l1In.calls ((rd_T71 l0_1 x3_1).f1) 0 (wrap64 (a0_0 - 1)) true _ A7.out).mono ?_
        rintro e w' ⟨rfl, ⟨nd, rfl⟩⟩; refine ⟨_, rfl, ?_⟩; refine hK.out _ _ ⟨(blk_cell BK104.out 0).trans rfl, (blk_cell BK104.out 1).trans rfl, (blk_cell BK101.out 0).trans rfl, (blk_cell BK101.out 1).trans rfl⟩ (fun hHeld => ?_); clear hK K; refine nz ?_
        refine pq 14 31 rfl rfl HT_ ?_; refine pq 15 32 rfl rfl HT_ ?_; refine pq 16 33 rfl rfl HT_ ?_; refine pq 17 34 rfl rfl HT_ ?_; refine pq 19 36 rfl rfl HT_ ?_; refine tq4 18 35 rfl rfl HT_ HW_ hHeld ?_; refine tq4 20 37 rfl rfl HT_ HW_ hHeld ?_; refine pq 21 38 rfl rfl HT_ ?_; refine pq 22 39 rfl rfl HT_ ?_; refine pq 23 40 rfl rfl HT_ ?_; refine pq 24 41 rfl rfl HT_ ?_; refine pq 25 42 rfl rfl HT_ ?_; refine pq 26 43 rfl rfl HT_ ?_; refine pu 27 44 rfl rfl HT_ ?_; refine pu 28 45 rfl rfl HT_ ?_; refine pu 29 46 rfl rfl HT_ ?_; refine pu 30 47 rfl rfl HT_ ?_; refine pu 31 48 rfl rfl HT_ ?_; refine pu 32 49 rfl rfl HT_ ?_; refine pu 33 50 rfl rfl HT_ ?_; refine pu 34 51 rfl rfl HT_ ?_; refine pu 35 52 rfl rfl HT_ ?_; refine pq 36 53 rfl rfl HT_ ?_; refine pq 37 54 rfl rfl HT_ ?_; refine done_ (done_of HT_.out (by kernel_rfl)) ?_
        go_upto_if 54 with (fail)
        have H := HU31.out; clear HU31; have H' := Aside0.mk H; clear H
        go_wp2
        go_roundg k1
        case measure => have := HK1.out; omega
        case rel => exact ⟨(wrap64 (x3_1 + 1)), Q17, H', ⟨Q163⟩, ⟨Q0 BK101⟩, ⟨Q1 HB⟩⟩
     ·replace c8 := Bool.eq_false_iff.mpr c8
      subst c8; have H1 : (some false) = some r := by rw [if_neg (show ¬ (false = true) by decide)] at H; exact H
      clear H; have H := H1; clear H1; have HU38 := Aside0.mk H; clear H; obtain ⟨_, _, _, _⟩ := b2 BK101; have p103 : 0 ≤ (x3_1 : Int) := D4; have q103 : x3_1 < (l0_1.length : Int) := D4; obtain ⟨ad103, e103, hx103_0, hx103_1⟩ := at_T71 HR0_1.out x3_1 p103 q103
      cases e103
      replace hx103_0 := (HB.out.cell (World.block_lt_of_cell? w _ hx103_0)).trans hx103_0; replace hx103_1 := (HB.out.cell (World.block_lt_of_cell? w _ hx103_1)).trans hx103_1; replace p103 := eq_true p103; replace q103 := eq_true q103
      try go_wp2_with (first | ((with_reducible refine gate_dst (N := 4) rfl ?_); refine box_event (by rfl) (N := 4) (by rfl) (cs := #[.int .i64 0, .int .i64 0]) (t := 71) Qr ?_; intro gb104 hg w40 hbox hb; have BK104 := am (hbox); have GE104 := ge HB hg; replace HB := bs HB hb; obtain ⟨NB101_104, NB104_101⟩ := ne2 BK101 hg; replace BK101 := bb BK101 hb; clear hb hbox hg; obtain ⟨_, _⟩ := o2 NB104_101 NB101_104; obtain ⟨_, _, _, _⟩ := b2 BK104))
      have n0_ : Aside0 (((w40.setCell ⟨gb104, 0, none⟩ (.int .i64 ((rd_T71 l0_1 x3_1).f0))).setCell ⟨gb104, 1, none⟩ (.int .i64 ((rd_T71 l0_1 x3_1).f1))).heap[gb101]? = some (.cells #[.int .i64 a0_0, .slice (some ad103) l0_1.length c0_1] 30 (0, 0))) := ⟨Q2 NB101_104 BK101⟩; have n1_ : Aside0 (((w40.setCell ⟨gb104, 0, none⟩ (.int .i64 ((rd_T71 l0_1 x3_1).f0))).setCell ⟨gb104, 1, none⟩ (.int .i64 ((rd_T71 l0_1 x3_1).f1))).heap[gb104]? = some (.cells #[.int .i64 ((rd_T71 l0_1 x3_1).f0), .int .i64 ((rd_T71 l0_1 x3_1).f1)] 71 (0, 0))) := ⟨Q63 BK104⟩; have n2_ : Aside0 (Below w.heap.size w ((w40.setCell ⟨gb104, 0, none⟩ (.int .i64 ((rd_T71 l0_1 x3_1).f0))).setCell ⟨gb104, 1, none⟩ (.int .i64 ((rd_T71 l0_1 x3_1).f1)))) := ⟨Q4 HB GE104⟩; (try clear BK101); (try clear BK104); (try clear HB); generalize ((w40.setCell ⟨gb104, 0, none⟩ (.int .i64 ((rd_T71 l0_1 x3_1).f0))).setCell ⟨gb104, 1, none⟩ (.int .i64 ((rd_T71 l0_1 x3_1).f1))) = w43 at n0_ n1_ n2_ ⊢; have BK101 := n0_; have BK104 := n1_; have HB := n2_; clear n0_ n1_ n2_; replace BK101 := am (blk_drew BK101.out); replace BK104 := am (blk_drew BK104.out); replace HB := am (below_drew1 HB.out); refine start_ (n := 38) (S := fun w' => w'.cell? ⟨gb104, 0, none⟩ = some (.int .i64 ((rd_T71 l0_1 x3_1).f0)) ∧ w'.cell? ⟨gb104, 1, none⟩ = some (.int .i64 ((rd_T71 l0_1 x3_1).f1)) ∧ w'.cell? ⟨gb101, 0, none⟩ = some (.int .i64 a0_0) ∧ w'.cell? ⟨gb101, 1, none⟩ = some (.slice (some ad103) l0_1.length c0_1)) (ds := []) #[false, false, false, false, false, false, false, false, false, false, false, false, false, false, false, false, false, false, false, false, false, false, false, false, false, false, false, false, false, false, false, false, false, false, false, false, false, false] (by kernel_rfl) rfl rfl ⟨(blk_cell BK104.out 0).trans rfl, (blk_cell BK104.out 1).trans rfl, (blk_cell BK101.out 0).trans rfl, (blk_cell BK101.out 1).trans rfl⟩ (fun hHeld => ?_); refine with_tabW spec_l2Good.tab5 spec_l2Good.bits5 (fun HT_ HW_ => ?_); generalize w43.drew = w44 at BK101 BK104 HB hHeld ⊢; refine pq 0 17 rfl rfl HT_ ?_; refine pq 2 19 rfl rfl HT_ ?_; refine tq4 1 18 rfl rfl HT_ HW_ hHeld ?_; refine tq4 3 20 rfl rfl HT_ HW_ hHeld ?_; refine pq 4 21 rfl rfl HT_ ?_; refine oq 5 22 rfl rfl HT_ (fun K hK => ?_); refine goes_ Try.func110 (by kernel_rfl) rfl #[.int .i64 ((rd_T71 l0_1 x3_1).f0), .int .i64 0, .int .i64 (wrap64 (a0_0 - 1))] (by rfl) rfl rfl Q6 ?_
      with_reducible refine (spec_l1In.calls ((rd_T71 l0_1 x3_1).f0) 0 (wrap64 (a0_0 - 1)) true _ A5.out).mono ?_
      rintro e w' ⟨rfl, ⟨nd, rfl⟩⟩; refine ⟨_, rfl, ?_⟩; refine hK.out _ _ ⟨(blk_cell BK104.out 0).trans rfl, (blk_cell BK104.out 1).trans rfl, (blk_cell BK101.out 0).trans rfl, (blk_cell BK101.out 1).trans rfl⟩ (fun hHeld => ?_); clear hK K; refine nz ?_
      refine pq 6 23 rfl rfl HT_ ?_; refine pq 7 24 rfl rfl HT_ ?_; refine pq 8 25 rfl rfl HT_ ?_; refine pq 10 27 rfl rfl HT_ ?_; refine tq4 9 26 rfl rfl HT_ HW_ hHeld ?_; refine tq4 11 28 rfl rfl HT_ HW_ hHeld ?_; refine pq 12 29 rfl rfl HT_ ?_; refine oq 13 30 rfl rfl HT_ (fun K hK => ?_); refine goes_ Try.func110 (by kernel_rfl) rfl #[.int .i64 ((rd_T71 l0_1 x3_1).f1), .int .i64 0, .int .i64 (wrap64 (a0_0 - 1))] (by rfl) rfl rfl Q6 ?_
      with_reducible refine (spec_l1In.calls ((rd_T71 l0_1 x3_1).f1) 0 (wrap64 (a0_0 - 1)) false _ A7.out).mono ?_
      rintro e w' ⟨rfl, ⟨nd, rfl⟩⟩; refine ⟨_, rfl, ?_⟩; refine hK.out _ _ ⟨(blk_cell BK104.out 0).trans rfl, (blk_cell BK104.out 1).trans rfl, (blk_cell BK101.out 0).trans rfl, (blk_cell BK101.out 1).trans rfl⟩ (fun hHeld => ?_); clear hK K; refine nz ?_
      refine pq 14 31 rfl rfl HT_ ?_; refine pq 15 32 rfl rfl HT_ ?_; refine pq 16 33 rfl rfl HT_ ?_; refine pu 17 34 rfl rfl HT_ ?_; refine pu 18 35 rfl rfl HT_ ?_; refine pu 19 36 rfl rfl HT_ ?_; refine pu 20 37 rfl rfl HT_ ?_; refine pu 21 38 rfl rfl HT_ ?_; refine pq 22 39 rfl rfl HT_ ?_; refine pq 23 40 rfl rfl HT_ ?_; refine pu 24 41 rfl rfl HT_ ?_; refine pu 25 42 rfl rfl HT_ ?_; refine pu 26 43 rfl rfl HT_ ?_; refine pu 27 44 rfl rfl HT_ ?_; refine pu 28 45 rfl rfl HT_ ?_; refine pu 29 46 rfl rfl HT_ ?_; refine pu 30 47 rfl rfl HT_ ?_; refine pu 31 48 rfl rfl HT_ ?_; refine pu 32 49 rfl rfl HT_ ?_; refine pu 33 50 rfl rfl HT_ ?_; refine pu 34 51 rfl rfl HT_ ?_; refine pu 35 52 rfl rfl HT_ ?_; refine pu 36 53 rfl rfl HT_ ?_; refine pq 37 54 rfl rfl HT_ ?_; refine done_ (done_of HT_.out (by kernel_rfl)) ?_
      go_upto_if 54 with (fail)
      have H := HU38.out; clear HU38; obtain rfl := Option.some.inj H
      go_wp2
      go_ret
      exact ⟨Q19, Q1 HB⟩
    ·replace c6 := Bool.eq_false_iff.mpr c6
     subst c6; have H1 : (some false) = some r := by rw [if_neg (show ¬ (false = true) by decide)] at H; exact H
     clear H; have H := H1; clear H1; have HU45 := Aside0.mk H; clear H; obtain ⟨_, _, _, _⟩ := b2 BK101; have p103 : 0 ≤ (x3_1 : Int) := D4; have q103 : x3_1 < (l0_1.length : Int) := D4; obtain ⟨ad103, e103, hx103_0, hx103_1⟩ := at_T71 HR0_1.out x3_1 p103 q103
     cases e103
     replace hx103_0 := (HB.out.cell (World.block_lt_of_cell? w _ hx103_0)).trans hx103_0; replace hx103_1 := (HB.out.cell (World.block_lt_of_cell? w _ hx103_1)).trans hx103_1; replace p103 := eq_true p103; replace q103 := eq_true q103
     try go_wp2_with (first | ((with_reducible refine gate_dst (N := 4) rfl ?_); refine box_event (by rfl) (N := 4) (by rfl) (cs := #[.int .i64 0, .int .i64 0]) (t := 71) Qr ?_; intro gb104 hg w47 hbox hb; have BK104 := am (hbox); have GE104 := ge HB hg; replace HB := bs HB hb; obtain ⟨NB101_104, NB104_101⟩ := ne2 BK101 hg; replace BK101 := bb BK101 hb; clear hb hbox hg; obtain ⟨_, _⟩ := o2 NB104_101 NB101_104; obtain ⟨_, _, _, _⟩ := b2 BK104))
     have n0_ : Aside0 (((w47.setCell ⟨gb104, 0, none⟩ (.int .i64 ((rd_T71 l0_1 x3_1).f0))).setCell ⟨gb104, 1, none⟩ (.int .i64 ((rd_T71 l0_1 x3_1).f1))).heap[gb101]? = some (.cells #[.int .i64 a0_0, .slice (some ad103) l0_1.length c0_1] 30 (0, 0))) := ⟨Q2 NB101_104 BK101⟩; have n1_ : Aside0 (((w47.setCell ⟨gb104, 0, none⟩ (.int .i64 ((rd_T71 l0_1 x3_1).f0))).setCell ⟨gb104, 1, none⟩ (.int .i64 ((rd_T71 l0_1 x3_1).f1))).heap[gb104]? = some (.cells #[.int .i64 ((rd_T71 l0_1 x3_1).f0), .int .i64 ((rd_T71 l0_1 x3_1).f1)] 71 (0, 0))) := ⟨Q63 BK104⟩; have n2_ : Aside0 (Below w.heap.size w ((w47.setCell ⟨gb104, 0, none⟩ (.int .i64 ((rd_T71 l0_1 x3_1).f0))).setCell ⟨gb104, 1, none⟩ (.int .i64 ((rd_T71 l0_1 x3_1).f1)))) := ⟨Q4 HB GE104⟩; (try clear BK101); (try clear BK104); (try clear HB); generalize ((w47.setCell ⟨gb104, 0, none⟩ (.int .i64 ((rd_T71 l0_1 x3_1).f0))).setCell ⟨gb104, 1, none⟩ (.int .i64 ((rd_T71 l0_1 x3_1).f1))) = w50 at n0_ n1_ n2_ ⊢; have BK101 := n0_; have BK104 := n1_; have HB := n2_; clear n0_ n1_ n2_; replace BK101 := am (blk_drew BK101.out); replace BK104 := am (blk_drew BK104.out); replace HB := am (below_drew1 HB.out); refine start_ (n := 38) (S := fun w' => w'.cell? ⟨gb104, 0, none⟩ = some (.int .i64 ((rd_T71 l0_1 x3_1).f0)) ∧ w'.cell? ⟨gb104, 1, none⟩ = some (.int .i64 ((rd_T71 l0_1 x3_1).f1)) ∧ w'.cell? ⟨gb101, 0, none⟩ = some (.int .i64 a0_0) ∧ w'.cell? ⟨gb101, 1, none⟩ = some (.slice (some ad103) l0_1.length c0_1)) (ds := []) #[false, false, false, false, false, false, false, false, false, false, false, false, false, false, false, false, false, false, false, false, false, false, false, false, false, false, false, false, false, false, false, false, false, false, false, false, false, false] (by kernel_rfl) rfl rfl ⟨(blk_cell BK104.out 0).trans rfl, (blk_cell BK104.out 1).trans rfl, (blk_cell BK101.out 0).trans rfl, (blk_cell BK101.out 1).trans rfl⟩ (fun hHeld => ?_); refine with_tabW spec_l2Good.tab5 spec_l2Good.bits5 (fun HT_ HW_ => ?_); generalize w50.drew = w51 at BK101 BK104 HB hHeld ⊢; refine pq 0 17 rfl rfl HT_ ?_; refine pq 2 19 rfl rfl HT_ ?_; refine tq4 1 18 rfl rfl HT_ HW_ hHeld ?_; refine tq4 3 20 rfl rfl HT_ HW_ hHeld ?_; refine pq 4 21 rfl rfl HT_ ?_; refine oq 5 22 rfl rfl HT_ (fun K hK => ?_); refine goes_ Try.func110 (by kernel_rfl) rfl #[.int .i64 ((rd_T71 l0_1 x3_1).f0), .int .i64 0, .int .i64 (wrap64 (a0_0 - 1))] (by rfl) rfl rfl Q6 ?_
     with_reducible refine (spec_l1In.calls ((rd_T71 l0_1 x3_1).f0) 0 (wrap64 (a0_0 - 1)) false _ A5.out).mono ?_
     rintro e w' ⟨rfl, ⟨nd, rfl⟩⟩; refine ⟨_, rfl, ?_⟩; refine hK.out _ _ ⟨(blk_cell BK104.out 0).trans rfl, (blk_cell BK104.out 1).trans rfl, (blk_cell BK101.out 0).trans rfl, (blk_cell BK101.out 1).trans rfl⟩ (fun hHeld => ?_); clear hK K; refine nz ?_
     refine pq 6 23 rfl rfl HT_ ?_; refine pq 7 24 rfl rfl HT_ ?_; refine pu 8 25 rfl rfl HT_ ?_; refine pu 9 26 rfl rfl HT_ ?_; refine pu 10 27 rfl rfl HT_ ?_; refine pu 11 28 rfl rfl HT_ ?_; refine pu 12 29 rfl rfl HT_ ?_; refine pu 13 30 rfl rfl HT_ ?_; refine pu 14 31 rfl rfl HT_ ?_; refine pq 15 32 rfl rfl HT_ ?_; refine pq 16 33 rfl rfl HT_ ?_; refine pu 17 34 rfl rfl HT_ ?_; refine pu 18 35 rfl rfl HT_ ?_; refine pu 19 36 rfl rfl HT_ ?_; refine pu 20 37 rfl rfl HT_ ?_; refine pu 21 38 rfl rfl HT_ ?_; refine pq 22 39 rfl rfl HT_ ?_; refine pq 23 40 rfl rfl HT_ ?_; refine pu 24 41 rfl rfl HT_ ?_; refine pu 25 42 rfl rfl HT_ ?_; refine pu 26 43 rfl rfl HT_ ?_; refine pu 27 44 rfl rfl HT_ ?_; refine pu 28 45 rfl rfl HT_ ?_; refine pu 29 46 rfl rfl HT_ ?_; refine pu 30 47 rfl rfl HT_ ?_; refine pu 31 48 rfl rfl HT_ ?_; refine pu 32 49 rfl rfl HT_ ?_; refine pu 33 50 rfl rfl HT_ ?_; refine pu 34 51 rfl rfl HT_ ?_; refine pu 35 52 rfl rfl HT_ ?_; refine pu 36 53 rfl rfl HT_ ?_; refine pq 37 54 rfl rfl HT_ ?_; refine done_ (done_of HT_.out (by kernel_rfl)) ?_
     go_upto_if 54 with (fail)
     have H := HU45.out; clear HU45; obtain rfl := Option.some.inj H
     go_wp2
     go_ret
     exact ⟨Q19, Q1 HB⟩
   ·rw [if_neg c3] at H
    have c3b0 := decide_eq_false c3; clear c3; replace H := (ob H); obtain ⟨t102, A520, H⟩ := H; (try dsimp only at H); have A52 := Aside0.mk A520; clear A520; obtain rfl := Option.some.inj H; obtain ⟨_, _, _, _⟩ := b2 BK101
    go_wp2_with (first | ((with_reducible refine gate_callee (f := 110) rfl ?_); refine goesL_ (some 57) rfl rfl Try.func110 (by kernel_rfl) rfl #[.int .i64 a0_0, .int .i64 0, .int .i64 8] rfl Q6 ?_; (with_reducible refine (spec_l1In.calls a0_0 0 8 t102 _ A52.out).mono ?_); rintro e w' ⟨rfl, ⟨nd, rfl⟩⟩; refine ⟨_, rfl, ?_⟩))
    go_ret
    exact ⟨Q19, Q1 HB⟩
/-! ### spec_DistancesOf: function 70 -/
def spec_DistancesOf.f (k : Nat) (a0_0 : Int) (l0_1 : List (S71)) : Option ((List (List Int)) × Bool) := (spec_l2Good.f k a0_0 l0_1).bind fun t102 => (if t102 = true then ((spec_l2Dist.f k a0_0 l0_1).bind fun t103 => (some (t103, true))) else (some ((([] : List (List Int))), false)))
theorem spec_DistancesOf.mono : ∀ a0 a1 k, LeO (spec_DistancesOf.f k a0 a1) (spec_DistancesOf.f (k + 1) a0 a1) := by
 intro a0 a1 k
 unfold spec_DistancesOf.f
 repeat' first | (with_reducible first | exact spec_l2Dist.mono _ _ _ | exact spec_l2Good.mono _ _ _ | exact LeO.refl _ | exact LeO.none _ | refine LeO.ite ?_ ?_ | refine LeO.bind ?_ (fun _ => ?_))
set_option maxHeartbeats 8000000 in
set_option maxRecDepth 100000 in
theorem spec_DistancesOf.calls (k : Nat) (a0_0 : Int) (A0_1 : Option Addr) (c0_1 : Nat) (l0_1 : List (S71)) (r1 : List (List Int)) (r2 : Bool) (w : World) (hr0_1 : Kd.C k71 w A0_1 l0_1.length l0_1) (hc0_1 : l0_1.length ≤ c0_1) (h : spec_DistancesOf.f k a0_0 l0_1 = some (r1, r2)) :
  Calls Try.prog 70 #[.agg #[.int .i64 a0_0, .slice A0_1 l0_1.length c0_1]] w fun e w' => ∃ v0_ : Value, e = .returned (.tuple #[v0_, .bool r2]) ∧ Kd.S (Kd.slice 3 (Kd.int .i64)) 25 w' w.heap.size (fun _ => True) v0_ r1 ∧ Below w.heap.size w w' := by
 have hu30 := Try.underlying30
 have HR0_1 := Aside0.mk hr0_1
 have HC0_1 := Aside0.mk hc0_1
 clear hr0_1 hc0_1
 have HB := am (Below.refl w.heap.size w)
 have H : ((spec_l2Good.f k a0_0 l0_1).bind fun t102 => (if t102 = true then ((spec_l2Dist.f k a0_0 l0_1).bind fun t103 => (some (t103, true))) else (some ((([] : List (List Int))), false)))) = some (r1, r2) := h
 clear h
 replace H := (ob H)
 obtain ⟨t102, A20, H⟩ := H
 (try dsimp only at H)
 have A2 := Aside0.mk A20
 clear A20
 have HU3 := Aside0.mk H
 clear H
 go_enter Try.func70, Try.ntmps70
 go_upto_if 6 with (first | ((with_reducible refine gate_dst (N := 1) rfl ?_); refine box_event (by rfl) (N := 1) (by rfl) (cs := #[.int .i64 a0_0, .slice A0_1 l0_1.length c0_1]) (t := 30) Qr ?_; intro gb101 hg w4 hbox hb; have BK101 := am (hbox); replace HB := bs HB hb; clear hb hbox hg; obtain ⟨_, _, _, _⟩ := b2 BK101) | ((with_reducible refine gate_callee (f := 120) rfl ?_); refine goesL_ (some 5) rfl rfl Try.func120 (by kernel_rfl) rfl #[.agg #[.int .i64 a0_0, .slice A0_1 l0_1.length c0_1]] rfl Q6 ?_; (with_reducible refine (spec_l2Good.calls k a0_0 _ _ l0_1 t102 _ ?side1 ?side2 A2.out).mono ?_); (case side1 => exact (Q11 HR0_1 HB)); (case side2 => exact HC0_1.out); rintro e w6 ⟨rfl, hb⟩; refine ⟨_, rfl, ?_⟩; replace BK101 := bb BK101 hb; replace HB := bs HB hb; (try clear hb)))
 (try simp only [Act.put, List.setIfInBounds_toArray, List.set_cons_zero, List.set_cons_succ])
 have H := HU3.out
 clear HU3
 by_cases c7 : t102 = true
 ·subst c7
  have H1 : ((spec_l2Dist.f k a0_0 l0_1).bind fun t103 => (some (t103, true))) = some (r1, r2) := by rw [if_pos rfl] at H; exact H
  clear H; have H := H1; clear H1; replace H := (ob H); obtain ⟨t103, A80, H⟩ := H; (try dsimp only at H); have A8 := Aside0.mk A80; clear A80
  simp only [Option.some.injEq, Prod.mk.injEq] at H
  obtain ⟨rfl, rfl⟩ := H; obtain ⟨_, _, _, _⟩ := b2 BK101
  go_wp2_with (first | ((with_reducible refine gate_callee (f := 157) rfl ?_); refine goesL_ (some 9) rfl rfl Try.func157 (by kernel_rfl) rfl #[.agg #[.int .i64 a0_0, .slice A0_1 l0_1.length c0_1]] rfl Q6 ?_; (with_reducible refine (spec_l2Dist.calls k a0_0 _ _ l0_1 t103 _ ?side1 ?side2 A8.out).mono ?_); (case side1 => exact (Q11 HR0_1 HB)); (case side2 => exact HC0_1.out); rintro e w10 ⟨v104, rfl, ho0, hb⟩; refine ⟨_, rfl, ?_⟩; have HO105 := am (Kd.S_lower ho0 (below_size (Q1 HB))); replace BK101 := bb BK101 hb; replace HB := bs HB hb; (try clear hb); (try clear ho0)))
  go_ret2
  exact ⟨_, Q19, Q10 HO105, Q1 HB⟩
 ·replace c7 := Bool.eq_false_iff.mpr c7
  subst c7; have H1 : (some ((([] : List (List Int))), false)) = some (r1, r2) := by rw [if_neg (show ¬ (false = true) by decide)] at H; exact H
  clear H; have H := H1; clear H1; obtain ⟨y106, hy106⟩ : ∃ y_ : List (List Int), y_ = (([] : List (List Int))) := ⟨_, rfl⟩; replace H : (some (y106, false)) = some (r1, r2) := RH hy106 H; have Ny106 := Aside0.mk hy106; clear hy106
  simp only [Option.some.injEq, Prod.mk.injEq] at H
  obtain ⟨rfl, rfl⟩ := H
  go_wp2_with (first | ((with_reducible refine gate_dst (N := 7) rfl ?_); refine Kd.S_lit (Kd.slice 3 (Kd.int .i64)) _ 25 (by rfl) (N := 7) (by rfl) (xs := ([] : List (List Int))) (inner := []) (ok := fun _ => True) (okp := fun _ => True) Qr ?hp (fun _ hk => hk) trivial (Below.refl _ _) (Nat.le_refl _) (by simp) ?_; (case hp => exact (Reps.none _ _)); intro v107 w11 ho12 hb hg_ hnew_; clear hg_ hnew_; (first | rw [← Ny106.out] at ho12 | (simp only [Int.reduceToNat] at ho12; rw [← Ny106.out] at ho12)); have HO108 := am (Kd.S_lower ho12 (below_size (Q1 HB))); replace BK101 := bb BK101 hb; replace HB := bs HB hb; clear hb ho12))
  go_ret2
  exact ⟨_, Q19, Q10 HO108, Q1 HB⟩
/-! ### laws_rDistances: function 46 -/
def laws_rDistances.f (k : Nat) (a0_0 : Int) (l0_1 : List (S71)) (l1 : List (List Int)) : Option (Bool) := (spec_DistancesOf.f k a0_0 l0_1).bind fun bt102 => (if bt102.2 = true then ((laws_rTable.f k l1 bt102.1).bind fun t106 => (some t106)) else (some false))
theorem laws_rDistances.mono : ∀ a0 a1 a2 k, LeO (laws_rDistances.f k a0 a1 a2) (laws_rDistances.f (k + 1) a0 a1 a2) := by
 intro a0 a1 a2 k
 unfold laws_rDistances.f
 repeat' first | (with_reducible first | exact laws_rTable.mono _ _ _ | exact spec_DistancesOf.mono _ _ _ | exact LeO.refl _ | exact LeO.none _ | refine LeO.ite ?_ ?_ | refine LeO.bind ?_ (fun _ => ?_))
set_option maxHeartbeats 8000000 in
set_option maxRecDepth 100000 in
theorem laws_rDistances.calls (k : Nat) (a0_0 : Int) (A0_1 : Option Addr) (c0_1 : Nat) (l0_1 : List (S71)) (A1 : Option Addr) (c1 : Nat) (l1 : List (List Int)) (r : Bool) (w : World) (hr0_1 : Kd.C k71 w A0_1 l0_1.length l0_1) (hc0_1 : l0_1.length ≤ c0_1) (hr1 : Kd.C (Kd.slice 3 (Kd.int .i64)) w A1 l1.length l1) (hc1 : l1.length ≤ c1) (h : laws_rDistances.f k a0_0 l0_1 l1 = some r) :
  Calls Try.prog 46 #[.agg #[.int .i64 a0_0, .slice A0_1 l0_1.length c0_1], .slice A1 l1.length c1] w fun e w' => e = .returned (.bool r) ∧ Below w.heap.size w w' := by
 have hu30 := Try.underlying30
 have HR0_1 := Aside0.mk hr0_1
 have HC0_1 := Aside0.mk hc0_1
 clear hr0_1 hc0_1
 have HR1 := Aside0.mk hr1
 have HC1 := Aside0.mk hc1
 clear hr1 hc1
 have HB := am (Below.refl w.heap.size w)
 have H : ((spec_DistancesOf.f k a0_0 l0_1).bind fun bt102 => (if bt102.2 = true then ((laws_rTable.f k l1 bt102.1).bind fun t106 => (some t106)) else (some false))) = some r := h
 clear h
 replace H := (ob H)
 obtain ⟨⟨t102, t105⟩, A30, H⟩ := H
 (try dsimp only at H)
 have A3 := Aside0.mk A30
 clear A30
 have HU4 := Aside0.mk H
 clear H
 go_enter Try.func46, Try.ntmps46
 go_upto_region 2 with (first | ((with_reducible refine gate_dst (N := 2) rfl ?_); refine box_event (by rfl) (N := 2) (by rfl) (cs := #[.int .i64 a0_0, .slice A0_1 l0_1.length c0_1]) (t := 30) Qr ?_; intro gb101 hg w5 hbox hb; have BK101 := am (hbox); replace HB := bs HB hb; clear hb hbox hg; obtain ⟨_, _, _, _⟩ := b2 BK101) | ((with_reducible refine gate_callee (f := 70) rfl ?_); refine goesL_ (some 9) rfl rfl Try.func70 (by kernel_rfl) rfl #[.agg #[.int .i64 a0_0, .slice A0_1 l0_1.length c0_1]] rfl Q6 ?_; (with_reducible refine (spec_DistancesOf.calls k a0_0 _ _ l0_1 t102 t105 _ ?side1 ?side2 A3.out).mono ?_); (case side1 => exact (Q11 HR0_1 HB)); (case side2 => exact HC0_1.out); rintro e w7 ⟨v103, rfl, ho0, hb⟩; refine ⟨_, rfl, ?_⟩; have HO104 := am (Kd.S_lower ho0 (below_size (Q1 HB))); replace BK101 := bb BK101 hb; replace HB := bs HB hb; (try clear hb); (try clear ho0)))
 (try simp only [Act.put, List.setIfInBounds_toArray, List.set_cons_zero, List.set_cons_succ])
 have H := HU4.out
 clear HU4
 by_cases c8 : t105 = true
 ·subst c8
  have H1 : ((laws_rTable.f k l1 t102).bind fun t106 => (some t106)) = some r := by rw [if_pos rfl] at H; exact H
  clear H; have H := H1; clear H1; replace H := (ob H); obtain ⟨t106, A90, H⟩ := H; (try dsimp only at H); have A9 := Aside0.mk A90; clear A90; obtain rfl := Option.some.inj H; obtain ⟨Ao10, co10, eo10⟩ := Kd.S_slice HO104.out; subst eo10
  go_wp2_with (first | (go_at_call 72; (with_reducible refine (laws_rTable.calls k _ _ l1 _ _ t102 t106 _ ?side1 ?side2 ?side3 ?side4 A9.out).mono ?_); (case side1 => exact (Q11 HR1 HB)); (case side2 => exact HC1.out); (case side3 => exact (Q59 HO104)); (case side4 => exact (Kd.S_reads' HO104.out).2.1); rintro e w' ⟨rfl, ⟨nd, rfl⟩⟩))
  go_ret
  exact ⟨Q19, Q1 HB⟩
 ·replace c8 := Bool.eq_false_iff.mpr c8
  subst c8; have H1 : (some false) = some r := by rw [if_neg (show ¬ (false = true) by decide)] at H; exact H
  clear H; have H := H1; clear H1; obtain rfl := Option.some.inj H
  go_wp2
  go_ret
  exact ⟨Q19, Q1 HB⟩
theorem eqA71 (d : Nat) (w : World) (x0 y0 : Int) (x1 y1 : Int) :
  (Op.equalIn (d + 2) 71 (.agg #[.int .i64 x0, .int .i64 x1]) (.agg #[.int .i64 y0, .int .i64 y1])).run Try.prog w = .ok (x0 == y0 && (x1 == y1)) w := by
 have hi : ∃ i, Try.prog.info? 3 = some i := by
  have h : (Try.prog.info? 3).isSome = true := by kernel_rfl
  exact Option.isSome_iff_exists.1 h
 obtain ⟨i, hi⟩ := hi
 have hc : Try.prog.cellsOf 3 = 1 := by kernel_rfl
 rw [run_equalIn_array (P := Try.prog) w (d + 1) _ _ Try.underlying71 hi, hc]
 have pa : ∀ a b : Int, (part 3 (#[.int .i64 a, .int .i64 b] : Array Value) (0 * 1)).run Try.prog w = .ok (.int .i64 a) w := fun a b => by go_simp
 have pb : ∀ a b : Int, (part 3 (#[.int .i64 a, .int .i64 b] : Array Value) (1 * 1)).run Try.prog w = .ok (.int .i64 b) w := fun a b => by go_simp
 have pe : ∀ a b : Int, (Op.equalIn (d + 1) 3 (.int .i64 a) (.int .i64 b)).run Try.prog w = .ok (a == b) w := fun a b => by go_simp
 show (Op.eqItems (d + 1) 3 1 _ _ [0, 1]).run Try.prog w = _
 simp only [Op.eqItems, Sem.run_bind, pa, pb, pe, Result.andThen_ok]
 cases hx : (x0 == y0) <;> cases hy : (x1 == y1) <;> simp [pa, pb, pe, hy]
end Go.Proofs.Ytcjddikalgnhpaa.P
