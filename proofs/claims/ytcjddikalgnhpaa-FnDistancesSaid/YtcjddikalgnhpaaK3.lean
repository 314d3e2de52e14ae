/- Functions of the program as Lean functions, that each call comes to what they say, and what holds of them; part 3 of 16; no conditions beyond those that each theorem names. -/
import Derived.Test.YtcjddikalgnhpaaK1
import Derived.Test.YtcjddikalgnhpaaK2
namespace Go.Proofs.Ytcjddikalgnhpaa.P
open Go.RowKit Go.Proofs.YtcjddikalgnhpaaW.PrintWords Go.Proofs.YtcjddikalgnhpaaW.PrintLast Go.Proofs.YtcjddikalgnhpaaW.PrintMore
attribute [local go_sem] max2_int min2_int max_two min_two max_three min_three max_four min_four   -- for this text's walks alone
set_option linter.unusedVariables false
set_option linter.unusedSimpArgs false
/-! ### slices_Repeat_int_int: function 195 -/
/-- A list of one number, so many times. -/
def slices_Repeat_int_int.f (l0 : List Int) (a1 : Int) : Option (List Int) := if l0.length = 1 ∧ 0 ≤ a1 ∧ a1 ≤ 8 then some (List.replicate a1.toNat (rd l0 0)) else none
theorem rep_all : ((List.range 9).all fun n => bits_Mul.f 1 (n : Int) == some (0, (n : Int))) = true := by kernel_rfl
theorem rep_mul (n : Nat) (h : n ≤ 8) : bits_Mul.f 1 (n : Int) = some (0, (n : Int)) := eq_of_beq (List.all_eq_true.1 rep_all n (List.mem_range.2 (by omega)))
theorem rep_shape {W : World} {base n B : Nat} {ok : Nat → Prop} {v : Value} {xs : List Int} (ho : Kd.R (Kd.int .i64) 3 W base ok v xs) (hx : xs.length = n) (hnew : ∃ b, v.ownBlock = some b ∧ B ≤ b) : ∃ g cap, ∃ cur : List Value, v = .slice (some ⟨g, 0, none⟩) n cap ∧ base ≤ g ∧ W.heap[g]? = some (.cells cur.toArray 3 (0, 0)) ∧ n ≤ cap ∧ cap ≤ maxLen ∧ cur.length = cap := by
 obtain ⟨_, h⟩ := Kd.own_of_R ho
 rw [hx] at h
 rcases h with ⟨rfl, _⟩ | ⟨g, cap, cur, rfl, h1, h2, h3, h4, h5, _⟩
 ·obtain ⟨b, hb, _⟩ := hnew
  cases hb
 ·exact ⟨g, cap, cur.toList, rfl, h1, by simpa using h2, h3, h4, by simpa using h5⟩
theorem rep_own {W : World} {base n : Nat} {g cap : Nat} {cur : List Value} {x0 : Int} (hb : base ≤ g) (hk : W.heap[g]? = some (.cells cur.toArray 3 (0, 0))) (h1 : n ≤ cap) (h2 : cap ≤ maxLen) (h3 : cur.length = cap) (h : ∀ j, j < n → cur[j]? = some (.int .i64 x0)) : Kd.R (Kd.int .i64) 3 W base (fun _ => True) (.slice (some ⟨g, 0, none⟩) n cap) (List.replicate n x0) := by
 have e : cur.take n = encs (Value.int .i64) (List.replicate n x0) := by
  apply List.ext_getElem?
  intro j; rw [List.getElem?_take]
  unfold encs
  rw [List.map_replicate, List.getElem?_replicate]
  by_cases c : j < n
  ·rw [if_pos c, if_pos c]; exact h j c
  ·rw [if_neg c, if_neg c]
 refine Kd.R_of_own (xs := List.replicate n x0) ?_ (fun _ _ => trivial)
 rw [List.length_replicate]
 exact ⟨by simp [encs], .inr ⟨g, cap, cur.toArray, rfl, hb, hk, h1, h2, by simp [h3], by simpa using e⟩⟩
theorem splice_get {cur : List Value} {m : Nat} {u : Value} {k : Nat} (hm : m + k ≤ cur.length) (h : ∀ j, j < m → cur[j]? = some u) : ∀ j, j < m + k → (splice cur m (List.replicate k u))[j]? = some u := by
 intro j hj
 unfold splice
 have hl : (cur.take m).length = m := by rw [List.length_take]; omega
 by_cases c : j < m
 ·rw [List.getElem?_append_left (by omega), List.getElem?_take_of_lt c]
  exact h j c
 ·rw [List.getElem?_append_right (by omega), hl, List.getElem?_append_left (by rw [List.length_replicate]; omega), List.getElem?_replicate, if_pos (by omega)]
theorem rep_src {u v : Value} {k j : Nat} (h : (List.replicate k u)[j]? = some v) : j < k ∧ v = u := by
 rw [List.getElem?_replicate] at h
 by_cases c : j < k
 ·rw [if_pos c] at h
  exact ⟨c, (Option.some.inj h).symm⟩
 ·rw [if_neg c] at h
  cases h
set_option maxHeartbeats 8000000 in
set_option maxRecDepth 100000 in
theorem slices_Repeat_int_int.calls (A0 : Option Addr) (c0 : Nat) (l0 : List Int) (a1 : Int) (r : List Int) (w : World) (hr0 : Kd.C (Kd.int .i64) w A0 l0.length l0) (hc0 : l0.length ≤ c0) (h : slices_Repeat_int_int.f l0 a1 = some r) :
  Calls Try.prog 195 #[.slice A0 l0.length c0, .int .i64 a1] w fun e w' => ∃ v0_ : Value, e = .returned v0_ ∧ Kd.R (Kd.int .i64) 3 w' w.heap.size (fun _ => True) v0_ r ∧ Below w.heap.size w w' := by
 unfold slices_Repeat_int_int.f at h
 by_cases hc : l0.length = 1 ∧ 0 ≤ a1 ∧ a1 ≤ 8
 ·rw [if_pos hc] at h
  obtain rfl := Option.some.inj h; clear h; obtain ⟨hc1, ha0, ha8⟩ := hc; obtain ⟨n, rfl⟩ := Int.eq_ofNat_of_zero_le ha0; have hn8 : n ≤ 8 := by omega
  obtain ⟨x0, rfl⟩ := List.length_eq_one_iff.1 hc1; obtain ⟨ad, rfl, hx0⟩ := Kd.at_int hr0 0 (by decide) (by simp); have HX := am (show w.cell? (ad.add 0) = some (.int .i64 x0) from hx0); clear hx0 hr0 hc0 hc1 ha0 ha8; have HM := am (rep_mul n hn8); have HN := Aside0.mk hn8; have HB := am (Below.refl w.heap.size w); have hwu : IntKind.u64.wrap (n : Int) = n := by rw [IntKind.wrap_u64]; omega
  have hwi : wrap64 (n : Int) = n := by unfold wrap64; omega
  have hwj : IntKind.i64.wrap (n : Int) = n := by rw [IntKind.wrap_i64]; omega
  have hz1 : ((0 : Nat) > 0) = False := by simp
  have hn0 : decide ((n : Int) < 0) = false := decide_eq_false (by omega); have hnb : decide ((n : Int) > 9223372036854775807) = false := decide_eq_false (by omega); have hnc : decide ((n : Int) < 9223372036854775807) = true := decide_eq_true (by omega); have hnd : decide (9223372036854775807 < (n : Int)) = false := decide_eq_false (by omega); rw [show (([x0] : List Int).length) = 1 from rfl]; clear hn8
  go_enter Try.func195, Try.ntmps195
  go_wp2_with (first | ((with_reducible refine gate_callee (f := 216) rfl ?_); refine goesL_ (some 18) rfl rfl Try.func216 (by kernel_rfl) rfl #[.int .u64 1, .int .u64 (n : Int)] rfl Q116 ?_; (with_reducible refine (bits_Mul.calls 1 (n : Int) 0 (n : Int) _ HM.out).mono ?_); rintro e w' ⟨rfl, ⟨nd, rfl⟩⟩; refine ⟨_, rfl, ?_⟩) | ((with_reducible refine gate_dst (N := 30) rfl ?_); refine Kd.R_make (Kd.int .i64) _ 3 rfl (N := 30) rfl 25 _ _ rfl (n : Int) rfl rfl Try.underlying25 (.int .i64 0) 8 info3 rfl (by decide) (by omega) 0 (ok := fun _ => True) (okp := fun _ => True) rfl (fun _ hk => hk) trivial (Int.natCast_nonneg _) (by have := HN.out; simp only [Int.toNat_natCast]; omega) (Below.refl _ _) (Nat.le_refl _) ?_; intro v1 w8 ho hb hg_ hnew_; obtain ⟨g, cap, cur0, hv_, hge, hbk, hcap, hmax, hlen⟩ := rep_shape (n := n) ho (by simp) hnew_; subst hv_; replace HB := bs HB hb; have BK := Aside0.mk hbk; have HCAP := Aside0.mk hcap; have HMAX := Aside0.mk hmax; have HLEN := Aside0.mk hlen; have GE := am (show w.heap.size ≤ g from Nat.le_trans (below_size (pw_below_drewN (Below.refl _ _) nd)) hge); have HX1 := am (show w8.cell? (ad.add 0) = some (.int .i64 x0) from (HB.out.cell (World.block_lt_of_cell? w _ HX.out)).trans HX.out); clear ho hb hg_ hnew_ hge hbk hcap hmax hlen) | ((with_reducible refine gate_builtin (b := .copy) (xs := #[.tmp 31, .tmp 32]) rfl ?_); refine wpList_copy_splice rfl (.tmp 31) (.tmp 32) 25 25 rfl 3 Try.underlying25 (by kernel_rfl) _ _ _ _ _ _ rfl rfl g 0 cur0 3 BK.out (List.replicate (min 1 n) (.int .i64 x0)) List.length_replicate (fun _ => ⟨rfl, ad, rfl, fun j v hj => by obtain ⟨h1, rfl⟩ := rep_src hj; rw [show j = 0 by omega]; exact HX1.out⟩) (by have h1 := HCAP.out; have h2 := HLEN.out; rw [List.length_replicate]; omega) (by intro v hv; rw [List.eq_of_mem_replicate hv]; rfl) w.heap.size w HB.out GE.out ?_; intro w9 hg9 hb9; have BK1 := Aside0.mk hg9.out; clear HB; have HB := Aside0.mk hb9; clear hg9 hb9))
  go_loopg [8] n (fun kq v8 w' => ∃ (m : Nat) (cur : List Value), v8 = .int .i64 (m : Int) ∧ Aside0 (m ≤ n ∧ (0 < n → 0 < m) ∧ n - m ≤ kq ∧ cur.length = cap ∧ ∀ j, j < m → cur[j]? = some (.int .i64 x0)) ∧ Aside0 (w'.heap[g]? = some (.cells cur.toArray 3 (0, 0))) ∧ Aside0 (Below w.heap.size w w'))
  case atStart =>
   refine ⟨min 1 n, splice cur0 0 (List.replicate (min 1 n) (.int .i64 x0)), by simp [goInt], ⟨by omega, by omega, by omega, ?_, ?_⟩, BK1, HB⟩
   ·rw [length_splice _ _ _ (by have h1 := HCAP.out; have h2 := HLEN.out; rw [List.length_replicate]; omega)]
    exact HLEN.out
   ·have := splice_get (cur := cur0) (m := 0) (u := .int .i64 x0) (k := min 1 n) (by have h1 := HCAP.out; have h2 := HLEN.out; omega) (fun j hj => by omega)
    rwa [Nat.zero_add] at this
  case round =>
   obtain ⟨m, cur, rfl, HA, BK2, HB⟩ := hrel
   by_cases hlt : m < n
   ·have HLT := Aside0.mk hlt
    have hcm : (cap = m) = False := by have h1 := HCAP.out; simp; omega
    have c1 : decide ((m : Int) < (n : Int)) = true := decide_eq_true (by omega); have c2 : ((m : Int) < (n : Int)) = True := eq_true (by omega); have c3 : ((m : Int) ≤ (n : Int)) = True := eq_true (by omega); have c4 : (0 ≤ (m : Int)) = True := eq_true (by omega); have c5 : ((m : Int) ≤ (cap : Int)) = True := eq_true (by have h1 := HCAP.out; omega); have c6 : (m ≤ cap) = True := eq_true (by have h1 := HCAP.out; omega); have c7 : (m ≤ n) = True := eq_true (by omega); clear hlt; have BKd := am (blk_drew BK2.out); have HBd := am (below_drew1 HB.out)
    go_wp2
    go_region_law (refine step_copy_splice rfl (.tmp 41) (.tmp 44) 25 25 rfl 3 Try.underlying25 (by kernel_rfl) (some ⟨g, m, none⟩) (some ⟨g, 0, none⟩) (n - m) (cap - m) m cap (by simp [Act.eval, Act.put]) (by simp [Act.eval, Act.put]) g m cur 3 BKd.out (List.replicate (min m (n - m)) (.int .i64 x0)) List.length_replicate (fun _ => ⟨rfl, ⟨g, 0, none⟩, rfl, fun j v hj => by obtain ⟨h1, rfl⟩ := rep_src hj; rw [add_plain]; exact (blk_cell BKd.out j).trans (by simpa using HA.out.2.2.2.2 j (by omega))⟩) (by have h1 := HCAP.out; have h2 := HA.out.2.2.2.1; have h3 := HLT.out; rw [List.length_replicate]; omega) (by intro v hv; rw [List.eq_of_mem_replicate hv]; rfl) w.heap.size w HBd.out GE.out ?_; intro w10 hg10 hb10)
    have BK3 := Aside0.mk hg10.out; have HB3 := Aside0.mk hb10; clear hg10 hb10
    go_wp2
    go_roundg (n - (m + min m (n - m)))
    case measure => have h1 := HA.out; have h2 := HLT.out; omega
    case rel =>
     refine ⟨m + min m (n - m), splice cur m (List.replicate (min m (n - m)) (.int .i64 x0)), ?_, ⟨?_, ?_, Nat.le_refl _, ?_, ?_⟩, BK3, HB3⟩
     ·have h1 := HN.out; have h2 := HLT.out
      simp only [IntKind.wrap_i64, Value.int.injEq, true_and]
      omega
     ·have h2 := HLT.out; omega
     ·have h1 := HA.out; have h2 := HLT.out; omega
     ·have h1 := HCAP.out; have h2 := HA.out.2.2.2.1; have h3 := HLT.out
      rw [length_splice _ _ _ (by rw [List.length_replicate]; omega)]; exact h2
     ·have h1 := HCAP.out; have h2 := HA.out.2.2.2.1; have h3 := HLT.out
      exact splice_get (by omega) HA.out.2.2.2.2
   ·have HLT := Aside0.mk hlt
    have c1 : decide ((m : Int) < (n : Int)) = false := decide_eq_false (by omega); have c2 : ((m : Int) < (n : Int)) = False := eq_false (by omega); clear hlt
    go_wp2
    go_ret
    refine ⟨_, rfl, ?_, HB.out⟩; have h1 := HA.out; have h2 := HLT.out; obtain rfl : m = n := by omega
    exact rep_own GE.out BK2.out HCAP.out HMAX.out h1.2.2.2.1 h1.2.2.2.2
 ·rw [if_neg hc] at h
  cases h
/-! ### impl_net_distances: function 138 -/
mutual
def impl_net_distances.l0 : Nat → List (List Int) → Int → Int → List Int → Option ((List (List Int)))
 | 0, _, _, _, _ => none
 | k + 1, x3, x12, x13, x102000 => if x13 < x12 then ((impl_net_size.f x102000).bind fun t109 => ((slices_Repeat_int_int.f (([(-1)] : List Int)) t109).bind fun t110 => (if 0 ≤ x13 then (if x13 < (x3.length : Int) then ((impl_net_size.f x102000).bind fun t114 => (impl_net_distances.l1 k (x3.set (x13 : Int).toNat t110) x13 t114 x12 x13 x102000)) else (none)) else (none)))) else (some x3)
def impl_net_distances.l1 : Nat → List (List Int) → Int → Int → Int → Int → List Int → Option ((List (List Int)))
 | 0, _, _, _, _, _, _ => none
 | k + 1, x3, x4, x5, x12, x13, x102000 => if x5 ≥ 0 then ((impl_net_ball.f k x102000 x4 x5).bind fun t115 => ((impl_setOf.f k t115).bind fun t116 => (impl_net_distances.l2 k x3 x4 x5 x12 x13 t116 (t116.length : Int) 0 x102000))) else (impl_net_distances.l0 k x3 x12 (wrap64 (x13 + 1)) x102000)
def impl_net_distances.l2 : Nat → List (List Int) → Int → Int → Int → Int → List Int → Int → Int → List Int → Option ((List (List Int)))
 | 0, _, _, _, _, _, _, _, _, _ => none
 | k + 1, x3, x4, x5, x12, x13, x33, x34, x35, x102000 => if x35 < x34 then (if 0 ≤ x35 then (if x35 < (x33.length : Int) then (if 0 ≤ x4 then (if x4 < (x3.length : Int) then (if 0 ≤ (rd x33 x35) then (if (rd x33 x35) < ((rd_L6 x3 x4).length : Int) then (impl_net_distances.l2 k (x3.set (x4 : Int).toNat ((rd_L6 x3 x4).set ((rd x33 x35) : Int).toNat x5)) x4 x5 x12 x13 x33 x34 (wrap64 (x35 + 1)) x102000) else (none)) else (none)) else (none)) else (none)) else (none)) else (none)) else (impl_net_distances.l1 k x3 x4 (wrap64 (x5 - 1)) x12 x13 x102000)
end
def impl_net_distances.f (k : Nat) (l0_0 : List Int) : Option ((List (List Int))) := (impl_net_size.f l0_0).bind fun t102 => (if 0 ≤ t102 then (if (t102 : Int).toNat ≤ 11728124029610 then ((some (List.replicate (t102 : Int).toNat [] : List (List Int))).bind fun y103 => (impl_net_distances.l0 k y103 (y103.length : Int) 0 l0_0)) else (none)) else (none))
theorem impl_net_distances.mono_l : ∀ k, (∀ y0 y1 y2 y3, LeO (impl_net_distances.l0 k y0 y1 y2 y3) (impl_net_distances.l0 (k + 1) y0 y1 y2 y3)) ∧ (∀ y0 y1 y2 y3 y4 y5, LeO (impl_net_distances.l1 k y0 y1 y2 y3 y4 y5) (impl_net_distances.l1 (k + 1) y0 y1 y2 y3 y4 y5)) ∧ (∀ y0 y1 y2 y3 y4 y5 y6 y7 y8, LeO (impl_net_distances.l2 k y0 y1 y2 y3 y4 y5 y6 y7 y8) (impl_net_distances.l2 (k + 1) y0 y1 y2 y3 y4 y5 y6 y7 y8))
 | 0 => ⟨fun _ _ _ _ r h => by simp [impl_net_distances.l0] at h, fun _ _ _ _ _ _ r h => by simp [impl_net_distances.l1] at h, fun _ _ _ _ _ _ _ _ _ r h => by simp [impl_net_distances.l2] at h⟩
 | k + 1 => by
  obtain ⟨ih0, ih1, ih2⟩ := impl_net_distances.mono_l k; refine ⟨?_, ?_, ?_⟩
  all_goals
   intros
   first | unfold impl_net_distances.l0 | unfold impl_net_distances.l1 | unfold impl_net_distances.l2
   repeat' first | (with_reducible first | exact ih0 _ _ _ _ | exact ih1 _ _ _ _ _ _ | exact ih2 _ _ _ _ _ _ _ _ _ | exact impl_net_ball.mono _ _ _ _ | exact impl_setOf.mono _ _ | exact LeO.refl _ | exact LeO.none _ | refine LeO.ite ?_ ?_ | refine LeO.bind ?_ (fun _ => ?_))
theorem impl_net_distances.mono : ∀ a0 k, LeO (impl_net_distances.f k a0) (impl_net_distances.f (k + 1) a0) := by
 intro a0 k
 obtain ⟨ih0, ih1, ih2⟩ := impl_net_distances.mono_l k
 unfold impl_net_distances.f
 repeat' first | (with_reducible first | exact ih0 _ _ _ _ | exact ih1 _ _ _ _ _ _ | exact ih2 _ _ _ _ _ _ _ _ _ | exact impl_net_ball.mono _ _ _ _ | exact impl_setOf.mono _ _ | exact LeO.refl _ | exact LeO.none _ | refine LeO.ite ?_ ?_ | refine LeO.bind ?_ (fun _ => ?_))
set_option maxHeartbeats 8000000 in
set_option maxRecDepth 100000 in
theorem impl_net_distances.calls (k : Nat) (A0_0 : Option Addr) (c0_0 : Nat) (l0_0 : List Int) (r : List (List Int)) (w : World) (hr0_0 : Kd.C (Kd.int .i64) w A0_0 l0_0.length l0_0) (hc0_0 : l0_0.length ≤ c0_0) (h : impl_net_distances.f k l0_0 = some r) :
  Calls Try.prog 138 #[.agg #[.slice A0_0 l0_0.length c0_0]] w fun e w' => ∃ v0_ : Value, e = .returned (v0_) ∧ Kd.S (Kd.slice 3 (Kd.int .i64)) 25 w' w.heap.size (fun _ => True) v0_ r ∧ Below w.heap.size w w' := by
 have hu90 := Try.underlying90
 have HR0_0 := Aside0.mk hr0_0
 have HC0_0 := Aside0.mk hc0_0
 clear hr0_0 hc0_0
 have HB := am (Below.refl w.heap.size w)
 have H : ((impl_net_size.f l0_0).bind fun t102 => (if 0 ≤ t102 then (if (t102 : Int).toNat ≤ 11728124029610 then ((some (List.replicate (t102 : Int).toNat [] : List (List Int))).bind fun y103 => (impl_net_distances.l0 k y103 (y103.length : Int) 0 l0_0)) else (none)) else (none))) = some r := h
 clear h
 replace H := (ob H)
 obtain ⟨t102, A20, H⟩ := H
 (try dsimp only at H)
 have A2 := Aside0.mk A20
 clear A20
 by_cases c3 : 0 ≤ t102
 ·rw [if_pos c3] at H
  have c3b0 := eq_true c3; have c3b1 := decide_eq_true c3; clear c3
  obtain ⟨c4, H⟩ := ifn H
  have c4b0 := eq_true c4; have c4b1 := decide_eq_true c4; clear c4; obtain ⟨y103, hy103⟩ : ∃ y_ : List (List Int), y_ = (List.replicate (t102 : Int).toNat []) := ⟨_, rfl⟩; replace H : (impl_net_distances.l0 k y103 (y103.length : Int) 0 l0_0) = some r := RH hy103 H; have Ny103 := Aside0.mk hy103; clear hy103; have H' := Aside0.mk H; clear H
  go_enter Try.func138, Try.ntmps138
  go_wp2_with (first | ((with_reducible refine gate_dst (N := 1) rfl ?_); refine box_event (by rfl) (N := 1) (by rfl) (cs := #[.slice A0_0 l0_0.length c0_0]) (t := 90) Qr ?_; intro gb101 hg w5 hbox hb; have BK101 := am (hbox); have GW101 := am ((Q26 : w.heap.size ≤ gb101)); have GE101 := am ((Q26 : w.heap.size ≤ gb101)); replace HB := bs HB hb; clear hb hbox hg; obtain ⟨hcz6_0, hfz6_0⟩ := b1 BK101) | ((with_reducible refine gate_callee (f := 194) rfl ?_); refine goesL_ (some 9) rfl rfl Try.func194 (by kernel_rfl) rfl #[.agg #[.slice A0_0 l0_0.length c0_0]] rfl Q3 ?_; (with_reducible refine (impl_net_size.calls _ _ l0_0 t102 _ ?side1 ?side2 A2.out).mono ?_); (case side1 => exact (Q7 HR0_0 HB)); (case side2 => exact HC0_0.out); rintro e w7 ⟨rfl, hb⟩; refine ⟨_, rfl, ?_⟩; replace BK101 := bb BK101 hb; replace HB := bs HB hb; (try clear hb); (try clear hb2); (try clear hk); (try clear hi)) | ((with_reducible refine gate_dst (N := 10) rfl ?_); refine Kd.S_make (Kd.slice 3 (Kd.int .i64)) _ 25 rfl (N := 10) rfl 27 _ _ rfl t102 rfl rfl Try.underlying27 (.slice none 0 0) 24 info25 rfl (by decide) (by omega) [] (ok := fun _ => True) (okp := fun _ => True) ⟨_, rfl, Kd.R_nil _ _ _ _ _⟩ (fun _ hk => hk) trivial (D4) (Nat.le_trans (Nat.mul_le_mul_right _ (D4 : t102.toNat ≤ 11728124029610)) (by omega)) (Below.refl _ _) (Nat.le_refl _) ?_; intro v104 w8 ho9 hb hg_ hnew_; clear hg_ hnew_; (first | rw [← Ny103.out] at ho9 | (simp only [Int.reduceToNat] at ho9; rw [← Ny103.out] at ho9)); have HO105 := am (Kd.S_lower ho9 (below_size (Q0 HB))); replace BK101 := bb BK101 hb; replace HB := bs HB hb; clear hb ho9; obtain ⟨Ao10, co10, eo10⟩ := Kd.S_slice HO105.out; subst eo10))
  go_loopg [13] k (fun kq v13 w' => ∃ (x3_1 : List (List Int)) (x13_1 : Int), v13 = .int .i64 x13_1 ∧ Aside0 (impl_net_distances.l0 kq x3_1 (y103.length : Int) x13_1 l0_0 = some r) ∧ Aside0 (kq ≤ k) ∧ Aside0 (Kd.S (Kd.slice 3 (Kd.int .i64)) 25 w' w.heap.size (fun _ => True) (.slice Ao10 y103.length co10) x3_1) ∧ Aside0 (w'.heap[gb101]? = some (.cells #[(.slice A0_0 l0_0.length c0_0)] 90 (0, 0))) ∧ Aside0 (Below w.heap.size w w'))
  case atStart => exact ⟨(y103), (0), Q9, H', ⟨Nat.le_refl _⟩, ⟨Q32 HO105⟩, ⟨Q1 BK101⟩, ⟨Q0 HB⟩⟩
  case round =>
   clear H'
   obtain ⟨x3_1, x13_1, rfl, HA, HK1, HO_3, BK101, HB⟩ := hrel; have hl3_1 := (Kd.S_reads' HO_3.out).1; rw [hl3_1] at HO_3; (try simp only [hl3_1]); (try simp only [hl3_1] at BK101)
   cases gk with
   | zero => exact absurd HA.out (by simp [impl_net_distances.l0])
   | succ k1 =>
    have H := HA.out; clear HA
    simp only [impl_net_distances.l0] at H
    by_cases c11 : x13_1 < (y103.length : Int)
    ·rw [if_pos c11] at H
     have c11b0 := decide_eq_true c11; clear c11; obtain ⟨y106, hy106⟩ : ∃ y_ : List Int, y_ = (([(-1)] : List Int)) := ⟨_, rfl⟩; replace H : ((impl_net_size.f l0_0).bind fun t109 => ((slices_Repeat_int_int.f y106 t109).bind fun t110 => (if 0 ≤ x13_1 then (if x13_1 < (x3_1.length : Int) then ((impl_net_size.f l0_0).bind fun t114 => (impl_net_distances.l1 k1 (x3_1.set (x13_1 : Int).toNat t110) x13_1 t114 (y103.length : Int) x13_1 l0_0)) else (none)) else (none)))) = some r := RH hy106 H; have Ny106 := Aside0.mk hy106; clear hy106; replace H := (ob H); obtain ⟨t109, A120, H⟩ := H; (try dsimp only at H); have A12 := Aside0.mk A120; clear A120; replace H := (ob H); obtain ⟨t110, A130, H⟩ := H; (try dsimp only at H); have A13 := Aside0.mk A130; clear A130
     obtain ⟨c14, H⟩ := ifn H
     have c14b0 := decide_eq_true c14; clear c14
     obtain ⟨c15, H⟩ := ifn H
     have c15b0 := decide_eq_true c15; clear c15; obtain ⟨y113, hy113⟩ : ∃ y_ : List (List Int), y_ = (x3_1.set (x13_1 : Int).toNat t110) := ⟨_, rfl⟩; replace H : ((impl_net_size.f l0_0).bind fun t114 => (impl_net_distances.l1 k1 y113 x13_1 t114 (y103.length : Int) x13_1 l0_0)) = some r := RH hy113 H; have Ny113 := Aside0.mk hy113; clear hy113; replace H := (ob H); obtain ⟨t114, A170, H⟩ := H; (try dsimp only at H); have A17 := Aside0.mk A170; clear A170; have H' := Aside0.mk H; clear H
     go_wp2_with (first | ((with_reducible refine gate_dst (N := 18) rfl ?_); refine Kd.R_lit (Kd.int .i64) _ 3 (by rfl) (N := 18) (by rfl) (xs := ([(-1)] : List Int)) (inner := [.int .i64 (-1)]) (ok := fun _ => True) (okp := fun _ => True) Qr ?hp (fun _ hk => hk) trivial (Below.refl _ _) (Nat.le_refl _) (by simp) ?_; (case hp => exact (Reps.one (show Kd.M (Kd.int .i64) _ _ _ (-1) [.int .i64 (-1)] from rfl) (Reps.none _ _))); intro v107 w18 ho19 hb hg_ hnew_; clear hg_ hnew_; (first | rw [← Ny106.out] at ho19 | (simp only [Int.reduceToNat] at ho19; rw [← Ny106.out] at ho19)); replace HO_3 := am (Kd.S_elder' Q47 (Kd.R_base ho19) hb); have HO108 := am (Kd.R_lower ho19 (below_size (Q0 HB))); replace BK101 := bb BK101 hb; replace HB := bs HB hb; clear hb ho19; obtain ⟨hcz20_0, hfz20_0⟩ := b1 BK101) | ((with_reducible refine gate_callee (f := 194) rfl ?_); refine goesL_ (some 20) rfl rfl Try.func194 (by kernel_rfl) rfl #[.agg #[.slice A0_0 l0_0.length c0_0]] rfl Q3 ?_; (with_reducible refine (impl_net_size.calls _ _ l0_0 t109 _ ?side1 ?side2 A12.out).mono ?_); (case side1 => exact (Q7 HR0_0 HB)); (case side2 => exact HC0_0.out); rintro e w21 ⟨rfl, hb⟩; refine ⟨_, rfl, ?_⟩; replace HO_3 := am (Kd.S_below Q47 hb); replace HO108 := am (Kd.R_below (Q2 HO108) hb); replace BK101 := bb BK101 hb; replace HB := bs HB hb; (try clear hb); (try clear hb2); (try clear hk); (try clear hi); obtain ⟨Ao22, co22, eo22⟩ := Kd.R_slice HO108.out; subst eo22) | ((with_reducible refine gate_callee (f := 195) rfl ?_); refine goesL_ (some 21) rfl rfl Try.func195 (by kernel_rfl) rfl #[.slice Ao22 y106.length co22, .int .i64 t109] rfl Q3 ?_; (with_reducible refine (slices_Repeat_int_int.calls _ _ y106 t109 t110 _ ?side1 ?side2 A13.out).mono ?_); (case side1 => exact (Q15 HO108)); (case side2 => exact (Kd.R_reads' HO108.out).2.1); rintro e w23 ⟨v111, rfl, ho0, hb⟩; refine ⟨_, rfl, ?_⟩; replace HO_3 := am (Kd.S_elder' Q47 (Kd.R_base ho0) hb); have HO112 := am (Kd.R_lower (Kd.R_new' ho0 (Kd.R_lt (Q2 HO108))) (below_size (Q0 HB))); replace HO108 := am (Kd.R_elder' (Q2 HO108) (Kd.R_base ho0) hb); replace BK101 := bb BK101 hb; replace HB := bs HB hb; obtain ⟨Ao111, co111, eo111⟩ := Kd.R_slice HO112.out; subst eo111; (try clear hb); (try clear hb2); (try clear hk); (try clear hi); (try clear ho0); have p16 : 0 ≤ (x13_1 : Int) := D4; have q16 : (x13_1 : Int) < ((x3_1.length : Int) : Int) := D4; obtain ⟨go16, co16, eo16, gb16, gl16, cl16, HG16⟩ := Kd.S_form HO_3.out (by omega); (first | cases eo16 | (injection eo16 with ea_ en_ ec_; (first | subst ea_ | (injection ea_ with ea_; subst ea_)); subst ec_; clear en_)); have GB16 := Aside0.mk gb16; have GG16 := Aside0.mk HG16; clear gb16 gl16 HG16; obtain ⟨_, ce16, hcl16, hM16, hcc16, hfr16, _, _⟩ := Kd.S_elem HO_3.out [] (x13_1 : Int) p16 q16; obtain ⟨ve16_0, rfl, ge16_0⟩ := hM16; have hx16_0 := hcc16 0 _ rfl; have hf16_0 := hfr16 0; (try simp only [show ((Kd.slice 3 (Kd.int .i64))).sz = 1 from rfl, Nat.mul_one, Nat.add_zero] at hx16_0); (try simp only [show ((Kd.slice 3 (Kd.int .i64))).sz = 1 from rfl, Nat.mul_one, Nat.add_zero] at hf16_0); clear hcl16 hcc16 hfr16; (try clear hM16); replace p16 := eq_true p16; replace q16 := eq_true q16; have n_ := am (Kd.S_mono (ok' := (fun k_ => some k_ ≠ (.slice Ao22 y106.length co22 : Value).ownBlock ∧ some k_ ≠ ((.slice Ao111 t110.length co111) : Value).ownBlock)) HO_3.out (fun k_ hk => ⟨hk.1.2, hk.2⟩)); clear HO_3; have HO_3 := n_; clear n_; have HX24 := am (show Kd.S (Kd.slice 3 (Kd.int .i64)) 25 w23 w.heap.size (fun k_ => ((fun k_ => some k_ ≠ (.slice Ao22 y106.length co22 : Value).ownBlock)) k_ ∧ ¬ ((fun k_ => some k_ = ((.slice Ao111 t110.length co111) : Value).ownBlock)) k_) (.slice (some ⟨go16, 0, none⟩) x3_1.length co10) x3_1 from (by (with_reducible repeat (first | apply Kd.S_alloc | apply Kd.S_drewN | apply Kd.S_drew)); exact Kd.S_mono HO_3.out (fun k_ hk => ⟨hk.1, fun e_ => hk.2 e_⟩))); obtain ⟨oki24, ce24, hcl24, hM24, hcc24, hfr24, hoki24, hH24⟩ := Kd.S_elem HX24.out [] (x13_1 : Int) (D4) (by have h_ : (x13_1 : Int) < ((x3_1.length : Int) : Int) := D4; first | exact h_ | (have e_ := (Kd.S_reads' HO_3.out).1; omega) | simpa using h_); obtain ⟨ve24_0, rfl, ge24_0⟩ := hM24; have HP24 := Kd.S_seg hH24 (D4) (by have h_ : (x13_1 : Int) < ((x3_1.length : Int) : Int) := D4; first | exact h_ | (have e_ := (Kd.S_reads' HO_3.out).1; omega) | simpa using h_) (seg := [(.slice Ao111 t110.length co111)]) (j := 0) (show 1 ≤ 1 from by decide) (x' := t110) (Kd.M_row (Kd.R_mono (Kd.R_tight rfl (Kd.R_mono (ok' := fun k_ => ((fun k_ => some k_ ≠ (.slice Ao22 y106.length co22 : Value).ownBlock)) k_ ∧ k_ ≠ go16) (Kd.R_apart' (HO112.out) (Kd.S_typed HO_3.out) (by decide)) (fun k_ hk => ⟨hk.1.2, fun e_ => (hk.2) (by rw [e_]; rfl)⟩))) (fun _ h_ => Or.inr (h_)))) (fun _ hk => hk) (fun k_ hk_ => ((Kd.R_mono (ok' := fun k_ => ((fun k_ => some k_ ≠ (.slice Ao22 y106.length co22 : Value).ownBlock)) k_ ∧ k_ ≠ go16) (Kd.R_apart' (HO112.out) (Kd.S_typed HO_3.out) (by decide)) (fun k_ hk => ⟨hk.1.2, fun e_ => (hk.2) (by rw [e_]; rfl)⟩))).1 k_ hk_.symm); have hx24_0 := hcc24 0 _ rfl; (try simp only [show ((Kd.slice 3 (Kd.int .i64))).sz = 1 from rfl, Nat.mul_one, Nat.add_zero] at hx24_0); have hf24_0 := hfr24 0; (try simp only [show ((Kd.slice 3 (Kd.int .i64))).sz = 1 from rfl, Nat.mul_one, Nat.add_zero] at hf24_0); clear hcl24 hcc24 hfr24 hoki24 hH24; (try clear hM24); (try simp only [show ((Kd.slice 3 (Kd.int .i64))).sz = 1 from rfl, Nat.mul_one, Nat.add_zero] at HP24)) | ((with_reducible refine gate_store (t := 25) (p := 22) rfl ?_); refine store_event (t := 25) (p := 22) (v := ?vo_w25) (w1 := (w23.setCell ⟨go16, (x13_1 : Int).toNat, none⟩ ((.slice Ao111 t110.length co111)))) ?hg ?ho ?hn ?hr ?_; (case ho => rfl); (case hg => rfl); (case hn => rfl); (case hr => first | (go_simp; done) | (go_simp; rfl)); intro w25 hw; have hg : w23.grownBy w25 (some go16) := (by rw [hw]; exact HP24.2); have hp_ : Kd.S (Kd.slice 3 (Kd.int .i64)) 25 w25 w.heap.size (fun k_ => some k_ ≠ (.slice Ao22 y106.length co22 : Value).ownBlock) (.slice (some ⟨go16, 0, none⟩) x3_1.length co10) y113 := (by rw [hw, Ny113.out]; exact HP24.1); clear HP24; replace BK101 := am (blk_grown (g := gb101) (o := .cells #[.slice A0_0 l0_0.length c0_0] 90 (0, 0)) (Q1 BK101) hg (Kd.S_ne HO_3.out BK101.out (by decide))); replace HO108 := am (Kd.R_over' (v := (.slice (some ⟨go16, 0, none⟩) x3_1.length co10)) (Q2 HO108) (Kd.S_typed HO_3.out) (by decide) hg); replace HO_3 := am (hp_); replace HB := am ((by rw [hw]; exact below_set (HB.out) GB16.out : Below w.heap.size w w25)); clear HO112; clear hg hw hp_; obtain ⟨hcz26_0, hfz26_0⟩ := b1 BK101) | ((with_reducible refine gate_callee (f := 194) rfl ?_); refine goesL_ (some 24) rfl rfl Try.func194 (by kernel_rfl) rfl #[.agg #[.slice A0_0 l0_0.length c0_0]] rfl Q3 ?_; (with_reducible refine (impl_net_size.calls _ _ l0_0 t114 _ ?side1 ?side2 A17.out).mono ?_); (case side1 => exact (Q7 HR0_0 HB)); (case side2 => exact HC0_0.out); rintro e w27 ⟨rfl, hb⟩; refine ⟨_, rfl, ?_⟩; replace HO_3 := am (Kd.S_below Q47 hb); replace HO108 := am (Kd.R_below (Q2 HO108) hb); replace BK101 := bb BK101 hb; replace HB := bs HB hb; (try clear hb); (try clear hb2); (try clear hk); (try clear hi)))
     go_loopg [5] k1 (fun kq v5 w' => ∃ (x3_2 : List (List Int)) (x5_2 : Int), v5 = .int .i64 x5_2 ∧ Aside0 (impl_net_distances.l1 kq x3_2 x13_1 x5_2 (y103.length : Int) x13_1 l0_0 = some r) ∧ Aside0 (kq ≤ k1) ∧ Aside0 (Kd.S (Kd.slice 3 (Kd.int .i64)) 25 w' w.heap.size (fun _ => True) (.slice (some ⟨go16, 0, none⟩) x3_1.length co10) x3_2) ∧ Aside0 (w'.heap[gb101]? = some (.cells #[(.slice A0_0 l0_0.length c0_0)] 90 (0, 0))) ∧ Aside0 (Below w.heap.size w w'))
     case atStart => exact ⟨(y113), (t114), Q9, H', ⟨Nat.le_refl _⟩, ⟨by (try simp only [hl3_1]); (with_reducible repeat (first | apply Kd.S_alloc | apply Kd.S_drewN | apply Kd.S_drew)); exact Kd.S_mono HO_3.out (fun _ hk => trivial)⟩, ⟨by (try simp only [hl3_1]); (with_reducible repeat (first | refine blk_drewN ?_ _ | refine blk_drew ?_ | refine blk_alloc ?_ _)); exact BK101.out⟩, ⟨Q0 HB⟩⟩
     case round =>
      clear H'
      obtain ⟨x3_2, x5_2, rfl, HA, HK2, HO_3, BK101, HB⟩ := hrel; have hl3_2 := (Kd.S_reads' HO_3.out).1; rw [hl3_2] at HO_3; (try simp only [hl3_2]); (try simp only [hl3_2] at BK101)
      cases gk with
      | zero => exact absurd HA.out (by simp [impl_net_distances.l1])
      | succ k2 =>
       have H := HA.out; clear HA
       simp only [impl_net_distances.l1] at H
       by_cases c28 : x5_2 ≥ 0
       ·rw [if_pos c28] at H
        have c28b0 : decide (0 ≤ x5_2) = true := decide_eq_true c28; clear c28; replace H := (ob H); obtain ⟨t115, A290, H⟩ := H; (try dsimp only at H); have A29 := Aside0.mk A290; clear A290; replace H := (ob H); obtain ⟨t116, A300, H⟩ := H; (try dsimp only at H); have A30 := Aside0.mk A300; clear A300; have H' := Aside0.mk H; clear H; obtain ⟨hcz31_0, hfz31_0⟩ := b1 BK101
        go_wp2_with (first | ((with_reducible refine gate_callee (f := 116) rfl ?_); refine goesL_ (some 32) rfl rfl Try.func116 (by kernel_rfl) rfl #[.agg #[.slice A0_0 l0_0.length c0_0], .int .i64 x13_1, .int .i64 x5_2] rfl Q3 ?_; (with_reducible refine (impl_net_ball.calls k2 _ _ l0_0 x13_1 x5_2 t115 _ ?side1 ?side2 A29.out).mono ?_); (case side1 => exact (Q7 HR0_0 HB)); (case side2 => exact HC0_0.out); rintro e w32 ⟨rfl, hb⟩; refine ⟨_, rfl, ?_⟩; replace HO_3 := am (Kd.S_below Q47 hb); replace BK101 := bb BK101 hb; replace HB := bs HB hb; (try clear hb); (try clear hb2); (try clear hk); (try clear hi)) | ((with_reducible refine gate_callee (f := 122) rfl ?_); refine goesL_ (some 33) rfl rfl Try.func122 (by kernel_rfl) rfl #[.int .i64 t115] rfl Q3 ?_; (with_reducible refine (impl_setOf.calls k2 t115 t116 _ A30.out).mono ?_); rintro e w33 ⟨v117, rfl, ho0, hb⟩; refine ⟨_, rfl, ?_⟩; replace HO_3 := am (Kd.S_elder' Q47 (Kd.R_base ho0) hb); have HO118 := am (Kd.R_lower ho0 (below_size (Q0 HB))); replace BK101 := bb BK101 hb; replace HB := bs HB hb; (try clear hb); (try clear hb2); (try clear hk); (try clear hi); (try clear ho0); obtain ⟨Ao34, co34, eo34⟩ := Kd.R_slice HO118.out; subst eo34))
        go_loopg [35] k2 (fun kq v35 w' => ∃ (x3_3 : List (List Int)) (x33_3 : List Int) (x35_3 : Int), v35 = .int .i64 x35_3 ∧ Aside0 (impl_net_distances.l2 kq x3_3 x13_1 x5_2 (y103.length : Int) x13_1 x33_3 (t116.length : Int) x35_3 l0_0 = some r) ∧ Aside0 (kq ≤ k2) ∧ Aside0 (Kd.S (Kd.slice 3 (Kd.int .i64)) 25 w' w.heap.size (fun k_ => some k_ ≠ ((.slice Ao34 t116.length co34) : Value).ownBlock) (.slice (some ⟨go16, 0, none⟩) x3_2.length co10) x3_3) ∧ Aside0 (Kd.R (Kd.int .i64) 3 w' w.heap.size (fun _ => True) (.slice Ao34 t116.length co34) x33_3) ∧ Aside0 (w'.heap[gb101]? = some (.cells #[(.slice A0_0 l0_0.length c0_0)] 90 (0, 0))) ∧ Aside0 (Below w.heap.size w w'))
        case atStart => exact ⟨(x3_2), (t116), (0), Q9, H', ⟨Nat.le_refl _⟩, ⟨by (try simp only [hl3_1]); (try simp only [hl3_2]); (with_reducible repeat (first | apply Kd.S_alloc | apply Kd.S_drewN | apply Kd.S_drew)); exact Kd.S_mono HO_3.out (fun _ hk => hk.2)⟩, ⟨by (try simp only [hl3_1]); (try simp only [hl3_2]); (with_reducible repeat (first | apply Kd.R_alloc | apply Kd.R_drewN | apply Kd.R_drew)); exact HO118.out⟩, ⟨by (try simp only [hl3_1]); (try simp only [hl3_2]); (with_reducible repeat (first | refine blk_drewN ?_ _ | refine blk_drew ?_ | refine blk_alloc ?_ _)); exact BK101.out⟩, ⟨Q0 HB⟩⟩
        case round =>
         clear H'
         obtain ⟨x3_3, x33_3, x35_3, rfl, HA, HK3, HO_3, HO_33, BK101, HB⟩ := hrel; have hl3_3 := (Kd.S_reads' HO_3.out).1; rw [hl3_3] at HO_3; (try simp only [hl3_3]); (try simp only [hl3_3] at BK101); (try simp only [hl3_3] at HO_33); have hl33_3 := (Kd.R_reads' HO_33.out).1; rw [hl33_3] at HO_33; (try simp only [hl33_3]); (try simp only [hl33_3] at BK101); (try simp only [hl33_3] at HO_3)
         cases gk with
         | zero => exact absurd HA.out (by simp [impl_net_distances.l2])
         | succ k3 =>
          have H := HA.out; clear HA
          simp only [impl_net_distances.l2] at H
          by_cases c35 : x35_3 < (t116.length : Int)
          ·rw [if_pos c35] at H
           have c35b0 := decide_eq_true c35; clear c35
           obtain ⟨c36, H⟩ := ifn H
           have c36b0 := decide_eq_true c36; clear c36
           obtain ⟨c37, H⟩ := ifn H
           have c37b0 := decide_eq_true c37; clear c37
           obtain ⟨c38, H⟩ := ifn H
           have c38b0 := decide_eq_true c38; clear c38
           obtain ⟨c39, H⟩ := ifn H
           have c39b0 := decide_eq_true c39; clear c39
           obtain ⟨c40, H⟩ := ifn H
           have c40b0 := decide_eq_true c40; clear c40
           obtain ⟨c41, H⟩ := ifn H
           have c41b0 := decide_eq_true c41; clear c41; obtain ⟨y121, hy121⟩ : ∃ y_ : List Int, y_ = ((rd_L6 x3_3 x13_1).set ((rd x33_3 x35_3) : Int).toNat x5_2) := ⟨_, rfl⟩; replace H : (impl_net_distances.l2 k3 (x3_3.set (x13_1 : Int).toNat y121) x13_1 x5_2 (y103.length : Int) x13_1 x33_3 (t116.length : Int) (wrap64 (x35_3 + 1)) l0_0) = some r := RH hy121 H; have Ny121 := Aside0.mk hy121; clear hy121; obtain ⟨y123, hy123⟩ : ∃ y_ : List (List Int), y_ = (x3_3.set (x13_1 : Int).toNat y121) := ⟨_, rfl⟩; replace H : (impl_net_distances.l2 k3 y123 x13_1 x5_2 (y103.length : Int) x13_1 x33_3 (t116.length : Int) (wrap64 (x35_3 + 1)) l0_0) = some r := RH hy123 H; have Ny123 := Aside0.mk hy123; clear hy123; have H' := Aside0.mk H; clear H; have p119 : 0 ≤ (x35_3 : Int) := D4; have q119 : x35_3 < (x33_3.length : Int) := D4; obtain ⟨ad119, e119, hx119_0⟩ := Kd.at_int (Kd.R_reads' HO_33.out).2.2 x35_3 p119 q119
           cases e119
           replace p119 := eq_true p119; replace q119 := eq_true q119; have q119x : (x35_3 < (t116.length : Int)) = True := eq_true (by have h_ := of_eq_true q119; rw [← hl33_3] at h_; exact h_); have p120 : 0 ≤ (x13_1 : Int) := D4; have q120 : x13_1 < (x3_3.length : Int) := D4; obtain ⟨ad120, A120_0, c120_0, e120, hx120_0, hl120_0, hi120_0⟩ := at_L6 (Kd.S_reads' HO_3.out).2.2 x13_1 p120 q120; obtain rfl : (⟨go16, 0, none⟩ : Addr) = ad120 := (by injection e120); obtain ⟨ce120, hce120, hMe120, hcc120⟩ := Kd.S_get HO_3.out [] x13_1 p120 (by first | exact q120 | exact D4 | (have e_ := (Kd.S_reads' HO_3.out).1; omega)); obtain ⟨ve120_0, rfl, ge120_0⟩ := hMe120; have hv120_0 := hcc120 0 _ rfl; rw [Nat.add_zero, show ((Kd.slice 3 (Kd.int .i64))).sz = 1 from rfl, Nat.mul_one] at hv120_0; replace hv120_0 := Option.some.inj (hv120_0.symm.trans hx120_0); rw [hv120_0] at ge120_0; have HL120_0 := am (show Kd.R (Kd.int .i64) 3 _ _ _ _ (rd_L6 x3_3 x13_1) from ge120_0); clear hv120_0 ge120_0; have HX120_0 := Aside0.mk hx120_0; clear hcc120 hce120
           (first | simp only [add_plain] at hx120_0 | simp only [add_at] at hx120_0 | simp only [Addr.add, Nat.zero_add] at hx120_0 | skip)
           have HR120_0 := Aside0.mk hi120_0; have HC120_0 := Aside0.mk hl120_0; clear hi120_0 hl120_0; replace p120 := eq_true p120; replace q120 := eq_true q120; have p42 : 0 ≤ ((rd x33_3 x35_3) : Int) := D4; have q42 : ((rd x33_3 x35_3) : Int) < (((rd_L6 x3_3 x13_1).length : Int) : Int) := D4; obtain ⟨go42, co42, eo42, gb42, gl42, cl42, HG42⟩ := Kd.R_form HL120_0.out (by omega)
           (first | cases eo42 | (injection eo42 with ea_ en_ ec_; (first | subst ea_ | (injection ea_ with ea_; subst ea_)); subst ec_; clear en_))
           have GB42 := Aside0.mk gb42; have GG42 := Aside0.mk HG42; clear gb42 gl42 HG42; obtain ⟨hx42_0, hf42_0⟩ := Kd.R_celln 0 HL120_0.out ((rd x33_3 x35_3) : Int) p42 q42; replace p42 := eq_true p42; replace q42 := eq_true q42; have hq43 : (x13_1 : Int) < (x3_3.length : Int) := (by have h_ : (x13_1 : Int) < ((x3_3.length : Int) : Int) := D4; first | exact h_ | (have e_ := (Kd.S_reads' HO_3.out).1; omega) | simpa only [List.length_set, List.length_set] using h_); obtain ⟨oki43, ce43, hcl43, hM43, hcc43, hok43, hbk43⟩ := Kd.S_borrow HO_3.out [] (x13_1 : Int) (D4) hq43; obtain ⟨ve43_0, rfl, ge43_0⟩ := hM43; have hv43 := hcc43 0 _ rfl; rw [Nat.add_zero, show ((Kd.slice 3 (Kd.int .i64))).sz = 1 from rfl, Nat.mul_one] at hv43; replace hv43 := Option.some.inj (hv43.symm.trans HX120_0.out); subst hv43; clear hcc43 hcl43; replace ge43_0 := (show Kd.R (Kd.int .i64) 3 _ _ _ _ (rd_L6 x3_3 x13_1) from ge43_0); have HP43 := Kd.R_putg ge43_0 ((rd x33_3 x35_3) : Int) x5_2
           go_wp2_with (first | ((with_reducible refine gate_store (t := 3) (p := 45) rfl ?_); refine store_event (t := 3) (p := 45) (v := ?vo_w44) (w1 := (wr.setCell ⟨go42, ((rd x33_3 x35_3) : Int).toNat, none⟩ (.int .i64 x5_2))) ?hg ?ho ?hn ?hr ?_; (case ho => rfl); (case hg => rfl); (case hn => rfl); (case hr => first | (go_simp; done) | (go_simp; rfl)); intro w44 hw; have hg : wr.grownBy w44 (some go42) := (by rw [hw]; exact HP43.2); have hz_ : Kd.R (Kd.int .i64) 3 w44 w.heap.size oki43 (.slice (some ⟨go42, 0, none⟩) (rd_L6 x3_3 x13_1).length c120_0) y121 := (by rw [hw, Ny121.out]; exact HP43.1); have hp_ : Kd.S (Kd.slice 3 (Kd.int .i64)) 25 w44 w.heap.size (fun k_ => some k_ ≠ (.slice (some ad119) x33_3.length co34 : Value).ownBlock) (.slice (some ⟨go16, 0, none⟩) x3_3.length co10) y123 := (by rw [Ny123.out]; exact hbk43 hg (fun k_ e_ => by injection e_ with e_; subst e_; exact ge43_0.1 _ rfl) (Kd.M_row hz_)); have hm_ := Kd.R_mono hz_ hok43; clear HP43 hbk43; replace HO_3 := am (hp_); replace HO_33 := am (Kd.R_grown1 (by (with_reducible repeat (first | apply Kd.R_alloc | apply Kd.R_drewN | apply Kd.R_drew)); exact HO_33.out) rfl hg ((HL120_0.out.1 _ rfl).1)); replace BK101 := am (blk_grown (g := gb101) (o := .cells #[.slice A0_0 l0_0.length c0_0] 90 (0, 0)) (Q1 BK101) hg (Kd.R_ne HL120_0.out BK101.out (by decide))); replace HB := am ((by rw [hw]; exact below_set (HB.out) GB42.out : Below w.heap.size w w44)); have HL124 := am (hm_); have HC122 := am ((Kd.R_reads' hm_).2.1); clear HL120_0; clear hg hw hp_ hz_ hm_ hok43))
           (try simp only [← hl3_3, ← hl33_3])
           go_roundg k3
           case measure => have := HK1.out; have := HK2.out; have := HK3.out; omega
           case rel => exact ⟨(y123), (x33_3), (wrap64 (x35_3 + 1)), Q9, H', ⟨by have := HK1.out; have := HK2.out; have := HK3.out; omega⟩, ⟨by (try simp only [hl3_1]); (try simp only [hl3_2]); (try simp only [hl3_3]); (try simp only [hl33_3]); (with_reducible repeat (first | apply Kd.S_alloc | apply Kd.S_drewN | apply Kd.S_drew)); exact HO_3.out⟩, ⟨by (try simp only [hl3_1]); (try simp only [hl3_2]); (try simp only [hl3_3]); (try simp only [hl33_3]); (with_reducible repeat (first | apply Kd.R_alloc | apply Kd.R_drewN | apply Kd.R_drew)); exact HO_33.out⟩, ⟨Q108 BK101⟩, ⟨Q0 HB⟩⟩
          ·rw [if_neg c35] at H
           have c35b0 := decide_eq_false c35; have c35x : decide (x35_3 < (x33_3.length : Int)) = false := by rw [← hl33_3]; exact c35b0
           clear c35; have H' := Aside0.mk H; clear H
           go_wp2
           (try simp only [← hl3_2, ← hl3_3, ← hl33_3])
           go_roundg k3
           case measure => have := HK1.out; have := HK2.out; have := HK3.out; omega
           case rel => exact ⟨(x3_3), (wrap64 (x5_2 - 1)), Q9, H', ⟨by have := HK1.out; have := HK2.out; have := HK3.out; omega⟩, ⟨by (try simp only [hl3_1]); (try simp only [hl3_2]); (try simp only [hl3_3]); (try simp only [hl33_3]); (with_reducible repeat (first | apply Kd.S_alloc | apply Kd.S_drewN | apply Kd.S_drew)); exact Kd.S_mono HO_3.out (fun _ hk => trivial)⟩, ⟨Q108 BK101⟩, ⟨Q0 HB⟩⟩
       ·rw [if_neg c28] at H
        have c28b0 : decide (0 ≤ x5_2) = false := decide_eq_false c28; clear c28; have H' := Aside0.mk H; clear H
        go_wp2
        (try simp only [← hl3_1, ← hl3_2])
        go_roundg k2
        case measure => have := HK1.out; have := HK2.out; omega
        case rel => exact ⟨(x3_2), (wrap64 (x13_1 + 1)), Q9, H', ⟨Q68⟩, ⟨by (try simp only [hl3_1]); (try simp only [hl3_2]); (with_reducible repeat (first | apply Kd.S_alloc | apply Kd.S_drewN | apply Kd.S_drew)); exact HO_3.out⟩, ⟨by (try simp only [hl3_1]); (try simp only [hl3_2]); (with_reducible repeat (first | refine blk_drewN ?_ _ | refine blk_drew ?_ | refine blk_alloc ?_ _)); exact BK101.out⟩, ⟨Q0 HB⟩⟩
    ·rw [if_neg c11] at H
     have c11b0 := decide_eq_false c11; have c11x : decide (x13_1 < (x3_1.length : Int)) = false := by rw [← hl3_1]; exact c11b0
     clear c11; obtain rfl := Option.some.inj H
     go_wp2
     go_ret
     exact ⟨_, Q10, Q47, Q0 HB⟩
 ·rw [if_neg c3] at H
  exact absurd H (by simp)
/-! ### impl_DistancesOf: function 45 -/
def impl_DistancesOf.f (k : Nat) (a0_0 : Int) (l0_1 : List (S71)) : Option ((List (List Int)) × Bool) := (impl_IsGraph.f k a0_0 l0_1).bind fun t102 => (if t102 = true then ((impl_netOf.f k a0_0 l0_1).bind fun t103 => ((impl_net_distances.f k t103).bind fun t106 => (some (t106, true)))) else (some (([] : List (List Int)), false)))
theorem impl_DistancesOf.mono : ∀ a0 a1 k, LeO (impl_DistancesOf.f k a0 a1) (impl_DistancesOf.f (k + 1) a0 a1) := by
 intro a0 a1 k
 unfold impl_DistancesOf.f
 repeat' first | (with_reducible first | exact impl_IsGraph.mono _ _ _ | exact impl_netOf.mono _ _ _ | exact impl_net_distances.mono _ _ | exact LeO.refl _ | exact LeO.none _ | refine LeO.ite ?_ ?_ | refine LeO.bind ?_ (fun _ => ?_))
set_option maxHeartbeats 8000000 in
set_option maxRecDepth 100000 in
theorem impl_DistancesOf.calls (k : Nat) (a0_0 : Int) (A0_1 : Option Addr) (c0_1 : Nat) (l0_1 : List (S71)) (r1 : List (List Int)) (r2 : Bool) (w : World) (hr0_1 : Kd.C k71 w A0_1 l0_1.length l0_1) (hc0_1 : l0_1.length ≤ c0_1) (h : impl_DistancesOf.f k a0_0 l0_1 = some (r1, r2)) :
  Calls Try.prog 45 #[.agg #[.int .i64 a0_0, .slice A0_1 l0_1.length c0_1]] w fun e w' => ∃ v0_ : Value, e = .returned (.tuple #[v0_, .bool r2]) ∧ Kd.S (Kd.slice 3 (Kd.int .i64)) 25 w' w.heap.size (fun _ => True) v0_ r1 ∧ Below w.heap.size w w' := by
 have hu30 := Try.underlying30
 have HR0_1 := Aside0.mk hr0_1
 have HC0_1 := Aside0.mk hc0_1
 clear hr0_1 hc0_1
 have HB := am (Below.refl w.heap.size w)
 have H : ((impl_IsGraph.f k a0_0 l0_1).bind fun t102 => (if t102 = true then ((impl_netOf.f k a0_0 l0_1).bind fun t103 => ((impl_net_distances.f k t103).bind fun t106 => (some (t106, true)))) else (some (([] : List (List Int)), false)))) = some (r1, r2) := h
 clear h
 replace H := (ob H)
 obtain ⟨t102, A20, H⟩ := H
 (try dsimp only at H)
 have A2 := Aside0.mk A20
 clear A20
 have HU3 := Aside0.mk H
 clear H
 go_enter Try.func45, Try.ntmps45
 go_upto_if 6 with (first | ((with_reducible refine gate_dst (N := 1) rfl ?_); refine box_event (by rfl) (N := 1) (by rfl) (cs := #[.int .i64 a0_0, .slice A0_1 l0_1.length c0_1]) (t := 30) Qr ?_; intro gb101 hg w4 hbox hb; have BK101 := am (hbox); have GW101 := am ((Q26 : w.heap.size ≤ gb101)); have GE101 := am ((Q26 : w.heap.size ≤ gb101)); replace HB := bs HB hb; clear hb hbox hg; obtain ⟨hcz5_0, hfz5_0, hcz5_1, hfz5_1⟩ := b2 BK101) | ((with_reducible refine gate_callee (f := 71) rfl ?_); refine goesL_ (some 5) rfl rfl Try.func71 (by kernel_rfl) rfl #[.agg #[.int .i64 a0_0, .slice A0_1 l0_1.length c0_1]] rfl Q3 ?_; (with_reducible refine (impl_IsGraph.calls k a0_0 _ _ l0_1 t102 _ ?side1 ?side2 A2.out).mono ?_); (case side1 => exact (Q7 HR0_1 HB)); (case side2 => exact HC0_1.out); rintro e w6 ⟨rfl, hb⟩; refine ⟨_, rfl, ?_⟩; replace BK101 := bb BK101 hb; replace HB := bs HB hb; (try clear hb); (try clear hb2); (try clear hk); (try clear hi)))
 (try simp only [Act.put, List.setIfInBounds_toArray, List.set_cons_zero, List.set_cons_succ])
 have H := HU3.out
 clear HU3
 by_cases c7 : t102 = true
 ·subst c7
  have H1 : ((impl_netOf.f k a0_0 l0_1).bind fun t103 => ((impl_net_distances.f k t103).bind fun t106 => (some (t106, true)))) = some (r1, r2) := by rw [if_pos rfl] at H; exact H
  clear H; have H := H1; clear H1; replace H := (ob H); obtain ⟨t103, A80, H⟩ := H; (try dsimp only at H); have A8 := Aside0.mk A80; clear A80; replace H := (ob H); obtain ⟨t106, A90, H⟩ := H; (try dsimp only at H); have A9 := Aside0.mk A90; clear A90
  simp only [Option.some.injEq, Prod.mk.injEq] at H
  obtain ⟨rfl, rfl⟩ := H; obtain ⟨hcz10_0, hfz10_0, hcz10_1, hfz10_1⟩ := b2 BK101
  go_wp2_with (first | ((with_reducible refine gate_callee (f := 101) rfl ?_); refine goesL_ (some 8) rfl rfl Try.func101 (by kernel_rfl) rfl #[.agg #[.int .i64 a0_0, .slice A0_1 l0_1.length c0_1]] rfl Q3 ?_; (with_reducible refine (impl_netOf.calls k a0_0 _ _ l0_1 t103 _ ?side1 ?side2 A8.out).mono ?_); (case side1 => exact (Q7 HR0_1 HB)); (case side2 => exact HC0_1.out); rintro e w11 ⟨v104, rfl, ho0, hb⟩; refine ⟨_, rfl, ?_⟩; have HO105 := am (Kd.R_lower ho0 (below_size (Q0 HB))); replace BK101 := bb BK101 hb; replace HB := bs HB hb; (try clear hb); (try clear hb2); (try clear hk); (try clear hi); (try clear ho0); obtain ⟨Ao12, co12, eo12⟩ := Kd.R_slice HO105.out; subst eo12) | ((with_reducible refine gate_callee (f := 138) rfl ?_); refine goesL_ (some 9) rfl rfl Try.func138 (by kernel_rfl) rfl #[.agg #[.slice Ao12 t103.length co12]] rfl Q3 ?_; (with_reducible refine (impl_net_distances.calls k _ _ t103 t106 _ ?side1 ?side2 A9.out).mono ?_); (case side1 => exact (Q15 HO105)); (case side2 => exact (Kd.R_reads' HO105.out).2.1); rintro e w13 ⟨v107, rfl, ho0, hb⟩; refine ⟨_, rfl, ?_⟩; have HO108 := am (Kd.S_lower (Kd.S_new' ho0 (Kd.R_lt (Q2 HO105))) (below_size (Q0 HB))); replace HO105 := am (Kd.R_below (Q2 HO105) hb); replace BK101 := bb BK101 hb; replace HB := bs HB hb; (try clear hb); (try clear hb2); (try clear hk); (try clear hi); (try clear ho0)))
  go_ret2
  exact ⟨_, Q10, by (with_reducible repeat (first | apply Kd.S_alloc | apply Kd.S_drewN | apply Kd.S_drew)); exact Kd.S_mono HO108.out (fun _ hk => trivial), Q0 HB⟩
 ·replace c7 := Bool.eq_false_iff.mpr c7
  subst c7; have H1 : (some (([] : List (List Int)), false)) = some (r1, r2) := by rw [if_neg (show ¬ (false = true) by decide)] at H; exact H
  clear H; have H := H1; clear H1
  simp only [Option.some.injEq, Prod.mk.injEq] at H
  obtain ⟨rfl, rfl⟩ := H
  go_wp2
  go_ret2
  exact ⟨_, Q10, Q89, Q0 HB⟩
/-! ### impl_FirstWay: function 67 -/
mutual
def impl_FirstWay.l0 : Nat → Int → Int → List (List Int) → List Int → Option (List Int × Bool)
 | 0, _, _, _, _ => none
 | k + 1, x1, x2, x8, x9 => if x1 = x2 then (some (x9, true)) else (if 0 ≤ x1 then (if x1 < (x8.length : Int) then (impl_FirstWay.l1 k x1 x2 x8 x9 (rd_L6 x8 x1) ((rd_L6 x8 x1).length : Int) 0) else (none)) else (none))
def impl_FirstWay.l1 : Nat → Int → Int → List (List Int) → List Int → List Int → Int → Int → Option (List Int × Bool)
 | 0, _, _, _, _, _, _, _ => none
 | k + 1, x1, x2, x8, x9, x37, x38, x39 => if x39 < x38 then (if 0 ≤ x39 then (if x39 < (x37.length : Int) then (if (rd x37 x39) = 1 then (if x39 < (x8.length : Int) then (if 0 ≤ x2 then (if x2 < ((rd_L6 x8 x39).length : Int) then (if 0 ≤ x1 then (if x1 < (x8.length : Int) then (if x2 < ((rd_L6 x8 x1).length : Int) then (if (rd (rd_L6 x8 x39) x2) = (wrap64 ((rd (rd_L6 x8 x1) x2) - 1)) then (if x9.length < 17592186044416 then (impl_FirstWay.l0 k x39 x2 x8 (x9 ++ [x39])) else (none)) else (impl_FirstWay.l1 k x1 x2 x8 x9 x37 x38 (wrap64 (x39 + 1)))) else (none)) else (none)) else (none)) else (none)) else (none)) else (none)) else (impl_FirstWay.l1 k x1 x2 x8 x9 x37 x38 (wrap64 (x39 + 1)))) else (none)) else (none)) else (if x9.length < 17592186044416 then (impl_FirstWay.l0 k x1 x2 x8 (x9 ++ [x1])) else (none))
end
def impl_FirstWay.f (k : Nat) (a0_0 : Int) (l0_1 : List (S71)) (a1 : Int) (a2 : Int) : Option (List Int × Bool) := (impl_hasNodes.f k a0_0 l0_1 (([a1, a2] : List Int))).bind fun t105 => (if t105 = true then ((impl_netOf.f k a0_0 l0_1).bind fun t106 => ((impl_net_distances.f k t106).bind fun t109 => (if 0 ≤ a1 then (if a1 < (t109.length : Int) then (if 0 ≤ a2 then (if a2 < ((rd_L6 t109 a1).length : Int) then (if (rd (rd_L6 t109 a1) a2) < 0 then (some (([] : List Int), false)) else (impl_FirstWay.l0 k a1 a2 t109 (([a1] : List Int)))) else (none)) else (none)) else (none)) else (none)))) else (some (([] : List Int), false)))
theorem impl_FirstWay.mono_l : ∀ k, (∀ y0 y1 y2 y3, LeO (impl_FirstWay.l0 k y0 y1 y2 y3) (impl_FirstWay.l0 (k + 1) y0 y1 y2 y3)) ∧ (∀ y0 y1 y2 y3 y4 y5 y6, LeO (impl_FirstWay.l1 k y0 y1 y2 y3 y4 y5 y6) (impl_FirstWay.l1 (k + 1) y0 y1 y2 y3 y4 y5 y6))
 | 0 => ⟨fun _ _ _ _ r h => by simp [impl_FirstWay.l0] at h, fun _ _ _ _ _ _ _ r h => by simp [impl_FirstWay.l1] at h⟩
 | k + 1 => by
  obtain ⟨ih0, ih1⟩ := impl_FirstWay.mono_l k; refine ⟨?_, ?_⟩
  all_goals
   intros
   first | unfold impl_FirstWay.l0 | unfold impl_FirstWay.l1
   repeat' first | (with_reducible first | exact ih0 _ _ _ _ | exact ih1 _ _ _ _ _ _ _ | exact impl_hasNodes.mono _ _ _ _ | exact impl_netOf.mono _ _ _ | exact impl_net_distances.mono _ _ | exact LeO.refl _ | exact LeO.none _ | refine LeO.ite ?_ ?_ | refine LeO.bind ?_ (fun _ => ?_))
theorem impl_FirstWay.mono : ∀ a0 a1 a2 a3 k, LeO (impl_FirstWay.f k a0 a1 a2 a3) (impl_FirstWay.f (k + 1) a0 a1 a2 a3) := by
 intro a0 a1 a2 a3 k
 obtain ⟨ih0, ih1⟩ := impl_FirstWay.mono_l k
 unfold impl_FirstWay.f
 repeat' first | (with_reducible first | exact ih0 _ _ _ _ | exact ih1 _ _ _ _ _ _ _ | exact impl_hasNodes.mono _ _ _ _ | exact impl_netOf.mono _ _ _ | exact impl_net_distances.mono _ _ | exact LeO.refl _ | exact LeO.none _ | refine LeO.ite ?_ ?_ | refine LeO.bind ?_ (fun _ => ?_))
set_option maxHeartbeats 8000000 in
set_option maxRecDepth 100000 in
theorem impl_FirstWay.calls (k : Nat) (a0_0 : Int) (A0_1 : Option Addr) (c0_1 : Nat) (l0_1 : List (S71)) (a1 : Int) (a2 : Int) (r1 : List Int) (r2 : Bool) (w : World) (hr0_1 : Kd.C k71 w A0_1 l0_1.length l0_1) (hc0_1 : l0_1.length ≤ c0_1) (h : impl_FirstWay.f k a0_0 l0_1 a1 a2 = some (r1, r2)) :
  Calls Try.prog 67 #[.agg #[.int .i64 a0_0, .slice A0_1 l0_1.length c0_1], .int .i64 a1, .int .i64 a2] w fun e w' => ∃ v0_ : Value, e = .returned (.tuple #[v0_, .bool r2]) ∧ Kd.R (Kd.int .i64) 3 w' w.heap.size (fun _ => True) v0_ r1 ∧ Below w.heap.size w w' := by
 have hu30 := Try.underlying30
 have HR0_1 := Aside0.mk hr0_1
 have HC0_1 := Aside0.mk hc0_1
 clear hr0_1 hc0_1
 have HB := am (Below.refl w.heap.size w)
 have H : ((impl_hasNodes.f k a0_0 l0_1 (([a1, a2] : List Int))).bind fun t105 => (if t105 = true then ((impl_netOf.f k a0_0 l0_1).bind fun t106 => ((impl_net_distances.f k t106).bind fun t109 => (if 0 ≤ a1 then (if a1 < (t109.length : Int) then (if 0 ≤ a2 then (if a2 < ((rd_L6 t109 a1).length : Int) then (if (rd (rd_L6 t109 a1) a2) < 0 then (some (([] : List Int), false)) else (impl_FirstWay.l0 k a1 a2 t109 (([a1] : List Int)))) else (none)) else (none)) else (none)) else (none)))) else (some (([] : List Int), false)))) = some (r1, r2) := h
 clear h
 obtain ⟨y102, hy102⟩ : ∃ y_ : List Int, y_ = (([a1, a2] : List Int)) := ⟨_, rfl⟩
 replace H : ((impl_hasNodes.f k a0_0 l0_1 y102).bind fun t105 => (if t105 = true then ((impl_netOf.f k a0_0 l0_1).bind fun t106 => ((impl_net_distances.f k t106).bind fun t109 => (if 0 ≤ a1 then (if a1 < (t109.length : Int) then (if 0 ≤ a2 then (if a2 < ((rd_L6 t109 a1).length : Int) then (if (rd (rd_L6 t109 a1) a2) < 0 then (some (([] : List Int), false)) else (impl_FirstWay.l0 k a1 a2 t109 (([a1] : List Int)))) else (none)) else (none)) else (none)) else (none)))) else (some (([] : List Int), false)))) = some (r1, r2) := RH hy102 H
 have Ny102 := Aside0.mk hy102
 clear hy102
 replace H := (ob H)
 obtain ⟨t105, A40, H⟩ := H
 (try dsimp only at H)
 have A4 := Aside0.mk A40
 clear A40
 have HU5 := Aside0.mk H
 clear H
 go_enter Try.func67, Try.ntmps67
 go_upto_if 17 with (first | ((with_reducible refine gate_dst (N := 3) rfl ?_); refine box_event (by rfl) (N := 3) (by rfl) (cs := #[.int .i64 a0_0, .slice A0_1 l0_1.length c0_1]) (t := 30) Qr ?_; intro gb101 hg w6 hbox hb; have BK101 := am (hbox); have GW101 := am ((Q26 : w.heap.size ≤ gb101)); have GE101 := am ((Q26 : w.heap.size ≤ gb101)); replace HB := bs HB hb; clear hb hbox hg; obtain ⟨hcz7_0, hfz7_0, hcz7_1, hfz7_1⟩ := b2 BK101) | ((with_reducible refine gate_dst (N := 15) rfl ?_); refine Kd.R_lit (Kd.int .i64) _ 3 (by rfl) (N := 15) (by rfl) (xs := ([a1, a2] : List Int)) (inner := [.int .i64 a1, .int .i64 a2]) (ok := fun _ => True) (okp := fun _ => True) Qr ?hp (fun _ hk => hk) trivial (Below.refl _ _) (Nat.le_refl _) (by simp) ?_; (case hp => exact (Reps.one (show Kd.M (Kd.int .i64) _ _ _ a1 [.int .i64 a1] from rfl) (Reps.one (show Kd.M (Kd.int .i64) _ _ _ a2 [.int .i64 a2] from rfl) (Reps.none _ _)))); intro v103 w8 ho9 hb hg_ hnew_; clear hg_ hnew_; (first | rw [← Ny102.out] at ho9 | (simp only [Int.reduceToNat] at ho9; rw [← Ny102.out] at ho9)); have HO104 := am (Kd.R_lower ho9 (below_size (Q0 HB))); replace BK101 := bb BK101 hb; replace HB := bs HB hb; clear hb ho9; obtain ⟨Ao10, co10, eo10⟩ := Kd.R_slice HO104.out; subst eo10) | (go_at_call 123; (with_reducible refine (impl_hasNodes.calls k a0_0 _ _ l0_1 _ _ y102 t105 _ ?side1 ?side2 ?side3 ?side4 A4.out).mono ?_); (case side1 => exact (Q7 HR0_1 HB)); (case side2 => exact HC0_1.out); (case side3 => exact (Q15 HO104)); (case side4 => exact (Kd.R_reads' HO104.out).2.1); rintro e w11 ⟨rfl, hb⟩; replace HO104 := am (Kd.R_below (Q2 HO104) hb); replace BK101 := bb BK101 hb; replace HB := bs HB hb; (try clear hb); (try clear hb2); (try clear hk); (try clear hi)))
 repeat (go_quiet (first | ((with_reducible refine gate_dst (N := 3) rfl ?_); refine box_event (by rfl) (N := 3) (by rfl) (cs := #[.int .i64 a0_0, .slice A0_1 l0_1.length c0_1]) (t := 30) Qr ?_; intro gb101 hg w6 hbox hb; have n0_ := am (below_step (Q0 HB) hb); have n1_ := am (hbox); have n2_ := am ((Q26 : w.heap.size ≤ gb101)); have n3_ := am ((Q26 : w.heap.size ≤ gb101)); replace HB := n0_; have BK101 := n1_; have GW101 := n2_; have GE101 := n3_; clear n0_ n1_ n2_ n3_; clear hb hbox hg; obtain ⟨hcz7_0, hfz7_0, hcz7_1, hfz7_1⟩ := b2 BK101) | ((with_reducible refine gate_dst (N := 15) rfl ?_); refine Kd.R_lit (Kd.int .i64) _ 3 (by rfl) (N := 15) (by rfl) (xs := ([a1, a2] : List Int)) (inner := [.int .i64 a1, .int .i64 a2]) (ok := fun _ => True) (okp := fun _ => True) Qr ?hp (fun _ hk => hk) trivial (Below.refl _ _) (Nat.le_refl _) (by simp) ?_; (case hp => exact (Reps.one (show Kd.M (Kd.int .i64) _ _ _ a1 [.int .i64 a1] from rfl) (Reps.one (show Kd.M (Kd.int .i64) _ _ _ a2 [.int .i64 a2] from rfl) (Reps.none _ _)))); intro v103 w8 ho9 hb hg_ hnew_; clear hg_ hnew_; (first | rw [← Ny102.out] at ho9 | (simp only [Int.reduceToNat] at ho9; rw [← Ny102.out] at ho9)); have n0_ := am (Kd.R_lower ho9 (below_size (Q0 HB))); have n1_ := am (blk_below (g := gb101) (o := .cells #[.int .i64 a0_0, .slice A0_1 l0_1.length c0_1] 30 (0, 0)) (Q1 BK101) hb); have n2_ := am (below_step (Q0 HB) hb); have HO104 := n0_; replace BK101 := n1_; replace HB := n2_; clear n0_ n1_ n2_; clear hb ho9; obtain ⟨Ao10, co10, eo10⟩ := Kd.R_slice HO104.out; subst eo10) | (go_at_call 123; (with_reducible refine (impl_hasNodes.calls k a0_0 _ _ l0_1 _ _ y102 t105 _ ?side1 ?side2 ?side3 ?side4 A4.out).mono ?_); (case side1 => exact (Q7 HR0_1 HB)); (case side2 => exact HC0_1.out); (case side3 => exact (Q15 HO104)); (case side4 => exact (Kd.R_reads' HO104.out).2.1); rintro e w11 ⟨rfl, hb⟩; have n0_ := am (Kd.R_below (Q2 HO104) hb); have n1_ := am (blk_below (g := gb101) (o := .cells #[.int .i64 a0_0, .slice A0_1 l0_1.length c0_1] 30 (0, 0)) (Q1 BK101) hb); have n2_ := am (below_step (Q0 HB) hb); replace HO104 := n0_; replace BK101 := n1_; replace HB := n2_; clear n0_ n1_ n2_; (try clear hb); (try clear hb2); (try clear hk); (try clear hi))); go_upto_if 17 with (first | ((with_reducible refine gate_dst (N := 3) rfl ?_); refine box_event (by rfl) (N := 3) (by rfl) (cs := #[.int .i64 a0_0, .slice A0_1 l0_1.length c0_1]) (t := 30) Qr ?_; intro gb101 hg w6 hbox hb; have BK101 := am (hbox); have GW101 := am ((Q26 : w.heap.size ≤ gb101)); have GE101 := am ((Q26 : w.heap.size ≤ gb101)); replace HB := bs HB hb; clear hb hbox hg; obtain ⟨hcz7_0, hfz7_0, hcz7_1, hfz7_1⟩ := b2 BK101) | ((with_reducible refine gate_dst (N := 15) rfl ?_); refine Kd.R_lit (Kd.int .i64) _ 3 (by rfl) (N := 15) (by rfl) (xs := ([a1, a2] : List Int)) (inner := [.int .i64 a1, .int .i64 a2]) (ok := fun _ => True) (okp := fun _ => True) Qr ?hp (fun _ hk => hk) trivial (Below.refl _ _) (Nat.le_refl _) (by simp) ?_; (case hp => exact (Reps.one (show Kd.M (Kd.int .i64) _ _ _ a1 [.int .i64 a1] from rfl) (Reps.one (show Kd.M (Kd.int .i64) _ _ _ a2 [.int .i64 a2] from rfl) (Reps.none _ _)))); intro v103 w8 ho9 hb hg_ hnew_; clear hg_ hnew_; (first | rw [← Ny102.out] at ho9 | (simp only [Int.reduceToNat] at ho9; rw [← Ny102.out] at ho9)); have HO104 := am (Kd.R_lower ho9 (below_size (Q0 HB))); replace BK101 := bb BK101 hb; replace HB := bs HB hb; clear hb ho9; obtain ⟨Ao10, co10, eo10⟩ := Kd.R_slice HO104.out; subst eo10) | (go_at_call 123; (with_reducible refine (impl_hasNodes.calls k a0_0 _ _ l0_1 _ _ y102 t105 _ ?side1 ?side2 ?side3 ?side4 A4.out).mono ?_); (case side1 => exact (Q7 HR0_1 HB)); (case side2 => exact HC0_1.out); (case side3 => exact (Q15 HO104)); (case side4 => exact (Kd.R_reads' HO104.out).2.1); rintro e w11 ⟨rfl, hb⟩; replace HO104 := am (Kd.R_below (Q2 HO104) hb); replace BK101 := bb BK101 hb; replace HB := bs HB hb; (try clear hb); (try clear hb2); (try clear hk); (try clear hi))))
 (try simp only [Act.put, List.setIfInBounds_toArray, List.set_cons_zero, List.set_cons_succ])
 have H := HU5.out
 clear HU5
 by_cases c12 : t105 = true
 ·subst c12
  have H1 : ((impl_netOf.f k a0_0 l0_1).bind fun t106 => ((impl_net_distances.f k t106).bind fun t109 => (if 0 ≤ a1 then (if a1 < (t109.length : Int) then (if 0 ≤ a2 then (if a2 < ((rd_L6 t109 a1).length : Int) then (if (rd (rd_L6 t109 a1) a2) < 0 then (some (([] : List Int), false)) else (impl_FirstWay.l0 k a1 a2 t109 (([a1] : List Int)))) else (none)) else (none)) else (none)) else (none)))) = some (r1, r2) := by rw [if_pos rfl] at H; exact H
  clear H; have H := H1; clear H1; replace H := (ob H); obtain ⟨t106, A130, H⟩ := H; (try dsimp only at H); have A13 := Aside0.mk A130; clear A130; replace H := (ob H); obtain ⟨t109, A140, H⟩ := H; (try dsimp only at H); have A14 := Aside0.mk A140; clear A140
  obtain ⟨c15, H⟩ := ifn H
  have c15b0 := decide_eq_true c15; clear c15
  (first | rw [c15b0] | (simp only [i64_w, i32_w]; rw [c15b0]) | skip)
  obtain ⟨c16, H⟩ := ifn H
  have c16b0 := decide_eq_true c16; clear c16
  obtain ⟨c17, H⟩ := ifn H
  have c17b0 := decide_eq_true c17; clear c17
  obtain ⟨c18, H⟩ := ifn H
  have c18b0 := decide_eq_true c18; clear c18; have HU19 := Aside0.mk H; clear H; obtain ⟨hcz20_0, hfz20_0, hcz20_1, hfz20_1⟩ := b2 BK101
  go_upto_if 28 with (first | (go_at_call 101; (with_reducible refine (impl_netOf.calls k a0_0 _ _ l0_1 t106 _ ?side1 ?side2 A13.out).mono ?_); (case side1 => exact (Q7 HR0_1 HB)); (case side2 => exact HC0_1.out); rintro e w21 ⟨v107, rfl, ho0, hb⟩; have HO108 := am (Kd.R_lower (Kd.R_new' ho0 (Kd.R_lt (Q2 HO104))) (below_size (Q0 HB))); replace HO104 := am (Kd.R_elder' (Q2 HO104) (Kd.R_base ho0) hb); replace BK101 := bb BK101 hb; replace HB := bs HB hb; (try clear hb); (try clear hb2); (try clear hk); (try clear hi); (try clear ho0); obtain ⟨Ao22, co22, eo22⟩ := Kd.R_slice HO108.out; subst eo22) | (go_at_call 138; (with_reducible refine (impl_net_distances.calls k _ _ t106 t109 _ ?side1 ?side2 A14.out).mono ?_); (case side1 => exact (Q15 HO108)); (case side2 => exact (Kd.R_reads' HO108.out).2.1); rintro e w23 ⟨v110, rfl, ho0, hb⟩; have HO111 := am (Kd.S_lower (Kd.S_new' (Kd.S_new' ho0 (Kd.R_lt (Q2 HO104))) (Kd.R_lt (Q2 HO108))) (below_size (Q0 HB))); replace HO104 := am (Kd.R_below (Q2 HO104) hb); replace HO108 := am (Kd.R_below (Q2 HO108) hb); replace BK101 := bb BK101 hb; replace HB := bs HB hb; (try clear hb); (try clear hb2); (try clear hk); (try clear hi); (try clear ho0); obtain ⟨Ao24, co24, eo24⟩ := Kd.S_slice HO111.out; subst eo24; have p112 : 0 ≤ (a1 : Int) := D4; have q112 : a1 < (t109.length : Int) := D4; obtain ⟨ad112, A112_0, c112_0, e112, hx112_0, hl112_0, hi112_0⟩ := at_L6 (Kd.S_reads' HO111.out).2.2 a1 p112 q112; cases e112; obtain ⟨ce112, hce112, hMe112, hcc112⟩ := Kd.S_get HO111.out [] a1 p112 (Q120 HO111); obtain ⟨ve112_0, rfl, ge112_0⟩ := hMe112; have hv112_0 := hcc112 0 _ rfl; rw [Nat.add_zero, show ((Kd.slice 3 (Kd.int .i64))).sz = 1 from rfl, Nat.mul_one] at hv112_0; replace hv112_0 := Option.some.inj (hv112_0.symm.trans hx112_0); rw [hv112_0] at ge112_0; have HL112_0 := am (show Kd.R (Kd.int .i64) 3 _ _ _ _ (rd_L6 t109 a1) from ge112_0); clear hv112_0 ge112_0; clear hcc112 hce112; have HR112_0 := Aside0.mk hi112_0; have HC112_0 := Aside0.mk hl112_0; clear hi112_0 hl112_0; replace p112 := eq_true p112; replace q112 := eq_true q112; have p113 : 0 ≤ (a2 : Int) := D4; have q113 : a2 < ((rd_L6 t109 a1).length : Int) := D4; obtain ⟨ad113, e113, hx113_0⟩ := Kd.at_int (Q12 HR112_0) a2 p113 q113; cases e113; replace p113 := eq_true p113; replace q113 := eq_true q113))
  repeat (go_quiet (first | (go_at_call 101; (with_reducible refine (impl_netOf.calls k a0_0 _ _ l0_1 t106 _ ?side1 ?side2 A13.out).mono ?_); (case side1 => exact (Q7 HR0_1 HB)); (case side2 => exact HC0_1.out); rintro e w21 ⟨v107, rfl, ho0, hb⟩; have n0_ := am (Kd.R_elder' (Q2 HO104) (Kd.R_base ho0) hb); have n1_ := am (Kd.R_lower (Kd.R_new' ho0 (Kd.R_lt (Q2 HO104))) (below_size (Q0 HB))); have n2_ := am (blk_below (g := gb101) (o := .cells #[.int .i64 a0_0, .slice A0_1 l0_1.length c0_1] 30 (0, 0)) (Q1 BK101) hb); have n3_ := am (below_step (Q0 HB) hb); replace HO104 := n0_; have HO108 := n1_; replace BK101 := n2_; replace HB := n3_; clear n0_ n1_ n2_ n3_; (try clear hb); (try clear hb2); (try clear hk); (try clear hi); (try clear ho0); obtain ⟨Ao22, co22, eo22⟩ := Kd.R_slice HO108.out; subst eo22) | (go_at_call 138; (with_reducible refine (impl_net_distances.calls k _ _ t106 t109 _ ?side1 ?side2 A14.out).mono ?_); (case side1 => exact (Q15 HO108)); (case side2 => exact (Kd.R_reads' HO108.out).2.1); rintro e w23 ⟨v110, rfl, ho0, hb⟩; have n0_ := am (Kd.R_below (Q2 HO104) hb); have n1_ := am (Kd.R_below (Q2 HO108) hb); have n2_ := am (Kd.S_lower (Kd.S_new' (Kd.S_new' ho0 (Kd.R_lt (Q2 HO104))) (Kd.R_lt (Q2 HO108))) (below_size (Q0 HB))); have n3_ := am (blk_below (g := gb101) (o := .cells #[.int .i64 a0_0, .slice A0_1 l0_1.length c0_1] 30 (0, 0)) (Q1 BK101) hb); have n4_ := am (below_step (Q0 HB) hb); replace HO104 := n0_; replace HO108 := n1_; have HO111 := n2_; replace BK101 := n3_; replace HB := n4_; clear n0_ n1_ n2_ n3_ n4_; (try clear hb); (try clear hb2); (try clear hk); (try clear hi); (try clear ho0); obtain ⟨Ao24, co24, eo24⟩ := Kd.S_slice HO111.out; subst eo24; have p112 : 0 ≤ (a1 : Int) := D4; have q112 : a1 < (t109.length : Int) := D4; obtain ⟨ad112, A112_0, c112_0, e112, hx112_0, hl112_0, hi112_0⟩ := at_L6 (Kd.S_reads' HO111.out).2.2 a1 p112 q112; cases e112; obtain ⟨ce112, hce112, hMe112, hcc112⟩ := Kd.S_get HO111.out [] a1 p112 (Q120 HO111); obtain ⟨ve112_0, rfl, ge112_0⟩ := hMe112; have hv112_0 := hcc112 0 _ rfl; rw [Nat.add_zero, show ((Kd.slice 3 (Kd.int .i64))).sz = 1 from rfl, Nat.mul_one] at hv112_0; replace hv112_0 := Option.some.inj (hv112_0.symm.trans hx112_0); rw [hv112_0] at ge112_0; have HL112_0 := am (show Kd.R (Kd.int .i64) 3 _ _ _ _ (rd_L6 t109 a1) from ge112_0); clear hv112_0 ge112_0; clear hcc112 hce112; have HR112_0 := Aside0.mk hi112_0; have HC112_0 := Aside0.mk hl112_0; clear hi112_0 hl112_0; replace p112 := eq_true p112; replace q112 := eq_true q112; have p113 : 0 ≤ (a2 : Int) := D4; have q113 : a2 < ((rd_L6 t109 a1).length : Int) := D4; obtain ⟨ad113, e113, hx113_0⟩ := Kd.at_int (Q12 HR112_0) a2 p113 q113; cases e113; replace p113 := eq_true p113; replace q113 := eq_true q113)); go_upto_if 28 with (first | (go_at_call 101; (with_reducible refine (impl_netOf.calls k a0_0 _ _ l0_1 t106 _ ?side1 ?side2 A13.out).mono ?_); (case side1 => exact (Q7 HR0_1 HB)); (case side2 => exact HC0_1.out); rintro e w21 ⟨v107, rfl, ho0, hb⟩; have HO108 := am (Kd.R_lower (Kd.R_new' ho0 (Kd.R_lt (Q2 HO104))) (below_size (Q0 HB))); replace HO104 := am (Kd.R_elder' (Q2 HO104) (Kd.R_base ho0) hb); replace BK101 := bb BK101 hb; replace HB := bs HB hb; (try clear hb); (try clear hb2); (try clear hk); (try clear hi); (try clear ho0); obtain ⟨Ao22, co22, eo22⟩ := Kd.R_slice HO108.out; subst eo22) | (go_at_call 138; (with_reducible refine (impl_net_distances.calls k _ _ t106 t109 _ ?side1 ?side2 A14.out).mono ?_); (case side1 => exact (Q15 HO108)); (case side2 => exact (Kd.R_reads' HO108.out).2.1); rintro e w23 ⟨v110, rfl, ho0, hb⟩; have HO111 := am (Kd.S_lower (Kd.S_new' (Kd.S_new' ho0 (Kd.R_lt (Q2 HO104))) (Kd.R_lt (Q2 HO108))) (below_size (Q0 HB))); replace HO104 := am (Kd.R_below (Q2 HO104) hb); replace HO108 := am (Kd.R_below (Q2 HO108) hb); replace BK101 := bb BK101 hb; replace HB := bs HB hb; (try clear hb); (try clear hb2); (try clear hk); (try clear hi); (try clear ho0); obtain ⟨Ao24, co24, eo24⟩ := Kd.S_slice HO111.out; subst eo24; have p112 : 0 ≤ (a1 : Int) := D4; have q112 : a1 < (t109.length : Int) := D4; obtain ⟨ad112, A112_0, c112_0, e112, hx112_0, hl112_0, hi112_0⟩ := at_L6 (Kd.S_reads' HO111.out).2.2 a1 p112 q112; cases e112; obtain ⟨ce112, hce112, hMe112, hcc112⟩ := Kd.S_get HO111.out [] a1 p112 (Q120 HO111); obtain ⟨ve112_0, rfl, ge112_0⟩ := hMe112; have hv112_0 := hcc112 0 _ rfl; rw [Nat.add_zero, show ((Kd.slice 3 (Kd.int .i64))).sz = 1 from rfl, Nat.mul_one] at hv112_0; replace hv112_0 := Option.some.inj (hv112_0.symm.trans hx112_0); rw [hv112_0] at ge112_0; have HL112_0 := am (show Kd.R (Kd.int .i64) 3 _ _ _ _ (rd_L6 t109 a1) from ge112_0); clear hv112_0 ge112_0; clear hcc112 hce112; have HR112_0 := Aside0.mk hi112_0; have HC112_0 := Aside0.mk hl112_0; clear hi112_0 hl112_0; replace p112 := eq_true p112; replace q112 := eq_true q112; have p113 : 0 ≤ (a2 : Int) := D4; have q113 : a2 < ((rd_L6 t109 a1).length : Int) := D4; obtain ⟨ad113, e113, hx113_0⟩ := Kd.at_int (Q12 HR112_0) a2 p113 q113; cases e113; replace p113 := eq_true p113; replace q113 := eq_true q113)))
  (try simp only [Act.put, List.setIfInBounds_toArray, List.set_cons_zero, List.set_cons_succ]); have H := HU19.out; clear HU19
  by_cases c25 : (rd (rd_L6 t109 a1) a2) < 0
  ·rw [if_pos c25] at H
   have c25b0 := decide_eq_true c25; clear c25
   (first | rw [c25b0] | (simp only [i64_w, i32_w]; rw [c25b0]) | skip)
   simp only [Option.some.injEq, Prod.mk.injEq] at H
   obtain ⟨rfl, rfl⟩ := H
   go_wp2
   repeat (go_quiet (fail); try go_wp2)
   go_ret2
   exact ⟨_, Q10, Q50, Q0 HB⟩
  ·rw [if_neg c25] at H
   have c25b0 := decide_eq_false c25; clear c25
   (first | rw [c25b0] | (simp only [i64_w, i32_w]; rw [c25b0]) | skip)
   obtain ⟨y114, hy114⟩ : ∃ y_ : List Int, y_ = (([a1] : List Int)) := ⟨_, rfl⟩; replace H : (impl_FirstWay.l0 k a1 a2 t109 y114) = some (r1, r2) := RH hy114 H; have Ny114 := Aside0.mk hy114; clear hy114; have H' := Aside0.mk H; clear H
   go_wp2_with (first | ((with_reducible refine gate_dst (N := 30) rfl ?_); refine Kd.R_lit (Kd.int .i64) _ 3 (by rfl) (N := 30) (by rfl) (xs := ([a1] : List Int)) (inner := [.int .i64 a1]) (ok := fun _ => True) (okp := fun _ => True) Qr ?hp (fun _ hk => hk) trivial (Below.refl _ _) (Nat.le_refl _) (by simp) ?_; (case hp => exact (Reps.one (show Kd.M (Kd.int .i64) _ _ _ a1 [.int .i64 a1] from rfl) (Reps.none _ _))); intro v115 w26 ho27 hb hg_ hnew_; clear hg_ hnew_; (first | rw [← Ny114.out] at ho27 | (simp only [Int.reduceToNat] at ho27; rw [← Ny114.out] at ho27)); replace HO111 := am (Kd.S_elder' (Q32 HO111) (Kd.R_base ho27) hb); have HO116 := am (Kd.R_lower (Kd.R_new' (Kd.R_new' (Kd.R_new' ho27 (Kd.R_lt (Q2 HO104))) (Kd.R_lt (Q2 HO108))) (Kd.R_lt Q65)) (below_size (Q0 HB))); replace HO104 := am (Kd.R_elder' (Q2 HO104) (Kd.R_base ho27) hb); replace HO108 := am (Kd.R_elder' (Q2 HO108) (Kd.R_base ho27) hb); replace HL112_0 := am (Kd.R_elder' Q65 (Kd.R_base ho27) hb); replace BK101 := bb BK101 hb; replace HR112_0 := am (Kd.C_below (Q12 HR112_0) hb); replace HB := bs HB hb; clear hb ho27))
   repeat (go_quiet (first | ((with_reducible refine gate_dst (N := 30) rfl ?_); refine Kd.R_lit (Kd.int .i64) _ 3 (by rfl) (N := 30) (by rfl) (xs := ([a1] : List Int)) (inner := [.int .i64 a1]) (ok := fun _ => True) (okp := fun _ => True) Qr ?hp (fun _ hk => hk) trivial (Below.refl _ _) (Nat.le_refl _) (by simp) ?_; (case hp => exact (Reps.one (show Kd.M (Kd.int .i64) _ _ _ a1 [.int .i64 a1] from rfl) (Reps.none _ _))); intro v115 w26 ho27 hb hg_ hnew_; clear hg_ hnew_; (first | rw [← Ny114.out] at ho27 | (simp only [Int.reduceToNat] at ho27; rw [← Ny114.out] at ho27)); have n0_ := am (Kd.R_elder' (Q2 HO104) (Kd.R_base ho27) hb); have n1_ := am (Kd.R_elder' (Q2 HO108) (Kd.R_base ho27) hb); have n2_ := am (Kd.S_elder' (Q32 HO111) (Kd.R_base ho27) hb); have n3_ := am (Kd.R_elder' Q65 (Kd.R_base ho27) hb); have n4_ := am (Kd.R_lower (Kd.R_new' (Kd.R_new' (Kd.R_new' ho27 (Kd.R_lt (Q2 HO104))) (Kd.R_lt (Q2 HO108))) (Kd.R_lt Q65)) (below_size (Q0 HB))); have n5_ := am (blk_below (g := gb101) (o := .cells #[.int .i64 a0_0, .slice A0_1 l0_1.length c0_1] 30 (0, 0)) (Q1 BK101) hb); have n6_ := am (Kd.C_below (Q12 HR112_0) hb); have n7_ := am (below_step (Q0 HB) hb); replace HO104 := n0_; replace HO108 := n1_; replace HO111 := n2_; replace HL112_0 := n3_; have HO116 := n4_; replace BK101 := n5_; replace HR112_0 := n6_; replace HB := n7_; clear n0_ n1_ n2_ n3_ n4_ n5_ n6_ n7_; clear hb ho27)); try go_wp2_with (first | ((with_reducible refine gate_dst (N := 30) rfl ?_); refine Kd.R_lit (Kd.int .i64) _ 3 (by rfl) (N := 30) (by rfl) (xs := ([a1] : List Int)) (inner := [.int .i64 a1]) (ok := fun _ => True) (okp := fun _ => True) Qr ?hp (fun _ hk => hk) trivial (Below.refl _ _) (Nat.le_refl _) (by simp) ?_; (case hp => exact (Reps.one (show Kd.M (Kd.int .i64) _ _ _ a1 [.int .i64 a1] from rfl) (Reps.none _ _))); intro v115 w26 ho27 hb hg_ hnew_; clear hg_ hnew_; (first | rw [← Ny114.out] at ho27 | (simp only [Int.reduceToNat] at ho27; rw [← Ny114.out] at ho27)); replace HO111 := am (Kd.S_elder' (Q32 HO111) (Kd.R_base ho27) hb); have HO116 := am (Kd.R_lower (Kd.R_new' (Kd.R_new' (Kd.R_new' ho27 (Kd.R_lt (Q2 HO104))) (Kd.R_lt (Q2 HO108))) (Kd.R_lt Q65)) (below_size (Q0 HB))); replace HO104 := am (Kd.R_elder' (Q2 HO104) (Kd.R_base ho27) hb); replace HO108 := am (Kd.R_elder' (Q2 HO108) (Kd.R_base ho27) hb); replace HL112_0 := am (Kd.R_elder' Q65 (Kd.R_base ho27) hb); replace BK101 := bb BK101 hb; replace HR112_0 := am (Kd.C_below (Q12 HR112_0) hb); replace HB := bs HB hb; clear hb ho27)))
   go_loopg [1, 9] k (fun kq v1 v9 w' => ∃ (x1_1 : Int) (x9_1 : List Int), v1 = .int .i64 x1_1 ∧ Aside0 (impl_FirstWay.l0 kq x1_1 a2 t109 x9_1 = some (r1, r2)) ∧ Aside0 (kq ≤ k) ∧ Aside0 (Kd.S (Kd.slice 3 (Kd.int .i64)) 25 w' w.heap.size (fun k_ => some k_ ≠ (v9 : Value).ownBlock) (.slice (some ad112) t109.length co24) t109) ∧ Aside0 (Kd.R (Kd.int .i64) 3 w' w.heap.size (fun _ => True) v9 x9_1) ∧ Aside0 (w'.heap[gb101]? = some (.cells #[.int .i64 a0_0, (.slice A0_1 l0_1.length c0_1)] 30 (0, 0))) ∧ Aside0 (Below w.heap.size w w'))
   case atStart => exact ⟨(a1), (y114), Q9, H', ⟨Nat.le_refl _⟩, ⟨Q100 HO111⟩, ⟨Q35 HO116⟩, ⟨Q1 BK101⟩, ⟨Q0 HB⟩⟩
   case round =>
    clear H'
    obtain ⟨x1_1, x9_1, rfl, HA, HK1, HO_8, HO_9, BK101, HB⟩ := hrel
    cases gk with
    | zero => exact absurd HA.out (by simp [impl_FirstWay.l0])
    | succ k1 =>
     have H := HA.out; clear HA
     simp only [impl_FirstWay.l0] at H
     by_cases c28 : x1_1 = a2
     ·rw [if_pos c28] at H
      have c28b0 := beq_iff_eq.mpr c28; have c28b1 := bne_eq_false_iff_eq.mpr c28; clear c28
      simp only [Option.some.injEq, Prod.mk.injEq] at H
      obtain ⟨rfl, rfl⟩ := H
      go_wp2
      repeat (go_quiet (fail); try go_wp2)
      go_ret2
      exact ⟨_, Q10, Q34, Q0 HB⟩
     ·rw [if_neg c28] at H
      have c28b0 := beq_eq_false_iff_ne.mpr c28; have c28b1 := bne_iff_ne.mpr c28
      obtain ⟨c29, H⟩ := ifn H
      have c29b0 := decide_eq_true c29; clear c29
      obtain ⟨c30, H⟩ := ifn H
      have c30b0 := decide_eq_true c30; clear c30; have H' := Aside0.mk H; clear H; have p117 : 0 ≤ (x1_1 : Int) := D4; have q117 : x1_1 < (t109.length : Int) := D4; obtain ⟨ad117, A117_0, c117_0, e117, hx117_0, hl117_0, hi117_0⟩ := at_L6 (Kd.S_reads' HO_8.out).2.2 x1_1 p117 q117; obtain rfl : ad112 = ad117 := (by injection e117); obtain ⟨ce117, hce117, hMe117, hcc117⟩ := Kd.S_get HO_8.out [] x1_1 p117 (by first | exact q117 | exact D4 | (have e_ := (Kd.S_reads' HO_8.out).1; omega)); obtain ⟨ve117_0, rfl, ge117_0⟩ := hMe117; have hv117_0 := hcc117 0 _ rfl; rw [Nat.add_zero, show ((Kd.slice 3 (Kd.int .i64))).sz = 1 from rfl, Nat.mul_one] at hv117_0; replace hv117_0 := Option.some.inj (hv117_0.symm.trans hx117_0); rw [hv117_0] at ge117_0; have HL117_0 := am (show Kd.R (Kd.int .i64) 3 _ _ _ _ (rd_L6 t109 x1_1) from ge117_0); clear hv117_0 ge117_0; clear hcc117 hce117; have HR117_0 := Aside0.mk hi117_0; have HC117_0 := Aside0.mk hl117_0; clear hi117_0 hl117_0; replace p117 := eq_true p117; replace q117 := eq_true q117
      go_wp2
      repeat (go_quiet (fail); try go_wp2)
      go_loopg [1, 39] k1 (fun kq v1 v39 w' => ∃ (x1_2 : Int) (x39_2 : Int), v1 = .int .i64 x1_2 ∧ v39 = .int .i64 x39_2 ∧ Aside0 (impl_FirstWay.l1 kq x1_2 a2 t109 x9_1 (rd_L6 t109 x1_1) ((rd_L6 t109 x1_1).length : Int) x39_2 = some (r1, r2)) ∧ Aside0 (kq ≤ k1) ∧ Aside0 (Kd.S (Kd.slice 3 (Kd.int .i64)) 25 w' w.heap.size (fun k_ => some k_ ≠ (u9 : Value).ownBlock) (.slice (some ad112) t109.length co24) t109) ∧ Aside0 (Kd.R (Kd.int .i64) 3 w' w.heap.size (fun _ => True) u9 x9_1) ∧ Aside0 (w'.heap[gb101]? = some (.cells #[.int .i64 a0_0, (.slice A0_1 l0_1.length c0_1)] 30 (0, 0))) ∧ Aside0 (Kd.C (Kd.int .i64) w' A117_0 (rd_L6 t109 x1_1).length (rd_L6 t109 x1_1)) ∧ Aside0 (Below w.heap.size w w'))
      case atStart => exact ⟨(x1_1), (0), Q9, Q9, H', ⟨Nat.le_refl _⟩, ⟨Q51⟩, ⟨Q34⟩, ⟨Q1 BK101⟩, ⟨Q12 HR117_0⟩, ⟨Q0 HB⟩⟩
      case round =>
       clear H'
       obtain ⟨x1_2, x39_2, rfl, rfl, HA, HK2, HO_8, HO_9, BK101, HR117_0, HB⟩ := hrel
       cases gk with
       | zero => exact absurd HA.out (by simp [impl_FirstWay.l1])
       | succ k2 =>
        have H := HA.out; clear HA
        simp only [impl_FirstWay.l1] at H
        by_cases c31 : x39_2 < ((rd_L6 t109 x1_1).length : Int)
        ·rw [if_pos c31] at H
         have c31b0 := decide_eq_true c31; clear c31
         obtain ⟨c32, H⟩ := ifn H
         have c32b0 := decide_eq_true c32; clear c32
         obtain ⟨c33, H⟩ := ifn H
         have c33b0 := decide_eq_true c33; clear c33; have HU34 := Aside0.mk H; clear H; have p118 : 0 ≤ (x39_2 : Int) := D4; have q118 : x39_2 < ((rd_L6 t109 x1_1).length : Int) := D4; obtain ⟨ad118, e118, hx118_0⟩ := Kd.at_int HR117_0.out x39_2 p118 q118
         cases e118
         replace p118 := eq_true p118; replace q118 := eq_true q118
         go_upto_region 11 with (fail)
         repeat (go_quiet (fail); go_upto_region 11 with (fail))
         have H := HU34.out; clear HU34
         by_cases c35 : (rd (rd_L6 t109 x1_1) x39_2) = 1
         ·rw [if_pos c35] at H
          have c35b0 := beq_iff_eq.mpr c35; have c35b1 := bne_eq_false_iff_eq.mpr c35; clear c35
          obtain ⟨c36, H⟩ := ifn H
          have c36b0 := decide_eq_true c36; clear c36
          obtain ⟨c37, H⟩ := ifn H
          have c37b0 := decide_eq_true c37; clear c37
          obtain ⟨c38, H⟩ := ifn H
          have c38b0 := decide_eq_true c38; clear c38
          obtain ⟨c39, H⟩ := ifn H
          have c39b0 := decide_eq_true c39; clear c39
          obtain ⟨c40, H⟩ := ifn H
          have c40b0 := decide_eq_true c40; clear c40
          obtain ⟨c41, H⟩ := ifn H
          have c41b0 := decide_eq_true c41; clear c41; have HU42 := Aside0.mk H; clear H; have p119 : 0 ≤ (x39_2 : Int) := D4; have q119 : x39_2 < (t109.length : Int) := D4; obtain ⟨ad119, A119_0, c119_0, e119, hx119_0, hl119_0, hi119_0⟩ := at_L6 (Kd.S_reads' HO_8.out).2.2 x39_2 p119 q119; obtain rfl : ad112 = ad119 := (by injection e119); obtain ⟨ce119, hce119, hMe119, hcc119⟩ := Kd.S_get HO_8.out [] x39_2 p119 (by first | exact q119 | exact D4 | (have e_ := (Kd.S_reads' HO_8.out).1; omega)); obtain ⟨ve119_0, rfl, ge119_0⟩ := hMe119; have hv119_0 := hcc119 0 _ rfl; rw [Nat.add_zero, show ((Kd.slice 3 (Kd.int .i64))).sz = 1 from rfl, Nat.mul_one] at hv119_0; replace hv119_0 := Option.some.inj (hv119_0.symm.trans hx119_0); rw [hv119_0] at ge119_0; have HL119_0 := am (show Kd.R (Kd.int .i64) 3 _ _ _ _ (rd_L6 t109 x39_2) from ge119_0); clear hv119_0 ge119_0; clear hcc119 hce119; have HR119_0 := Aside0.mk hi119_0; have HC119_0 := Aside0.mk hl119_0; clear hi119_0 hl119_0; replace p119 := eq_true p119; replace q119 := eq_true q119; have p120 : 0 ≤ (a2 : Int) := D4; have q120 : a2 < ((rd_L6 t109 x39_2).length : Int) := D4; obtain ⟨ad120, e120, hx120_0⟩ := Kd.at_int (Q12 HR119_0) a2 p120 q120
          cases e120
          replace p120 := eq_true p120; replace q120 := eq_true q120; have p121 : 0 ≤ (x1_2 : Int) := D4; have q121 : x1_2 < (t109.length : Int) := D4; obtain ⟨ad121, A121_0, c121_0, e121, hx121_0, hl121_0, hi121_0⟩ := at_L6 (Kd.S_reads' HO_8.out).2.2 x1_2 p121 q121; obtain rfl : ad112 = ad121 := (by injection e121); obtain ⟨ce121, hce121, hMe121, hcc121⟩ := Kd.S_get HO_8.out [] x1_2 p121 (by first | exact q121 | exact D4 | (have e_ := (Kd.S_reads' HO_8.out).1; omega)); obtain ⟨ve121_0, rfl, ge121_0⟩ := hMe121; have hv121_0 := hcc121 0 _ rfl; rw [Nat.add_zero, show ((Kd.slice 3 (Kd.int .i64))).sz = 1 from rfl, Nat.mul_one] at hv121_0; replace hv121_0 := Option.some.inj (hv121_0.symm.trans hx121_0); rw [hv121_0] at ge121_0; have HL121_0 := am (show Kd.R (Kd.int .i64) 3 _ _ _ _ (rd_L6 t109 x1_2) from ge121_0); clear hv121_0 ge121_0; clear hcc121 hce121; have HR121_0 := Aside0.mk hi121_0; have HC121_0 := Aside0.mk hl121_0; clear hi121_0 hl121_0; replace p121 := eq_true p121; replace q121 := eq_true q121; have p122 : 0 ≤ (a2 : Int) := D4; have q122 : a2 < ((rd_L6 t109 x1_2).length : Int) := D4; obtain ⟨ad122, e122, hx122_0⟩ := Kd.at_int (Q12 HR121_0) a2 p122 q122
          cases e122
          replace p122 := eq_true p122; replace q122 := eq_true q122
          go_upto_if 63 with (fail)
          repeat (go_quiet (fail); go_upto_if 63 with (fail))
          have H := HU42.out; clear HU42
          by_cases c43 : (rd (rd_L6 t109 x39_2) a2) = (wrap64 ((rd (rd_L6 t109 x1_2) a2) - 1))
          ·rw [if_pos c43] at H
           have c43b0 := beq_iff_eq.mpr c43; have c43b1 := bne_eq_false_iff_eq.mpr c43; clear c43
           (first | rw [c43b0] | (simp only [i64_w, i32_w]; rw [c43b0]) | rw [c43b1] | skip)
           obtain ⟨c44, H⟩ := ifn H
           have LMc44 := Aside0.mk c44; clear c44; obtain ⟨y123, hy123⟩ : ∃ y_ : List Int, y_ = (x9_1 ++ [x39_2]) := ⟨_, rfl⟩; replace H : (impl_FirstWay.l0 k2 x39_2 a2 t109 y123) = some (r1, r2) := RH hy123 H; have Ny123 := Aside0.mk hy123; clear hy123; have H' := Aside0.mk H; clear H
           go_wp2_with (first | ((with_reducible refine gate_builtin (b := .append) (xs := #[.tmp 66, .tmp 68]) rfl ?_); at_builtin; refine Kd.R_append (Kd.int .i64) (w0 := w) w.heap.size rfl (.tmp 66) (.tmp 68) 25 3 (.int .i64 0) 8 rfl Try.underlying25 info3 rfl (by decide) (by omega) u9 x9_1 x39_2 [.int .i64 x39_2] (fun _ => True) (fun _ => False) rfl rfl ?aP (fun _ hk => hk.elim) ?aF ?aO ?aB ?aS ?aL ?_; (case aP => exact rfl); (case aB => exact (Q0 HB)); (case aF => exact (fun _ _ => trivial)); (case aO => exact Q34); (case aS => exact (below_size (Q0 HB))); (case aL => have := LMc44.out; omega); intro v124 w45 ho hb hg hat; rw [← Ny123.out] at ho; replace HO_8 := am (Kd.S_after (ok := (fun _ => True)) Q48 hg hat); replace BK101 := am (blk_grown (g := gb101) (o := .cells #[.int .i64 a0_0, .slice A0_1 l0_1.length c0_1] 30 (0, 0)) (Q1 BK101) hg (Kd.R_ne HO_9.out BK101.out (by decide))); replace HL119_0 := am (Kd.R_after (ok := (fun k_ => some k_ ≠ (.slice (some ad112) t109.length co24 : Value).ownBlock)) Q85 hg hat); replace HL121_0 := am (Kd.R_after (ok := (fun k_ => some k_ ≠ (.slice (some ad112) t109.length co24 : Value).ownBlock)) Q86 hg hat); replace HB := am (hb); have HO125 := am (ho); clear HO_9; clear ho hb hg hat))
           repeat (go_quiet (first | ((with_reducible refine gate_builtin (b := .append) (xs := #[.tmp 66, .tmp 68]) rfl ?_); at_builtin; refine Kd.R_append (Kd.int .i64) (w0 := w) w.heap.size rfl (.tmp 66) (.tmp 68) 25 3 (.int .i64 0) 8 rfl Try.underlying25 info3 rfl (by decide) (by omega) u9 x9_1 x39_2 [.int .i64 x39_2] (fun _ => True) (fun _ => False) rfl rfl ?aP (fun _ hk => hk.elim) ?aF ?aO ?aB ?aS ?aL ?_; (case aP => exact rfl); (case aB => exact (Q0 HB)); (case aF => exact (fun _ _ => trivial)); (case aO => exact Q34); (case aS => exact (below_size (Q0 HB))); (case aL => have := LMc44.out; omega); intro v124 w45 ho hb hg hat; rw [← Ny123.out] at ho; have n0_ := am (Kd.S_after (ok := (fun _ => True)) Q48 hg hat); have n1_ := am (blk_grown (g := gb101) (o := .cells #[.int .i64 a0_0, .slice A0_1 l0_1.length c0_1] 30 (0, 0)) (Q1 BK101) hg (Kd.R_ne HO_9.out BK101.out (by decide))); have n2_ := am (Kd.R_after (ok := (fun k_ => some k_ ≠ (.slice (some ad112) t109.length co24 : Value).ownBlock)) Q85 hg hat); have n3_ := am (Kd.R_after (ok := (fun k_ => some k_ ≠ (.slice (some ad112) t109.length co24 : Value).ownBlock)) Q86 hg hat); have n4_ := am (hb); have n5_ := am (ho); clear HO_9; replace HO_8 := n0_; replace BK101 := n1_; replace HL119_0 := n2_; replace HL121_0 := n3_; replace HB := n4_; have HO125 := n5_; clear n0_ n1_ n2_ n3_ n4_ n5_; clear ho hb hg hat)); try go_wp2_with (first | ((with_reducible refine gate_builtin (b := .append) (xs := #[.tmp 66, .tmp 68]) rfl ?_); at_builtin; refine Kd.R_append (Kd.int .i64) (w0 := w) w.heap.size rfl (.tmp 66) (.tmp 68) 25 3 (.int .i64 0) 8 rfl Try.underlying25 info3 rfl (by decide) (by omega) u9 x9_1 x39_2 [.int .i64 x39_2] (fun _ => True) (fun _ => False) rfl rfl ?aP (fun _ hk => hk.elim) ?aF ?aO ?aB ?aS ?aL ?_; (case aP => exact rfl); (case aB => exact (Q0 HB)); (case aF => exact (fun _ _ => trivial)); (case aO => exact Q34); (case aS => exact (below_size (Q0 HB))); (case aL => have := LMc44.out; omega); intro v124 w45 ho hb hg hat; rw [← Ny123.out] at ho; replace HO_8 := am (Kd.S_after (ok := (fun _ => True)) Q48 hg hat); replace BK101 := am (blk_grown (g := gb101) (o := .cells #[.int .i64 a0_0, .slice A0_1 l0_1.length c0_1] 30 (0, 0)) (Q1 BK101) hg (Kd.R_ne HO_9.out BK101.out (by decide))); replace HL119_0 := am (Kd.R_after (ok := (fun k_ => some k_ ≠ (.slice (some ad112) t109.length co24 : Value).ownBlock)) Q85 hg hat); replace HL121_0 := am (Kd.R_after (ok := (fun k_ => some k_ ≠ (.slice (some ad112) t109.length co24 : Value).ownBlock)) Q86 hg hat); replace HB := am (hb); have HO125 := am (ho); clear HO_9; clear ho hb hg hat)))
           go_roundg k2
           case measure => have := HK1.out; have := HK2.out; omega
           case rel => exact ⟨(x39_2), (y123), Q9, H', ⟨Q68⟩, ⟨Q94⟩, ⟨Q2 HO125⟩, ⟨Q1 BK101⟩, ⟨Q0 HB⟩⟩
          ·rw [if_neg c43] at H
           have c43b0 := beq_eq_false_iff_ne.mpr c43; have c43b1 := bne_iff_ne.mpr c43
           (first | rw [c43b0] | (simp only [i64_w, i32_w]; rw [c43b0]) | rw [c43b1] | skip)
           have H' := Aside0.mk H; clear H
           go_wp2
           repeat (go_quiet (fail); try go_wp2)
           go_roundg k2
           case measure => have := HK1.out; have := HK2.out; omega
           case rel => exact ⟨(x1_2), (wrap64 (x39_2 + 1)), Q9, Q9, H', ⟨Q68⟩, ⟨Q51⟩, ⟨Q34⟩, ⟨Q1 BK101⟩, ⟨Q12 HR117_0⟩, ⟨Q0 HB⟩⟩
         ·rw [if_neg c35] at H
          have c35b0 := beq_eq_false_iff_ne.mpr c35; have c35b1 := bne_iff_ne.mpr c35; have H' := Aside0.mk H; clear H
          go_wp2
          repeat (go_quiet (fail); try go_wp2)
          go_roundg k2
          case measure => have := HK1.out; have := HK2.out; omega
          case rel => exact ⟨(x1_2), (wrap64 (x39_2 + 1)), Q9, Q9, H', ⟨Q68⟩, ⟨Q51⟩, ⟨Q34⟩, ⟨Q1 BK101⟩, ⟨Q12 HR117_0⟩, ⟨Q0 HB⟩⟩
        ·rw [if_neg c31] at H
         have c31b0 := decide_eq_false c31; clear c31
         obtain ⟨c46, H⟩ := ifn H
         have LMc46 := Aside0.mk c46; clear c46; obtain ⟨y126, hy126⟩ : ∃ y_ : List Int, y_ = (x9_1 ++ [x1_2]) := ⟨_, rfl⟩; replace H : (impl_FirstWay.l0 k2 x1_2 a2 t109 y126) = some (r1, r2) := RH hy126 H; have Ny126 := Aside0.mk hy126; clear hy126; have H' := Aside0.mk H; clear H
         go_wp2_with (first | ((with_reducible refine gate_builtin (b := .append) (xs := #[.tmp 66, .tmp 68]) rfl ?_); at_builtin; refine Kd.R_append (Kd.int .i64) (w0 := w) w.heap.size rfl (.tmp 66) (.tmp 68) 25 3 (.int .i64 0) 8 rfl Try.underlying25 info3 rfl (by decide) (by omega) u9 x9_1 x1_2 [.int .i64 x1_2] (fun _ => True) (fun _ => False) rfl rfl ?aP (fun _ hk => hk.elim) ?aF ?aO ?aB ?aS ?aL ?_; (case aP => exact rfl); (case aB => exact (Q0 HB)); (case aF => exact (fun _ _ => trivial)); (case aO => exact Q34); (case aS => exact (below_size (Q0 HB))); (case aL => have := LMc46.out; omega); intro v127 w47 ho hb hg hat; rw [← Ny126.out] at ho; replace HO_8 := am (Kd.S_after (ok := (fun _ => True)) Q48 hg hat); replace BK101 := am (blk_grown (g := gb101) (o := .cells #[.int .i64 a0_0, .slice A0_1 l0_1.length c0_1] 30 (0, 0)) (Q1 BK101) hg (Kd.R_ne HO_9.out BK101.out (by decide))); replace HB := am (hb); have HO128 := am (ho); clear HO_9; clear ho hb hg hat))
         repeat (go_quiet (first | ((with_reducible refine gate_builtin (b := .append) (xs := #[.tmp 66, .tmp 68]) rfl ?_); at_builtin; refine Kd.R_append (Kd.int .i64) (w0 := w) w.heap.size rfl (.tmp 66) (.tmp 68) 25 3 (.int .i64 0) 8 rfl Try.underlying25 info3 rfl (by decide) (by omega) u9 x9_1 x1_2 [.int .i64 x1_2] (fun _ => True) (fun _ => False) rfl rfl ?aP (fun _ hk => hk.elim) ?aF ?aO ?aB ?aS ?aL ?_; (case aP => exact rfl); (case aB => exact (Q0 HB)); (case aF => exact (fun _ _ => trivial)); (case aO => exact Q34); (case aS => exact (below_size (Q0 HB))); (case aL => have := LMc46.out; omega); intro v127 w47 ho hb hg hat; rw [← Ny126.out] at ho; have n0_ := am (Kd.S_after (ok := (fun _ => True)) Q48 hg hat); have n1_ := am (blk_grown (g := gb101) (o := .cells #[.int .i64 a0_0, .slice A0_1 l0_1.length c0_1] 30 (0, 0)) (Q1 BK101) hg (Kd.R_ne HO_9.out BK101.out (by decide))); have n2_ := am (hb); have n3_ := am (ho); clear HO_9; replace HO_8 := n0_; replace BK101 := n1_; replace HB := n2_; have HO128 := n3_; clear n0_ n1_ n2_ n3_; clear ho hb hg hat)); try go_wp2_with (first | ((with_reducible refine gate_builtin (b := .append) (xs := #[.tmp 66, .tmp 68]) rfl ?_); at_builtin; refine Kd.R_append (Kd.int .i64) (w0 := w) w.heap.size rfl (.tmp 66) (.tmp 68) 25 3 (.int .i64 0) 8 rfl Try.underlying25 info3 rfl (by decide) (by omega) u9 x9_1 x1_2 [.int .i64 x1_2] (fun _ => True) (fun _ => False) rfl rfl ?aP (fun _ hk => hk.elim) ?aF ?aO ?aB ?aS ?aL ?_; (case aP => exact rfl); (case aB => exact (Q0 HB)); (case aF => exact (fun _ _ => trivial)); (case aO => exact Q34); (case aS => exact (below_size (Q0 HB))); (case aL => have := LMc46.out; omega); intro v127 w47 ho hb hg hat; rw [← Ny126.out] at ho; replace HO_8 := am (Kd.S_after (ok := (fun _ => True)) Q48 hg hat); replace BK101 := am (blk_grown (g := gb101) (o := .cells #[.int .i64 a0_0, .slice A0_1 l0_1.length c0_1] 30 (0, 0)) (Q1 BK101) hg (Kd.R_ne HO_9.out BK101.out (by decide))); replace HB := am (hb); have HO128 := am (ho); clear HO_9; clear ho hb hg hat)))
         go_roundg k2
         case measure => have := HK1.out; have := HK2.out; omega
         case rel => exact ⟨(x1_2), (y126), Q9, H', ⟨Q68⟩, ⟨Q94⟩, ⟨Q2 HO128⟩, ⟨Q1 BK101⟩, ⟨Q0 HB⟩⟩
 ·replace c12 := Bool.eq_false_iff.mpr c12
  subst c12; have H1 : (some (([] : List Int), false)) = some (r1, r2) := by rw [if_neg (show ¬ (false = true) by decide)] at H; exact H
  clear H; have H := H1; clear H1
  simp only [Option.some.injEq, Prod.mk.injEq] at H
  obtain ⟨rfl, rfl⟩ := H
  go_wp2
  repeat (go_quiet (fail); try go_wp2)
  go_ret2
  exact ⟨_, Q10, Q50, Q0 HB⟩
end Go.Proofs.Ytcjddikalgnhpaa.P
