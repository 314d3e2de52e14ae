/- Functions of the program as Lean functions, and that each call comes to what they say; written by a program of this session; no conditions beyond those that each theorem names. -/
import Derived.Test.YtmbgpbanbffchaaPx0
import Derived.Test.YtmbgpbanbffchaaPxBitsM
namespace Go.Proofs.Ytmbgpbanbffchaa.P
open Go.RowKit Go.Proofs.YtmbgpbanbffchaaW.PrintWords Go.Proofs.YtmbgpbanbffchaaW.PrintLast Go.Proofs.YtmbgpbanbffchaaW.PrintMore
attribute [local go_sem] max2_int min2_int max_two min_two max_three min_three max_four min_four   -- for this text's walks alone
set_option linter.unusedVariables false
set_option linter.unusedSimpArgs false

/-! ### slices_IndexFunc_int_int: function 166 -/
/-- The first place at which p holds, or -1. -/
def idxF (p : Int → Bool) (xs : List Int) : Int := if xs.findIdx p < xs.length then (xs.findIdx p : Int) else -1
def slices_IndexFunc_int_int.f (p : Int → Bool) (xs : List Int) : Option Int := some (idxF p xs)
theorem idxF_at (p : Int → Bool) (xs : List Int) (i : Nat) (hi : i < xs.length) (h0 : ∀ j, j < i → p (rd xs j) = false) (h1 : p (rd xs i) = true) : idxF p xs = i := by
 have e : xs.findIdx p = i := by
  have g : ∀ j (h : j < xs.length), rd xs j = xs[j] := fun j h => by unfold rd; rw [List.getD_eq_getElem?_getD, Int.toNat_natCast, List.getElem?_eq_getElem h]; rfl
  refine (List.findIdx_eq hi).2 ⟨by rw [← g i hi]; exact h1, fun j hj => ?_⟩
  rw [← g j (by omega), h0 j hj]
 unfold idxF
 rw [e, if_pos hi]
theorem idxF_no (p : Int → Bool) (xs : List Int) (h0 : ∀ j : Nat, j < xs.length → p (rd xs j) = false) : idxF p xs = -1 := by
 have g : ∀ j (h : j < xs.length), rd xs j = xs[j] := fun j h => by unfold rd; rw [List.getD_eq_getElem?_getD, Int.toNat_natCast, List.getElem?_eq_getElem h]; rfl
 have e : ¬ xs.findIdx p < xs.length := by
  intro h
  have := List.findIdx_getElem (w := h)
  rw [← g _ h, h0 _ h] at this
  cases this
 unfold idxF
 rw [if_neg e]
theorem idx_mem (xs : List Int) (i : Nat) (h : i < xs.length) : rd xs i ∈ xs := by
 unfold rd
 rw [List.getD_eq_getElem?_getD, Int.toNat_natCast, List.getElem?_eq_getElem h]
 exact List.getElem_mem _
set_option maxHeartbeats 8000000 in
set_option maxRecDepth 100000 in
/-- What a call of IndexFunc does, for a function value that answers p at each element in all worlds of which I holds, and only makes memory. -/
theorem slices_IndexFunc_int_int.gen (F : Nat) (fi cp : Array Value) (I : World → Prop) (p : Int → Bool) (A : Option Addr) (c : Nat) (xs : List Int) (w : World) (hHas : Own.Has Try.prog F)
  (hI : ∀ W W', I W → Below W.heap.size W W' → I W') (hF : ∀ x ∈ xs, ∀ W, I W → Calls Try.prog F (fi ++ #[.int .i64 x] ++ cp) W fun e W' => e = .returned (.bool (p x)) ∧ Below W.heap.size W W')
  (hr : Kd.C (Kd.int .i64) w A xs.length xs) (hl : xs.length ≤ 1048576) (hi : I w) :
  Calls Try.prog 166 #[.slice A xs.length c, .func (.func F) fi cp] w fun e w' => e = .returned (.int .i64 (idxF p xs)) ∧ Below w.heap.size w w' ∧ I w' := by
 have HF := Aside0.mk hF
 have HI := Aside0.mk hI
 have HHas := Aside0.mk hHas
 have HR := Aside0.mk hr
 have HL := Aside0.mk hl
 have HIw0 := Aside0.mk hi
 clear hF hI hHas hr hl hi
 go_enter Try.func166, Try.ntmps166
 go_wp2
 go_loopg [8] xs.length (fun kq v8 w' => ∃ (i : Int), v8 = .int .i64 i ∧ Aside0 (0 ≤ i ∧ i ≤ xs.length ∧ (xs.length : Int) - i ≤ kq ∧ ∀ j : Nat, (j : Int) < i → p (rd xs j) = false) ∧ Aside0 (Below w.heap.size w w') ∧ Aside0 (I w'))
 case atStart => exact ⟨0, rfl, ⟨Int.le_refl _, by omega, by omega, fun j hj => absurd hj (by omega)⟩, ⟨Below.refl _ _⟩, HIw0⟩
 case round =>
  obtain ⟨i, rfl, HA, HB, HIw⟩ := hrel
  by_cases hlt : i < (xs.length : Int)
  ·have HLT := Aside0.mk hlt
   have HN := Aside0.mk (show ((i.toNat : Nat) : Int) = i from Int.toNat_of_nonneg HA.out.1)
   clear hlt
   have c3b0 : decide (i < (xs.length : Int)) = true := decide_eq_true HLT.out
   have c4b0 : decide (0 ≤ i) = true := decide_eq_true HA.out.1
   obtain ⟨ad, e, hx⟩ := Kd.at_int HR.out i HA.out.1 HLT.out
   cases e
   have p101 := eq_true HA.out.1
   have q101 := eq_true HLT.out
   replace hx := (HB.out.cell (World.block_lt_of_cell? w _ hx)).trans hx
   have HW := Aside0.mk (show wrap64 (i + 1) = i + 1 by unfold wrap64; have := HLT.out; have := HL.out; have := HA.out.1; omega)
   have HM := Aside0.mk (show rd xs i ∈ xs by have := idx_mem xs i.toNat (by have := HLT.out; have := HA.out.1; omega); rwa [HN.out] at this)
   obtain ⟨b, hb0⟩ : ∃ b, p (rd xs i) = b := ⟨_, rfl⟩
   have HPB := Aside0.mk hb0
   clear hb0
   cases b with
   | true =>
    go_wp2_with (first | ((with_reducible refine gate_dst (N := 16) rfl ?_); refine Own.goesC_ (some 16) rfl rfl HHas.out #[.int .i64 (rd xs i)] rfl rfl (by (try simp only [List.map_toArray, List.map_cons, List.map_nil]); first | done | rfl) ?_; refine (HF.out _ HM.out _ HIw.out).mono ?_; rintro e w12 ⟨he_, hb⟩; rw [HPB.out] at he_; subst he_; refine ⟨_, rfl, ?_⟩; have n0_ := Aside0.mk (below_step HB.out hb); have n1_ := Aside0.mk (HI.out _ _ HIw.out hb); clear HB HIw hb; have HB := n0_; have HIw := n1_; clear n0_ n1_))
    go_ret
    refine ⟨?_, HB.out, HIw.out⟩
    have e1 := idxF_at p xs i.toNat (by have := HLT.out; have := HA.out.1; omega) (fun j hj => HA.out.2.2.2 j (by have := HN.out; omega)) (by rw [HN.out]; exact HPB.out)
    rw [HN.out] at e1
    rw [e1]
    rfl
   | false =>
    go_wp2_with (first | ((with_reducible refine gate_dst (N := 16) rfl ?_); refine Own.goesC_ (some 16) rfl rfl HHas.out #[.int .i64 (rd xs i)] rfl rfl (by (try simp only [List.map_toArray, List.map_cons, List.map_nil]); first | done | rfl) ?_; refine (HF.out _ HM.out _ HIw.out).mono ?_; rintro e w12 ⟨he_, hb⟩; rw [HPB.out] at he_; subst he_; refine ⟨_, rfl, ?_⟩; have n0_ := Aside0.mk (below_step HB.out hb); have n1_ := Aside0.mk (HI.out _ _ HIw.out hb); clear HB HIw hb; have HB := n0_; have HIw := n1_; clear n0_ n1_))
    go_roundg ((xs.length : Int) - (i + 1)).toNat
    case measure => have := HA.out; have := HLT.out; omega
    case rel =>
     refine ⟨wrap64 (i + 1), (by first | rfl | (simp; done) | (simp [*]; done)), ⟨by rw [HW.out]; have := HA.out.1; omega, by rw [HW.out]; have := HLT.out; omega, by rw [HW.out]; have := HLT.out; omega, fun j hj => ?_⟩, HB, HIw⟩
     rw [HW.out] at hj
     by_cases e : (j : Int) = i
     ·rw [e]; exact HPB.out
     ·exact HA.out.2.2.2 j (by omega)
  ·have c3b0 : decide (i < (xs.length : Int)) = false := decide_eq_false hlt
   have HLT := Aside0.mk hlt
   clear hlt
   go_wp2
   go_ret
   refine ⟨?_, HB.out, HIw.out⟩
   rw [idxF_no p xs (fun j hj => HA.out.2.2.2 j (by have := HLT.out; omega))]
   rfl

/-! ### slices_Repeat_int_int: function 135 -/
/-- A list of one number, so many times. -/
def slices_Repeat_int_int.f (l0 : List Int) (a1 : Int) : Option (List Int) := if l0.length = 1 ∧ 0 ≤ a1 ∧ a1 ≤ 8 then some (List.replicate a1.toNat (rd l0 0)) else none
theorem rep_all : ((List.range 9).all fun n => bits_Mul.f 1 (n : Int) == some (0, (n : Int))) = true := by kernel_rfl
theorem rep_mul (n : Nat) (h : n ≤ 8) : bits_Mul.f 1 (n : Int) = some (0, (n : Int)) := eq_of_beq (List.all_eq_true.1 rep_all n (List.mem_range.2 (by omega)))
theorem rep_shape {W : World} {base n B : Nat} {ok : Nat → Prop} {v : Value} {xs : List Int} (ho : Kd.R (Kd.int .i64) 3 W base ok v xs) (hx : xs.length = n) (hnew : ∃ b, v.ownBlock = some b ∧ B ≤ b) : ∃ g cap, ∃ cur : List Value, v = .slice (some ⟨g, 0, none⟩) n cap ∧ base ≤ g ∧ W.heap[g]? = some (.cells cur.toArray 3 (0, 0)) ∧ n ≤ cap ∧ cap ≤ maxLen ∧ cur.length = cap := by
 obtain ⟨_, h⟩ := Kd.own_of_R ho
 rw [hx] at h
 rcases h with ⟨rfl, _⟩ | ⟨g, cap, cur, rfl, h1, h2, h3, h4, h5, _⟩
 ·obtain ⟨b, hb, _⟩ := hnew
  cases hb
 ·exact ⟨g, cap, cur.toList, rfl, h1, by simpa using h2, h3, h4, by simpa using h5⟩
theorem rep_own {W : World} {base n : Nat} {g cap : Nat} {cur : List Value} {x0 : Int} (hb : base ≤ g) (hk : W.heap[g]? = some (.cells cur.toArray 3 (0, 0))) (h1 : n ≤ cap) (h2 : cap ≤ maxLen) (h3 : cur.length = cap) (h : ∀ j, j < n → cur[j]? = some (.int .i64 x0)) : Kd.R (Kd.int .i64) 3 W base (fun _ => True) (.slice (some ⟨g, 0, none⟩) n cap) (List.replicate n x0) := by
 have e : cur.take n = encs (Value.int .i64) (List.replicate n x0) := by
  apply List.ext_getElem?
  intro j
  rw [List.getElem?_take]
  unfold encs
  rw [List.map_replicate, List.getElem?_replicate]
  by_cases c : j < n
  ·rw [if_pos c, if_pos c]; exact h j c
  ·rw [if_neg c, if_neg c]
 refine Kd.R_of_own (xs := List.replicate n x0) ?_ (fun _ _ => trivial)
 rw [List.length_replicate]
 exact ⟨by simp [encs], .inr ⟨g, cap, cur.toArray, rfl, hb, hk, h1, h2, by simp [h3], by simpa using e⟩⟩
theorem splice_get {cur : List Value} {m : Nat} {u : Value} {k : Nat} (hm : m + k ≤ cur.length) (h : ∀ j, j < m → cur[j]? = some u) : ∀ j, j < m + k → (splice cur m (List.replicate k u))[j]? = some u := by
 intro j hj
 unfold splice
 have hl : (cur.take m).length = m := by rw [List.length_take]; omega
 by_cases c : j < m
 ·rw [List.getElem?_append_left (by omega), List.getElem?_take_of_lt c]
  exact h j c
 ·rw [List.getElem?_append_right (by omega), hl, List.getElem?_append_left (by rw [List.length_replicate]; omega), List.getElem?_replicate, if_pos (by omega)]
theorem rep_src {u v : Value} {k j : Nat} (h : (List.replicate k u)[j]? = some v) : j < k ∧ v = u := by
 rw [List.getElem?_replicate] at h
 by_cases c : j < k
 ·rw [if_pos c] at h
  exact ⟨c, (Option.some.inj h).symm⟩
 ·rw [if_neg c] at h
  cases h
set_option maxHeartbeats 8000000 in
set_option maxRecDepth 100000 in
theorem slices_Repeat_int_int.calls (A0 : Option Addr) (c0 : Nat) (l0 : List Int) (a1 : Int) (r : List Int) (w : World) (hr0 : Kd.C (Kd.int .i64) w A0 l0.length l0) (hc0 : l0.length ≤ c0) (h : slices_Repeat_int_int.f l0 a1 = some r) :
  Calls Try.prog 135 #[.slice A0 l0.length c0, .int .i64 a1] w fun e w' => ∃ v0_ : Value, e = .returned v0_ ∧ Kd.R (Kd.int .i64) 3 w' w.heap.size (fun _ => True) v0_ r ∧ Below w.heap.size w w' := by
 unfold slices_Repeat_int_int.f at h
 by_cases hc : l0.length = 1 ∧ 0 ≤ a1 ∧ a1 ≤ 8
 ·rw [if_pos hc] at h
  obtain rfl := Option.some.inj h
  clear h
  obtain ⟨hc1, ha0, ha8⟩ := hc
  obtain ⟨n, rfl⟩ := Int.eq_ofNat_of_zero_le ha0
  have hn8 : n ≤ 8 := by omega
  obtain ⟨x0, rfl⟩ := List.length_eq_one_iff.1 hc1
  obtain ⟨ad, rfl, hx0⟩ := Kd.at_int hr0 0 (by decide) (by simp)
  have HX := Aside0.mk (show w.cell? (ad.add 0) = some (.int .i64 x0) from hx0)
  clear hx0 hr0 hc0 hc1 ha0 ha8
  have HM := Aside0.mk (rep_mul n hn8)
  have HN := Aside0.mk hn8
  have HB := Aside0.mk (Below.refl w.heap.size w)
  have hwu : IntKind.u64.wrap (n : Int) = n := by rw [IntKind.wrap_u64]; omega
  have hwi : wrap64 (n : Int) = n := by unfold wrap64; omega
  have hwj : IntKind.i64.wrap (n : Int) = n := by rw [IntKind.wrap_i64]; omega
  have hz1 : ((0 : Nat) > 0) = False := by simp
  have hn0 : decide ((n : Int) < 0) = false := decide_eq_false (by omega)
  have hnb : decide ((n : Int) > 9223372036854775807) = false := decide_eq_false (by omega)
  have hnc : decide ((n : Int) < 9223372036854775807) = true := decide_eq_true (by omega)
  have hnd : decide (9223372036854775807 < (n : Int)) = false := decide_eq_false (by omega)
  rw [show (([x0] : List Int).length) = 1 from rfl]
  clear hn8
  go_enter Try.func135, Try.ntmps135
  go_wp2_with (first | ((with_reducible refine gate_callee (f := 159) rfl ?_); refine goesL_ (some 18) rfl rfl Try.func159 (by kernel_rfl) rfl #[.int .u64 1, .int .u64 (n : Int)] rfl (by (try simp only [List.map_toArray, List.map_cons, List.map_nil]); first | done | rfl) ?_; (with_reducible refine (bits_Mul.calls 1 (n : Int) 0 (n : Int) _ HM.out).mono ?_); rintro e w' ⟨rfl, ⟨nd, rfl⟩⟩; refine ⟨_, rfl, ?_⟩) | ((with_reducible refine gate_dst (N := 30) rfl ?_); refine Kd.R_make (Kd.int .i64) _ 3 rfl (N := 30) rfl 26 _ _ rfl (n : Int) rfl rfl Try.underlying26 (.int .i64 0) 8 info3 rfl (by decide) (by omega) 0 (ok := fun _ => True) (okp := fun _ => True) rfl (fun _ hk => hk) trivial (Int.natCast_nonneg _) (by have := HN.out; simp only [Int.toNat_natCast]; omega) (Below.refl _ _) (Nat.le_refl _) ?_; intro v1 w8 ho hb hg_ hnew_; obtain ⟨g, cap, cur0, hv_, hge, hbk, hcap, hmax, hlen⟩ := rep_shape (n := n) ho (by simp) hnew_; subst hv_; have n0_ := Aside0.mk (below_step (by repeat (first | (with_reducible first | exact HB.out | apply below_alloc | apply pw_below_drewN | apply below_drew1) | exact HB.out)) hb); clear HB; have HB := n0_; clear n0_; have BK := Aside0.mk hbk; have HCAP := Aside0.mk hcap; have HMAX := Aside0.mk hmax; have HLEN := Aside0.mk hlen; have GE := Aside0.mk (show w.heap.size ≤ g from Nat.le_trans (below_size (pw_below_drewN (Below.refl _ _) nd)) hge); have HX1 := Aside0.mk (show w8.cell? (ad.add 0) = some (.int .i64 x0) from (HB.out.cell (World.block_lt_of_cell? w _ HX.out)).trans HX.out); clear ho hb hg_ hnew_ hge hbk hcap hmax hlen) | ((with_reducible refine gate_builtin (b := .copy) (xs := #[.tmp 31, .tmp 32]) rfl ?_); refine wpList_copy_splice rfl (.tmp 31) (.tmp 32) 26 26 rfl 3 Try.underlying26 (by kernel_rfl) _ _ _ _ _ _ rfl rfl g 0 cur0 3 BK.out (List.replicate (min 1 n) (.int .i64 x0)) List.length_replicate (fun _ => ⟨rfl, ad, rfl, fun j v hj => by obtain ⟨h1, rfl⟩ := rep_src hj; rw [show j = 0 by omega]; exact HX1.out⟩) (by have h1 := HCAP.out; have h2 := HLEN.out; rw [List.length_replicate]; omega) (by intro v hv; rw [List.eq_of_mem_replicate hv]; rfl) w.heap.size w HB.out GE.out ?_; intro w9 hg9 hb9; have BK1 := Aside0.mk hg9.out; clear HB; have HB := Aside0.mk hb9; clear hg9 hb9))
  go_loopg [8] n (fun kq v8 w' => ∃ (m : Nat) (cur : List Value), v8 = .int .i64 (m : Int) ∧ Aside0 (m ≤ n ∧ (0 < n → 0 < m) ∧ n - m ≤ kq ∧ cur.length = cap ∧ ∀ j, j < m → cur[j]? = some (.int .i64 x0)) ∧ Aside0 (w'.heap[g]? = some (.cells cur.toArray 3 (0, 0))) ∧ Aside0 (Below w.heap.size w w'))
  case atStart =>
   refine ⟨min 1 n, splice cur0 0 (List.replicate (min 1 n) (.int .i64 x0)), by simp [goInt], ⟨by omega, by omega, by omega, ?_, ?_⟩, BK1, HB⟩
   ·rw [length_splice _ _ _ (by have h1 := HCAP.out; have h2 := HLEN.out; rw [List.length_replicate]; omega)]
    exact HLEN.out
   ·have := splice_get (cur := cur0) (m := 0) (u := .int .i64 x0) (k := min 1 n) (by have h1 := HCAP.out; have h2 := HLEN.out; omega) (fun j hj => by omega)
    rwa [Nat.zero_add] at this
  case round =>
   obtain ⟨m, cur, rfl, HA, BK2, HB⟩ := hrel
   by_cases hlt : m < n
   ·have HLT := Aside0.mk hlt
    have hcm : (cap = m) = False := by have h1 := HCAP.out; simp; omega
    have c1 : decide ((m : Int) < (n : Int)) = true := decide_eq_true (by omega)
    have c2 : ((m : Int) < (n : Int)) = True := eq_true (by omega)
    have c3 : ((m : Int) ≤ (n : Int)) = True := eq_true (by omega)
    have c4 : (0 ≤ (m : Int)) = True := eq_true (by omega)
    have c5 : ((m : Int) ≤ (cap : Int)) = True := eq_true (by have h1 := HCAP.out; omega)
    have c6 : (m ≤ cap) = True := eq_true (by have h1 := HCAP.out; omega)
    have c7 : (m ≤ n) = True := eq_true (by omega)
    clear hlt
    have BKd := Aside0.mk (blk_drew BK2.out)
    have HBd := Aside0.mk (below_drew1 HB.out)
    go_wp2
    go_region_law (refine step_copy_splice rfl (.tmp 41) (.tmp 44) 26 26 rfl 3 Try.underlying26 (by kernel_rfl) (some ⟨g, m, none⟩) (some ⟨g, 0, none⟩) (n - m) (cap - m) m cap (by simp [Act.eval, Act.put]) (by simp [Act.eval, Act.put]) g m cur 3 BKd.out (List.replicate (min m (n - m)) (.int .i64 x0)) List.length_replicate (fun _ => ⟨rfl, ⟨g, 0, none⟩, rfl, fun j v hj => by obtain ⟨h1, rfl⟩ := rep_src hj; rw [add_plain]; exact (blk_cell BKd.out j).trans (by simpa using HA.out.2.2.2.2 j (by omega))⟩) (by have h1 := HCAP.out; have h2 := HA.out.2.2.2.1; have h3 := HLT.out; rw [List.length_replicate]; omega) (by intro v hv; rw [List.eq_of_mem_replicate hv]; rfl) w.heap.size w HBd.out GE.out ?_; intro w10 hg10 hb10)
    have BK3 := Aside0.mk hg10.out
    have HB3 := Aside0.mk hb10
    clear hg10 hb10
    go_wp2
    go_roundg (n - (m + min m (n - m)))
    case measure => have h1 := HA.out; have h2 := HLT.out; omega
    case rel =>
     refine ⟨m + min m (n - m), splice cur m (List.replicate (min m (n - m)) (.int .i64 x0)), ?_, ⟨?_, ?_, Nat.le_refl _, ?_, ?_⟩, BK3, HB3⟩
     ·have h1 := HN.out; have h2 := HLT.out
      simp only [IntKind.wrap_i64, Value.int.injEq, true_and]
      omega
     ·have h2 := HLT.out; omega
     ·have h1 := HA.out; have h2 := HLT.out; omega
     ·have h1 := HCAP.out; have h2 := HA.out.2.2.2.1; have h3 := HLT.out
      rw [length_splice _ _ _ (by rw [List.length_replicate]; omega)]
      exact h2
     ·have h1 := HCAP.out; have h2 := HA.out.2.2.2.1; have h3 := HLT.out
      exact splice_get (by omega) HA.out.2.2.2.2
   ·have HLT := Aside0.mk hlt
    have c1 : decide ((m : Int) < (n : Int)) = false := decide_eq_false (by omega)
    have c2 : ((m : Int) < (n : Int)) = False := eq_false (by omega)
    clear hlt
    go_wp2
    go_ret
    refine ⟨_, rfl, ?_, HB.out⟩
    have h1 := HA.out
    have h2 := HLT.out
    obtain rfl : m = n := by omega
    exact rep_own GE.out BK2.out HCAP.out HMAX.out h1.2.2.2.1 h1.2.2.2.2
 ·rw [if_neg hc] at h
  cases h

/-! ### slices_ContainsFunc_int_int: function 160 -/
set_option maxHeartbeats 8000000 in
set_option maxRecDepth 100000 in
/-- What a call of ContainsFunc does: as IndexFunc, told by whether there is a place. -/
theorem slices_ContainsFunc_int_int.gen (F : Nat) (fi cp : Array Value) (I : World → Prop) (p : Int → Bool) (A : Option Addr) (c : Nat) (xs : List Int) (w : World) (hHas : Own.Has Try.prog F)
  (hI : ∀ W W', I W → Below W.heap.size W W' → I W') (hF : ∀ x ∈ xs, ∀ W, I W → Calls Try.prog F (fi ++ #[.int .i64 x] ++ cp) W fun e W' => e = .returned (.bool (p x)) ∧ Below W.heap.size W W')
  (hr : Kd.C (Kd.int .i64) w A xs.length xs) (hl : xs.length ≤ 1048576) (hi : I w) :
  Calls Try.prog 160 #[.slice A xs.length c, .func (.func F) fi cp] w fun e w' => e = .returned (.bool (decide (idxF p xs ≥ 0))) ∧ Below w.heap.size w w' ∧ I w' := by
 have HC := Aside0.mk (slices_IndexFunc_int_int.gen F fi cp I p A c xs w hHas hI hF hr hl hi)
 clear hHas hI hF hr hl hi
 go_enter Try.func160, Try.ntmps160
 go_wp2_with (first | ((with_reducible refine gate_callee (f := 166) rfl ?_); refine goesL_ (some 7) rfl rfl Try.func166 (by kernel_rfl) rfl #[.slice A xs.length c, .func (.func F) fi cp] rfl (by (try simp only [List.map_toArray, List.map_cons, List.map_nil]); first | done | rfl) ?_; (refine HC.out.mono ?_); rintro e w1 ⟨rfl, hb, hi⟩; refine ⟨_, rfl, ?_⟩; have HB := Aside0.mk hb; have HIW := Aside0.mk hi; clear hb hi))
 go_ret
 exact ⟨by first | rfl | (simp; done) | (simp [*]; done), HB.out, HIW.out⟩

end Go.Proofs.Ytmbgpbanbffchaa.P
