/- Functions of the program as Lean functions, and that each call comes to what they say; written by a program of this session; no conditions beyond those that each theorem names. -/
import Derived.Test.YtbnhckhbjoldcaaPx0
namespace Go.Proofs.Ytbnhckhbjoldcaa.P
open Go.RowKit Go.Proofs.YtbnhckhbjoldcaaW.PrintWords Go.Proofs.YtbnhckhbjoldcaaW.PrintLast Go.Proofs.YtbnhckhbjoldcaaW.PrintMore
attribute [local go_sem] max2_int min2_int max_two min_two max_three min_three max_four min_four   -- for this text's walks alone
set_option linter.unusedVariables false
set_option linter.unusedSimpArgs false

/-! ### slices_IndexFunc_int_int: function 118 -/
/-- The first place at which p holds, or -1. -/
def idxF (p : Int → Bool) (xs : List Int) : Int := if xs.findIdx p < xs.length then (xs.findIdx p : Int) else -1
def slices_IndexFunc_int_int.f (p : Int → Bool) (xs : List Int) : Option Int := some (idxF p xs)
theorem idxF_at (p : Int → Bool) (xs : List Int) (i : Nat) (hi : i < xs.length) (h0 : ∀ j, j < i → p (rd xs j) = false) (h1 : p (rd xs i) = true) : idxF p xs = i := by
 have e : xs.findIdx p = i := by
  have g : ∀ j (h : j < xs.length), rd xs j = xs[j] := fun j h => by unfold rd; rw [List.getD_eq_getElem?_getD, Int.toNat_natCast, List.getElem?_eq_getElem h]; rfl
  refine (List.findIdx_eq hi).2 ⟨by rw [← g i hi]; exact h1, fun j hj => ?_⟩
  rw [← g j (by omega), h0 j hj]
 unfold idxF
 rw [e, if_pos hi]
theorem idxF_no (p : Int → Bool) (xs : List Int) (h0 : ∀ j : Nat, j < xs.length → p (rd xs j) = false) : idxF p xs = -1 := by
 have g : ∀ j (h : j < xs.length), rd xs j = xs[j] := fun j h => by unfold rd; rw [List.getD_eq_getElem?_getD, Int.toNat_natCast, List.getElem?_eq_getElem h]; rfl
 have e : ¬ xs.findIdx p < xs.length := by
  intro h
  have := List.findIdx_getElem (w := h)
  rw [← g _ h, h0 _ h] at this
  cases this
 unfold idxF
 rw [if_neg e]
theorem idx_mem (xs : List Int) (i : Nat) (h : i < xs.length) : rd xs i ∈ xs := by
 unfold rd
 rw [List.getD_eq_getElem?_getD, Int.toNat_natCast, List.getElem?_eq_getElem h]
 exact List.getElem_mem _
set_option maxHeartbeats 8000000 in
set_option maxRecDepth 100000 in
/-- What a call of IndexFunc does, for a function value that answers p at each element in all worlds of which I holds, and only makes memory. -/
theorem slices_IndexFunc_int_int.gen (F : Nat) (fi cp : Array Value) (I : World → Prop) (p : Int → Bool) (A : Option Addr) (c : Nat) (xs : List Int) (w : World) (hHas : Own.Has Try.prog F)
  (hI : ∀ W W', I W → Below W.heap.size W W' → I W') (hF : ∀ x ∈ xs, ∀ W, I W → Calls Try.prog F (fi ++ #[.int .i64 x] ++ cp) W fun e W' => e = .returned (.bool (p x)) ∧ Below W.heap.size W W')
  (hr : Kd.C (Kd.int .i64) w A xs.length xs) (hl : xs.length ≤ 1048576) (hi : I w) :
  Calls Try.prog 118 #[.slice A xs.length c, .func (.func F) fi cp] w fun e w' => e = .returned (.int .i64 (idxF p xs)) ∧ Below w.heap.size w w' ∧ I w' := by
 have HF := Aside0.mk hF
 have HI := Aside0.mk hI
 have HHas := Aside0.mk hHas
 have HR := Aside0.mk hr
 have HL := Aside0.mk hl
 have HIw0 := Aside0.mk hi
 clear hF hI hHas hr hl hi
 go_enter Try.func118, Try.ntmps118
 go_wp2
 go_loopg [8] xs.length (fun kq v8 w' => ∃ (i : Int), v8 = .int .i64 i ∧ Aside0 (0 ≤ i ∧ i ≤ xs.length ∧ (xs.length : Int) - i ≤ kq ∧ ∀ j : Nat, (j : Int) < i → p (rd xs j) = false) ∧ Aside0 (Below w.heap.size w w') ∧ Aside0 (I w'))
 case atStart => exact ⟨0, rfl, ⟨Int.le_refl _, by omega, by omega, fun j hj => absurd hj (by omega)⟩, ⟨Below.refl _ _⟩, HIw0⟩
 case round =>
  obtain ⟨i, rfl, HA, HB, HIw⟩ := hrel
  by_cases hlt : i < (xs.length : Int)
  ·have HLT := Aside0.mk hlt
   have HN := Aside0.mk (show ((i.toNat : Nat) : Int) = i from Int.toNat_of_nonneg HA.out.1)
   clear hlt
   have c3b0 : decide (i < (xs.length : Int)) = true := decide_eq_true HLT.out
   have c4b0 : decide (0 ≤ i) = true := decide_eq_true HA.out.1
   obtain ⟨ad, e, hx⟩ := Kd.at_int HR.out i HA.out.1 HLT.out
   cases e
   have p101 := eq_true HA.out.1
   have q101 := eq_true HLT.out
   replace hx := (HB.out.cell (World.block_lt_of_cell? w _ hx)).trans hx
   have HW := Aside0.mk (show wrap64 (i + 1) = i + 1 by unfold wrap64; have := HLT.out; have := HL.out; have := HA.out.1; omega)
   have HM := Aside0.mk (show rd xs i ∈ xs by have := idx_mem xs i.toNat (by have := HLT.out; have := HA.out.1; omega); rwa [HN.out] at this)
   obtain ⟨b, hb0⟩ : ∃ b, p (rd xs i) = b := ⟨_, rfl⟩
   have HPB := Aside0.mk hb0
   clear hb0
   cases b with
   | true =>
    go_wp2_with (first | ((with_reducible refine gate_dst (N := 16) rfl ?_); refine Own.goesC_ (some 16) rfl rfl HHas.out #[.int .i64 (rd xs i)] rfl rfl (by (try simp only [List.map_toArray, List.map_cons, List.map_nil]); first | done | rfl) ?_; refine (HF.out _ HM.out _ HIw.out).mono ?_; rintro e w12 ⟨he_, hb⟩; rw [HPB.out] at he_; subst he_; refine ⟨_, rfl, ?_⟩; have n0_ := Aside0.mk (below_step HB.out hb); have n1_ := Aside0.mk (HI.out _ _ HIw.out hb); clear HB HIw hb; have HB := n0_; have HIw := n1_; clear n0_ n1_))
    go_ret
    refine ⟨?_, HB.out, HIw.out⟩
    have e1 := idxF_at p xs i.toNat (by have := HLT.out; have := HA.out.1; omega) (fun j hj => HA.out.2.2.2 j (by have := HN.out; omega)) (by rw [HN.out]; exact HPB.out)
    rw [HN.out] at e1
    rw [e1]
    rfl
   | false =>
    go_wp2_with (first | ((with_reducible refine gate_dst (N := 16) rfl ?_); refine Own.goesC_ (some 16) rfl rfl HHas.out #[.int .i64 (rd xs i)] rfl rfl (by (try simp only [List.map_toArray, List.map_cons, List.map_nil]); first | done | rfl) ?_; refine (HF.out _ HM.out _ HIw.out).mono ?_; rintro e w12 ⟨he_, hb⟩; rw [HPB.out] at he_; subst he_; refine ⟨_, rfl, ?_⟩; have n0_ := Aside0.mk (below_step HB.out hb); have n1_ := Aside0.mk (HI.out _ _ HIw.out hb); clear HB HIw hb; have HB := n0_; have HIw := n1_; clear n0_ n1_))
    go_roundg ((xs.length : Int) - (i + 1)).toNat
    case measure => have := HA.out; have := HLT.out; omega
    case rel =>
     refine ⟨wrap64 (i + 1), (by first | rfl | (simp; done) | (simp [*]; done)), ⟨by rw [HW.out]; have := HA.out.1; omega, by rw [HW.out]; have := HLT.out; omega, by rw [HW.out]; have := HLT.out; omega, fun j hj => ?_⟩, HB, HIw⟩
     rw [HW.out] at hj
     by_cases e : (j : Int) = i
     ·rw [e]; exact HPB.out
     ·exact HA.out.2.2.2 j (by omega)
  ·have c3b0 : decide (i < (xs.length : Int)) = false := decide_eq_false hlt
   have HLT := Aside0.mk hlt
   clear hlt
   go_wp2
   go_ret
   refine ⟨?_, HB.out, HIw.out⟩
   rw [idxF_no p xs (fun j hj => HA.out.2.2.2 j (by have := HLT.out; omega))]
   rfl

end Go.Proofs.Ytbnhckhbjoldcaa.P
