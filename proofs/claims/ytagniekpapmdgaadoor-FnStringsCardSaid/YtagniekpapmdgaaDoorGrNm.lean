/- The texts of numbers, by the reference and in the library's words; no conditions beyond those that each theorem names. -/
import Derived.Test.YtagniekpapmdgaaDoorGrSb
import Derived.Lib.ItoaNum
import Derived.Lib.Strings
import Derived.Test.YtagniekpapmdgaaDoorPxImplA
import Derived.Test.YtagniekpapmdgaaDoorPxSpecA
import Derived.Test.YtagniekpapmdgaaDoorPxSpecL1Num
namespace Go.Proofs.YtagniekpapmdgaaDoor.Gr
open Go.RowKit Go.Proofs.YtagniekpapmdgaaDoor.P Go.Proofs.YtagniekpapmdgaaDoorW.PrintWords Go.Proofs.YtagniekpapmdgaaDoorW.PrintLast

theorem in_eq (a lo hi : Int) : spec_l1In.f a lo hi = some (decide (lo ≤ a ∧ a ≤ hi)) := by
  unfold spec_l1In.f
  by_cases h : a ≥ lo
  · rw [if_pos h]; congr 1; simp [h]
  · rw [if_neg h, decide_eq_false (fun h' => h h'.1)]
theorem within_eq (a lo hi : Int) : impl_within.f a lo hi = some (decide (lo ≤ a ∧ a ≤ hi)) := by
  unfold impl_within.f
  by_cases h : a ≥ lo
  · rw [if_pos h]; congr 1; simp [h]
  · rw [if_neg h, decide_eq_false (fun h' => h h'.1)]

theorem dig_at : ∀ u : Nat, u < 10 → ((⟨#[48, 49, 50, 51, 52, 53, 54, 55, 56, 57]⟩ : ByteArray).extract u (u + 1)).data.toList = [UInt8.ofNat (48 + u)] := by
  intro u h
  rw [Lib.extract_data, Nat.add_sub_cancel_left]
  revert u
  decide
theorem dec_len : ∀ (n u : Nat), u < 10 ^ n → 1 ≤ n → (Lib.decDigits u).length ≤ n := by
  intro n
  induction n with
  | zero => intro u _ h; omega
  | succ n ih =>
    intro u h _
    rw [Lib.decDigits]
    by_cases h9 : u < 10
    · rw [dif_pos h9]; simp
    · rw [dif_neg h9]
      rw [Nat.pow_succ] at h
      have h1 : 1 ≤ n := by
        rcases n with _ | n
        · simp at h; omega
        · omega
      have := ih (u / 10) (by omega) h1
      simp only [List.length_append, List.length_singleton]
      omega

/-- The text of a number, in the library's words. -/
def tx (n : Int) : ByteArray := ⟨(Lib.itoa n).toArray⟩
theorem tx_data (n : Int) : (tx n).data.toList = Lib.itoa n := by unfold tx; rw [List.toList_toArray]

theorem num_nat : ∀ (u : Nat), u ≤ 1000000 → Cm (fun k => spec_l1Num.f k (u : Int)) (fun r => r.data.toList = Lib.decDigits u) := by
  intro u
  induction u using Nat.strongRecOn with
  | _ u ih =>
    intro hu
    by_cases h : u < 10
    · refine Cm.step (fun k => by simp only [spec_l1Num.f]; try rfl) ?_
      refine Cm.neg (by omega) (Cm.pos (by omega) (Cm.pos (by omega) ?_))
      rw [w64 ((u : Int) + 1) (by omega) (by omega)]
      refine Cm.pos (by omega) (Cm.pos (by omega) (Cm.now ?_))
      rw [show ((u : Int) + 1).toNat = u + 1 by omega, show (u : Int).toNat = u by omega, dig_at u h, Lib.decDigits, dif_pos h]
    · refine Cm.step (fun k => by simp only [spec_l1Num.f]; try rfl) ?_
      refine Cm.neg (by omega) (Cm.neg (by omega) ?_)
      rw [show Int.tdiv (u : Int) 10 = ((u / 10 : Nat) : Int) from rfl, show Int.tmod (u : Int) 10 = ((u % 10 : Nat) : Int) from rfl, w64 ((u / 10 : Nat) : Int) (by omega) (by omega), w64 (((u % 10 : Nat) : Int) + 1) (by omega) (by omega)]
      refine Cm.bind (ih (u / 10) (by omega) (by omega)) ?_
      intro t ht
      have hl := dec_len 7 (u / 10) (by omega) (by omega)
      rw [← ht] at hl
      have hd := dig_at (u % 10) (by omega)
      rw [show (((u % 10 : Nat) : Int) + 1).toNat = u % 10 + 1 by omega, show ((u % 10 : Nat) : Int).toNat = u % 10 by omega]
      refine Cm.pos (by omega) (Cm.pos (by omega) (Cm.pos (by omega) (Cm.pos ?_ (Cm.now ?_))))
      · rw [ba_size, ba_size, hd]
        simp only [List.length_singleton]
        omega
      · rw [ba_append, ht, hd]
        conv => rhs; rw [Lib.decDigits, dif_neg h]

/-- The reference's text of a number is the library's. -/
theorem num_ev (n : Int) (h0 : -1000000 ≤ n) (h1 : n ≤ 1000000) : Ev (fun k => spec_l1Num.f k n) (tx n) := by
  refine Cm.ev (Cm.mono (Q := fun r => r.data.toList = Lib.itoa n) ?_ (fun r hr => ba_ext (by rw [hr, tx_data])))
  by_cases h : n < 0
  · refine Cm.step (fun k => by simp only [spec_l1Num.f]; try rfl) (Cm.pos h ?_)
    rw [w64 (-n) (by omega) (by omega), show -n = ((n.natAbs : Nat) : Int) by omega]
    refine Cm.bind (num_nat n.natAbs (by omega)) ?_
    intro t ht
    have hl := dec_len 7 n.natAbs (by omega) (by omega)
    rw [← ht] at hl
    refine Cm.pos (by rw [ba_size]; omega) (Cm.now ?_)
    rw [ba_append, ht]
    unfold Lib.itoa
    rw [if_pos h]
    rfl
  · rw [show n = ((n.toNat : Nat) : Int) by omega]
    refine Cm.mono (num_nat n.toNat (by omega)) (fun r hr => ?_)
    rw [hr]
    unfold Lib.itoa
    rw [if_neg (by omega)]
    rw [Int.toNat_natCast]

theorem tx_len (n : Int) (h0 : -1000000 ≤ n) (h1 : n ≤ 1000000) : (tx n).data.toList.length ≤ 8 := by
  rw [tx_data]
  unfold Lib.itoa
  by_cases h : n < 0
  · rw [if_pos h]
    have := dec_len 7 n.natAbs (by omega) (by omega)
    simp only [List.length_cons]
    omega
  · rw [if_neg h]
    have := dec_len 7 n.toNat (by omega) (by omega)
    omega

end Go.Proofs.YtagniekpapmdgaaDoor.Gr
