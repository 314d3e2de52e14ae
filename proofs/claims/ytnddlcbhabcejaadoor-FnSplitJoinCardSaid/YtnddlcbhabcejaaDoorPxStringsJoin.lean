/- Functions of the program as Lean functions, and that each call comes to what they say; written by a program of this session; no conditions beyond those that each theorem names. -/
import Derived.Test.YtnddlcbhabcejaaDoorPx0
namespace Go.Proofs.YtnddlcbhabcejaaDoor.P
open Go.RowKit Go.Proofs.YtnddlcbhabcejaaDoorW.PrintWords Go.Proofs.YtnddlcbhabcejaaDoorW.PrintLast Go.Proofs.YtnddlcbhabcejaaDoorW.PrintMore
attribute [local go_sem] max2_int min2_int max_two min_two max_three min_three max_four min_four   -- for this text's walks alone
set_option linter.unusedVariables false
set_option linter.unusedSimpArgs false

/-! ### strings_Join: function 64 -/
/-- Texts, joined by another. -/
def strings_Join.f (l0 : List ByteArray) (a1 : ByteArray) : Option ByteArray := if l0.length ≤ 140737488355328 ∧ (Lib.join (l0.map (·.data.toList)) a1.data.toList).length ≤ 140737488355328 then some ⟨(Lib.join (l0.map (·.data.toList)) a1.data.toList).toArray⟩ else none
theorem strings_Join.calls (A0 : Option Addr) (c0 : Nat) (l0 : List ByteArray) (a1 : ByteArray) (r : ByteArray) (w : World) (hr0 : Kd.C Kd.string w A0 l0.length l0) (hc0 : l0.length ≤ c0) (h : strings_Join.f l0 a1 = some r) :
  Calls Tryd.prog 64 #[.slice A0 l0.length c0, .string a1] w fun e w' => e = .returned (.string r) ∧ Below w.heap.size w w' := by
 unfold strings_Join.f at h
 by_cases hc : l0.length ≤ 140737488355328 ∧ (Lib.join (l0.map (·.data.toList)) a1.data.toList).length ≤ 140737488355328
 ·rw [if_pos hc] at h
  obtain rfl := Option.some.inj h
  by_cases he : l0 = []
  ·subst he
   refine (Tryd.strings_Join_none A0 c0 a1 w).mono ?_
   rintro e w' ⟨rfl, rfl⟩
   exact ⟨rfl, Below.refl _ _⟩
  ·have hp : 0 < l0.length := List.length_pos_iff.2 he
   obtain ⟨ad, rfl, hx⟩ := Kd.at_string hr0 0 (by decide) (by omega)
   have hsp : ad.spot = none := by
    rcases ad with ⟨b, o, sp⟩
    cases sp with
    | none => rfl
    | some z =>
     unfold World.cell? Addr.add at hx
     simp at hx
     split at hx <;> simp at hx
   have hlt := World.block_lt_of_cell? w _ hx
   rcases ad with ⟨b, o, sp⟩
   subst hsp
   refine (Tryd.strings_Join b o c0 l0 a1 w (fun j x hj => ?_) hlt hc.1 hc0 hc.2).mono ?_
   ·have hj2 : j < l0.length := by
     rcases Nat.lt_or_ge j l0.length with h' | h'
     ·exact h'
     ·rw [List.getElem?_eq_none h'] at hj; cases hj
    obtain ⟨ad2, h2, hx2⟩ := Kd.at_string hr0 (j : Int) (by omega) (by omega)
    obtain rfl := Option.some.inj h2
    rw [Int.toNat_natCast] at hx2
    have hx3 : w.cell? ⟨b, o + j, none⟩ = some (.string (rdOf ByteArray.empty l0 (j : Int))) := by
     have e : (⟨b, o, none⟩ : Addr).add j = ⟨b, o + j, none⟩ := by
      unfold Addr.add
      by_cases h0 : j = 0
      ·rw [if_pos h0, h0, Nat.add_zero]
      ·rw [if_neg h0]
     rw [← e]
     exact hx2
    refine hx3.trans ?_
    unfold rdOf
    rw [Int.toNat_natCast, List.getD_eq_getElem?_getD, hj]
    rfl
   ·rintro e w' ⟨rfl, hb⟩
    exact ⟨rfl, hb⟩
 ·rw [if_neg hc] at h
  cases h

end Go.Proofs.YtnddlcbhabcejaaDoor.P
