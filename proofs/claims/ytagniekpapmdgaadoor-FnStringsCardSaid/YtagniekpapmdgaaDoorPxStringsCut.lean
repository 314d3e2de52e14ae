/- Functions of the program as Lean functions, and that each call comes to what they say; written by a program of this session; no conditions beyond those that each theorem names. -/
import Derived.Test.YtagniekpapmdgaaDoorPx0
namespace Go.Proofs.YtagniekpapmdgaaDoor.P
open Go.RowKit Go.Proofs.YtagniekpapmdgaaDoorW.PrintWords Go.Proofs.YtagniekpapmdgaaDoorW.PrintLast Go.Proofs.YtagniekpapmdgaaDoorW.PrintMore
attribute [local go_sem] max2_int min2_int max_two min_two max_three min_three max_four min_four   -- for this text's walks alone
set_option linter.unusedVariables false
set_option linter.unusedSimpArgs false

/-! ### strings_Cut: function 31 -/
/-- A text, cut at the first place of another. -/
def strings_Cut.f (a0 : ByteArray) (a1 : ByteArray) : Option (ByteArray × ByteArray × Bool) := if a0.size < 4294967281 then some ((⟨(Lib.cut a0.data.toList a1.data.toList).1.toArray⟩ : ByteArray), (⟨(Lib.cut a0.data.toList a1.data.toList).2.1.toArray⟩ : ByteArray), (Lib.cut a0.data.toList a1.data.toList).2.2) else none
theorem strings_Cut.calls (a0 : ByteArray) (a1 : ByteArray) (r1 : ByteArray) (r2 : ByteArray) (r3 : Bool) (w : World) (h : strings_Cut.f a0 a1 = some (r1, r2, r3)) (hVm : VarM w) :
  Calls Tryd.prog 31 #[.string a0, .string a1] w fun e w' => e = .returned (.tuple #[.string r1, .string r2, .bool r3]) ∧ Drawn0 w w' := by
 unfold strings_Cut.f at h
 by_cases hc : a0.size < 4294967281
 ·rw [if_pos hc] at h
  obtain ⟨m, hm⟩ := hVm
  simp only [Option.some.injEq, Prod.mk.injEq] at h
  obtain ⟨rfl, rfl, rfl⟩ := h
  refine (Tryd.strings_Cut a0 a1 m w hc hm).mono ?_
  rintro e w' ⟨rfl, n, rfl⟩
  exact ⟨rfl, n, rfl⟩
 ·rw [if_neg hc] at h
  cases h

end Go.Proofs.YtagniekpapmdgaaDoor.P
