/- Lists of pairs, read at a place; no conditions beyond those that each theorem names. -/
import Derived.Test.YtooboeahekdibaaGrP0
import Derived.Test.YtooboeahekdibaaGrL
namespace Go.Proofs.Ytooboeahekdibaa.Gr
open Go.RowKit Go.Proofs.Ytooboeahekdibaa.P Go.Proofs.YtooboeahekdibaaW.PrintWords Go.Proofs.YtooboeahekdibaaW.PrintLast Go.Proofs.YtooboeahekdibaaW.PrintMore

theorem rdT_eq (l : List S59) (i : Nat) (h : i < l.length) : rd_T59 l i = l[i] := by
  unfold rd_T59
  rw [List.getD_eq_getElem?_getD, Int.toNat_natCast, List.getElem?_eq_getElem h]
  rfl
theorem rdT_mem (l : List S59) (i : Int) (h0 : 0 ≤ i) (h1 : i < l.length) : rd_T59 l i ∈ l := by
  have := rdT_eq l i.toNat (by omega)
  rw [Int.toNat_of_nonneg h0] at this
  rw [this]
  exact List.getElem_mem _
theorem mem_rdT {l : List S59} {x : S59} (h : x ∈ l) : ∃ i : Int, 0 ≤ i ∧ i < l.length ∧ rd_T59 l i = x := by
  obtain ⟨j, hj, rfl⟩ := List.mem_iff_getElem.1 h
  exact ⟨j, by omega, by omega, rdT_eq l j hj⟩
theorem takeT (l : List S59) (i : Int) (h0 : 0 ≤ i) (h1 : i < l.length) : l.take (i + 1).toNat = l.take i.toNat ++ [rd_T59 l i] := by
  rw [show (i + 1).toNat = i.toNat + 1 by omega, List.take_succ_eq_append_getElem (by omega)]
  have := rdT_eq l i.toNat (by omega)
  rw [Int.toNat_of_nonneg h0] at this
  rw [this]
theorem takeT_all (l : List S59) (i : Int) (h : (l.length : Int) ≤ i) : l.take i.toNat = l := List.take_of_length_le (by omega)

end Go.Proofs.Ytooboeahekdibaa.Gr
