/- Texts, byte by byte: whether a byte stands in one, the parts between its places, the sum; no conditions beyond those that each theorem names. -/
import Derived.Test.YtagniekpapmdgaaDoorGrNm
import Derived.Lib.SplitLaws
import Derived.Lib.IndexBytes
import Derived.Lib.IndexLaws
import Derived.Test.YtagniekpapmdgaaDoorPx0
import Derived.Test.YtagniekpapmdgaaDoorPxSpecL1Stands
import Derived.Test.YtagniekpapmdgaaDoorPxStringsContains
namespace Go.Proofs.YtagniekpapmdgaaDoor.Gr
open Go.RowKit Go.Proofs.YtagniekpapmdgaaDoor.P Go.Proofs.YtagniekpapmdgaaDoorW.PrintWords Go.Proofs.YtagniekpapmdgaaDoorW.PrintLast

/-- The parts of a text between the places of a byte, where cur has been read. -/
def spl (c : UInt8) : List UInt8 → List UInt8 → List (List UInt8)
  | cur, [] => [cur]
  | cur, b :: l => if b = c then cur :: spl c [] l else spl c (cur ++ [b]) l
theorem spl_none {c : UInt8} : ∀ (l cur : List UInt8), c ∉ l → spl c cur l = [cur ++ l]
  | [], cur, _ => by unfold spl; rw [List.append_nil]
  | b :: l, cur, h => by
    unfold spl
    rw [if_neg (fun e => h (by rw [e]; exact List.mem_cons_self)), spl_none l _ (fun h2 => h (List.mem_cons_of_mem _ h2)), List.append_assoc]
    rfl
theorem spl_app {c : UInt8} : ∀ (p cur q : List UInt8), c ∉ p → spl c cur (p ++ c :: q) = (cur ++ p) :: spl c [] q
  | [], cur, q, _ => by
    rw [List.nil_append, List.append_nil]
    conv => lhs; unfold spl
    rw [if_pos rfl]
  | b :: p, cur, q, h => by
    rw [List.cons_append]
    conv => lhs; unfold spl
    rw [if_neg (fun e => h (by rw [e]; exact List.mem_cons_self)), spl_app p _ q (fun h2 => h (List.mem_cons_of_mem _ h2)), List.append_assoc]
    rfl

theorem cut_at {l : List UInt8} {c : UInt8} {i : Nat} (h : Lib.indexByte l c = i) : l = l.take i ++ c :: l.drop (i + 1) ∧ c ∉ l.take i := by
  obtain ⟨h1, h2⟩ := Lib.indexByte_some h
  obtain ⟨hl, e⟩ := List.getElem?_eq_some_iff.1 h1
  refine ⟨?_, fun hm => ?_⟩
  · conv => lhs; rw [← List.take_append_drop i l, List.drop_eq_getElem_cons hl, e]
  · obtain ⟨k, hk, e2⟩ := List.mem_iff_getElem.1 hm
    rw [List.length_take] at hk
    rw [List.getElem_take] at e2
    exact h2 k (by omega) (List.getElem?_eq_some_iff.2 ⟨by omega, e2⟩)
theorem not_mem_of {l : List UInt8} {c : UInt8} (h : Lib.indexByte l c = -1) : c ∉ l := fun hm => by
  have := (index_mem l c).2 hm
  omega

theorem splitK_spl (c : UInt8) : ∀ (fuel : Nat) (l : List UInt8), l.length < fuel → Lib.splitK [c] 0 (Lib.countFrom [c] fuel l) l = spl c [] l := by
  intro fuel
  induction fuel with
  | zero => intro l h; omega
  | succ fuel ih =>
    intro l hl
    unfold Lib.countFrom
    rw [Lib.index_one]
    have hge := Lib.indexByte_ge l c
    by_cases e : Lib.indexByte l c = -1
    · rw [if_pos (by rw [e]; rfl), spl_none l [] (not_mem_of e)]
      rfl
    · obtain ⟨i, hi⟩ : ∃ i : Nat, Lib.indexByte l c = i := ⟨(Lib.indexByte l c).toNat, by omega⟩
      obtain ⟨h1, h2⟩ := cut_at hi
      rw [if_neg (by simpa using e), Nat.add_comm]
      unfold Lib.splitK
      rw [Lib.index_one, if_neg (by simpa using e), hi, Int.toNat_natCast, Nat.add_zero]
      have hlt : i < l.length := by
        obtain ⟨h3, _⟩ := Lib.indexByte_some hi
        exact (List.getElem?_eq_some_iff.1 h3).1
      rw [show [c].length = 1 from rfl, ih (l.drop (i + 1)) (by rw [List.length_drop]; omega)]
      conv => rhs; rw [h1, spl_app _ _ _ h2, List.nil_append]

theorem split_lib (s : ByteArray) (c : UInt8) : (Lib.splitB ⟨#[c]⟩ 0 (Lib.countB s ⟨#[c]⟩) s).map (·.data.toList) = spl c [] s.data.toList := by
  rw [Lib.splitB_data]
  exact splitK_spl c _ _ (Nat.lt_succ_self _)

theorem map_ba {a b : List ByteArray} (h : a.map (·.data.toList) = b.map (·.data.toList)) : a = b := by
  induction a generalizing b with
  | nil => cases b with
    | nil => rfl
    | cons y b => cases h
  | cons x a ih => cases b with
    | nil => cases h
    | cons y b =>
      rw [List.map_cons, List.map_cons] at h
      injection h with h1 h2
      rw [ba_ext h1, ih h2]

theorem cutN {c : UInt8} {l : List UInt8} (h : c ∉ l) : Lib.cut l [c] = (l, [], false) := by
  unfold Lib.cut
  rw [Lib.index_one, if_neg (fun h2 => h ((index_mem l c).1 h2))]
theorem cutS {c : UInt8} {p q : List UInt8} (h : c ∉ p) : Lib.cut (p ++ c :: q) [c] = (p, q, true) := by
  have hm : c ∈ p ++ c :: q := List.mem_append_right _ List.mem_cons_self
  have h0 := (index_mem (p ++ c :: q) c).2 hm
  obtain ⟨i, hi⟩ : ∃ i : Nat, Lib.indexByte (p ++ c :: q) c = i := ⟨(Lib.indexByte (p ++ c :: q) c).toNat, by omega⟩
  obtain ⟨h1, h2⟩ := Lib.indexByte_some hi
  have e : i = p.length := by
    rcases Nat.lt_trichotomy i p.length with h3 | h3 | h3
    · rw [List.getElem?_append_left h3] at h1
      exact (h (List.mem_of_getElem? h1)).elim
    · exact h3
    · exact (h2 p.length h3 (by rw [List.getElem?_append_right (Nat.le_refl _), Nat.sub_self]; rfl)).elim
  unfold Lib.cut
  rw [Lib.index_one, hi, if_pos (by omega), Int.toNat_natCast, e]
  rw [show [c].length = 1 from rfl, List.take_left, List.drop_append, List.drop_eq_nil_of_le (by omega), show p.length + 1 - p.length = 1 by omega]
  rfl
theorem cutC (c : UInt8) (l : List UInt8) : c ∉ l ∨ ∃ p q, l = p ++ c :: q ∧ c ∉ p := by
  by_cases h : c ∈ l
  · have h0 := (index_mem l c).2 h
    obtain ⟨i, hi⟩ : ∃ i : Nat, Lib.indexByte l c = i := ⟨(Lib.indexByte l c).toNat, by omega⟩
    exact .inr ⟨_, _, cut_at hi⟩
  · exact .inl h

end Go.Proofs.YtagniekpapmdgaaDoor.Gr
