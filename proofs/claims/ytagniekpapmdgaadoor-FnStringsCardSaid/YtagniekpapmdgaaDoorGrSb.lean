/- Texts, byte by byte: whether a byte stands in one; lists of texts are equal to themselves; no conditions beyond those that each theorem names. -/
import Derived.Test.YtagniekpapmdgaaDoorGrC
import Derived.Lib.Strings
import Derived.Lib.Bytealg
import Derived.Test.YtagniekpapmdgaaDoorPx0
import Derived.Test.YtagniekpapmdgaaDoorPxSpecL1Stands
import Derived.Test.YtagniekpapmdgaaDoorPxStringsContains
namespace Go.Proofs.YtagniekpapmdgaaDoor.Gr
open Go.RowKit Go.Proofs.YtagniekpapmdgaaDoor.P Go.Proofs.YtagniekpapmdgaaDoorW.PrintWords Go.Proofs.YtagniekpapmdgaaDoorW.PrintLast Go.Proofs.YtagniekpapmdgaaDoorW.PrintMore

theorem ba_ext {a b : ByteArray} (h : a.data.toList = b.data.toList) : a = b := ByteArray.ext (Array.toList_inj.1 h)
theorem ba_append (a b : ByteArray) : (a ++ b).data.toList = a.data.toList ++ b.data.toList := by
  rw [ByteArray.data_append, Array.toList_append]
theorem ba_size (a : ByteArray) : a.size = a.data.toList.length := (Array.length_toList).symm
theorem bt_data (s : ByteArray) (i : Int) (h0 : 0 ≤ i) (h : i < (s.size : Int)) : ∃ b : UInt8, s.data.toList[i.toNat]? = some b ∧ bt s i = (b.toNat : Int) := by
  have hi : i.toNat < s.size := by omega
  have hl : i.toNat < s.data.toList.length := by rw [← ba_size]; exact hi
  refine ⟨s.data.toList[i.toNat], List.getElem?_eq_getElem hl, ?_⟩
  unfold bt
  rw [dif_pos hi]
  rfl
theorem u8_ne {a b : UInt8} (h : ¬ (a.toNat : Int) = (b.toNat : Int)) : a ≠ b := fun e => h (by rw [e])
theorem u8_eq {a b : UInt8} (h : (a.toNat : Int) = (b.toNat : Int)) : a = b := UInt8.toNat_inj.1 (by omega)
theorem takeB (l : List UInt8) (i : Int) (b : UInt8) (h0 : 0 ≤ i) (h : l[i.toNat]? = some b) : l.take (i + 1).toNat = l.take i.toNat ++ [b] := by
  rw [show (i + 1).toNat = i.toNat + 1 by omega, List.take_add_one, h]
  rfl
theorem dropB (l : List UInt8) (i : Int) (b : UInt8) (h0 : 0 ≤ i) (h : l[i.toNat]? = some b) : l.drop i.toNat = b :: l.drop (i + 1).toNat := by
  obtain ⟨hl, e⟩ := List.getElem?_eq_some_iff.1 h
  rw [show (i + 1).toNat = i.toNat + 1 by omega, List.drop_eq_getElem_cons hl, e]
theorem stands_ev (s : ByteArray) (c : UInt8) (hs : s.size ≤ 1048576) : Ev (fun k => spec_l1Stands.f k s (c.toNat : Int)) (decide (c ∈ s.data.toList)) := by
  refine Cm.ev ?_
  unfold spec_l1Stands.f
  refine Cm.up (fun k i (_ : Unit) => spec_l1Stands.l0 k s (c.toNat : Int) i) s.size (fun i _ => 0 ≤ i ∧ c ∉ s.data.toList.take i.toNat) _ ?_ 0 () (by omega) ⟨by omega, by simp⟩
  rintro i _ hi ⟨i0, hn⟩ ih
  by_cases h : i < (s.size : Int)
  · obtain ⟨b, hb, eb⟩ := bt_data s i i0 h
    refine Cm.step (fun k => by simp only [spec_l1Stands.l0, if_pos h, if_pos i0, eb]; try rfl) ?_
    rw [w64 (i + 1) (by omega) (by omega)]
    refine Cm.ite (fun e => Cm.now ?_) (fun e => ih () h ⟨by omega, ?_⟩)
    · rw [u8_eq e] at hb
      exact (decide_eq_true (List.mem_of_getElem? hb)).symm
    · rw [takeB _ _ _ i0 hb]
      intro hm
      rcases List.mem_append.1 hm with hm | hm
      · exact hn hm
      · exact u8_ne e (List.mem_singleton.1 hm).symm
  · refine Cm.step (fun k => by simp only [spec_l1Stands.l0, if_neg h]; try rfl) (Cm.now ?_)
    rw [List.take_of_length_le (by rw [← ba_size]; omega)] at hn
    exact (decide_eq_false hn).symm
theorem index_mem (l : List UInt8) (c : UInt8) : 0 ≤ Lib.indexByte l c ↔ c ∈ l := by
  induction l with
  | nil => simp [Lib.indexByte]
  | cons b l ih =>
    unfold Lib.indexByte
    have hge := Lib.indexByte_ge l c
    by_cases e : b = c
    · subst e; simp
    · rw [if_neg (by simpa using e)]
      have e' : ¬ c = b := fun h => e h.symm
      rw [List.mem_cons]
      by_cases h : Lib.indexByte l c = -1
      · rw [h] at ih
        rw [if_pos (by rw [h]; rfl)]
        constructor
        · intro h2; omega
        · rintro (h2 | h2)
          · exact (e' h2).elim
          · have := ih.2 h2; omega
      · rw [if_neg (by simpa using h)]
        constructor
        · intro _; exact .inr (ih.1 (by omega))
        · intro _; omega
theorem contains_ev (s : ByteArray) (c : UInt8) : strings_Contains.f s ⟨#[c]⟩ = some (decide (c ∈ s.data.toList)) := by
  unfold strings_Contains.f
  dsimp only
  congr 1
  exact decide_eq_decide.2 (index_mem _ _)
theorem one_of {a : ByteArray} (h : a.size = 1) : ∃ c : UInt8, a = ⟨#[c]⟩ ∧ bt a 0 = (c.toNat : Int) := by
  obtain ⟨b, hb, e⟩ := bt_data a 0 (by omega) (by omega)
  refine ⟨b, ba_ext ?_, e⟩
  have hl : a.data.toList.length = 1 := by rw [← ba_size]; exact h
  obtain ⟨x, hx⟩ := List.length_eq_one_iff.1 hl
  rw [hx] at hb ⊢
  simp at hb
  rw [hb]
theorem takeSet {α : Type} (R l : List α) (i : Nat) (x : α) (hl : R.length = l.length) (hx : R[i]? = some x) : (R.take i ++ l.drop i).set i x = R.take (i + 1) ++ l.drop (i + 1) := by
  obtain ⟨hi, e⟩ := List.getElem?_eq_some_iff.1 hx
  rw [List.set_append_right _ _ (by rw [List.length_take]; omega), List.length_take, show i - min i R.length = 0 by omega, List.take_add_one, hx, List.drop_eq_getElem_cons (by omega : i < l.length)]
  simp only [List.set_cons_zero, Option.toList_some, List.append_assoc, List.singleton_append]
theorem rdO {l : List ByteArray} {i : Int} {x : ByteArray} (h : l[i.toNat]? = some x) : rdOf ByteArray.empty l i = x := by
  unfold rdOf
  rw [List.getD_eq_getElem?_getD, h]
  rfl
theorem atO (l : List ByteArray) (i : Int) (h0 : 0 ≤ i) (h : i < (l.length : Int)) : ∃ x, l[i.toNat]? = some x ∧ rdOf ByteArray.empty l i = x ∧ l.take (i + 1).toNat = l.take i.toNat ++ [x] ∧ x ∈ l := by
  have e : l[i.toNat]? = some (l[i.toNat]'(by omega)) := List.getElem?_eq_getElem (by omega)
  refine ⟨_, e, rdO e, ?_, List.mem_of_getElem? e⟩
  rw [show (i + 1).toNat = i.toNat + 1 by omega, List.take_add_one, e]
  rfl

end Go.Proofs.YtagniekpapmdgaaDoor.Gr
