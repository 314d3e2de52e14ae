/- Texts, byte by byte: whether a byte stands in one, the parts between its places, the sum; no conditions beyond those that each theorem names. -/
import Derived.Test.YtnddlcbhabcejaaDoorGrNm
import Derived.Lib.SplitLaws
import Derived.Lib.IndexBytes
import Derived.Lib.IndexLaws
import Derived.Test.YtnddlcbhabcejaaDoorPxSpecL1Split
import Derived.Test.YtnddlcbhabcejaaDoorPxSpecL1Stands
import Derived.Test.YtnddlcbhabcejaaDoorPxStringsContains
import Derived.Test.YtnddlcbhabcejaaDoorPxStringsSplit
namespace Go.Proofs.YtnddlcbhabcejaaDoor.Gr
open Go.RowKit Go.Proofs.YtnddlcbhabcejaaDoor.P Go.Proofs.YtnddlcbhabcejaaDoorW.PrintWords Go.Proofs.YtnddlcbhabcejaaDoorW.PrintLast

theorem bt_data (s : ByteArray) (i : Int) (h0 : 0 ≤ i) (h : i < (s.size : Int)) : ∃ b : UInt8, s.data.toList[i.toNat]? = some b ∧ bt s i = (b.toNat : Int) := by
  have hi : i.toNat < s.size := by omega
  have hl : i.toNat < s.data.toList.length := by rw [← ba_size]; exact hi
  refine ⟨s.data.toList[i.toNat], List.getElem?_eq_getElem hl, ?_⟩
  unfold bt
  rw [dif_pos hi]
  rfl
theorem u8_ne {a b : UInt8} (h : ¬ (a.toNat : Int) = (b.toNat : Int)) : a ≠ b := fun e => h (by rw [e])
theorem u8_eq {a b : UInt8} (h : (a.toNat : Int) = (b.toNat : Int)) : a = b := UInt8.toNat_inj.1 (by omega)
theorem takeB (l : List UInt8) (i : Int) (b : UInt8) (h0 : 0 ≤ i) (h : l[i.toNat]? = some b) : l.take (i + 1).toNat = l.take i.toNat ++ [b] := by
  rw [show (i + 1).toNat = i.toNat + 1 by omega, List.take_add_one, h]
  rfl
theorem dropB (l : List UInt8) (i : Int) (b : UInt8) (h0 : 0 ≤ i) (h : l[i.toNat]? = some b) : l.drop i.toNat = b :: l.drop (i + 1).toNat := by
  obtain ⟨hl, e⟩ := List.getElem?_eq_some_iff.1 h
  rw [show (i + 1).toNat = i.toNat + 1 by omega, List.drop_eq_getElem_cons hl, e]

theorem stands_ev (s : ByteArray) (c : UInt8) (hs : s.size ≤ 1048576) : Ev (fun k => spec_l1Stands.f k s (c.toNat : Int)) (decide (c ∈ s.data.toList)) := by
  refine Cm.ev ?_
  unfold spec_l1Stands.f
  refine Cm.up (fun k i (_ : Unit) => spec_l1Stands.l0 k s (c.toNat : Int) i) s.size (fun i _ => 0 ≤ i ∧ c ∉ s.data.toList.take i.toNat) _ ?_ 0 () (by omega) ⟨by omega, by simp⟩
  rintro i _ hi ⟨i0, hn⟩ ih
  by_cases h : i < (s.size : Int)
  · obtain ⟨b, hb, eb⟩ := bt_data s i i0 h
    refine Cm.step (fun k => by simp only [spec_l1Stands.l0, if_pos h, if_pos i0, eb]; try rfl) ?_
    rw [w64 (i + 1) (by omega) (by omega)]
    refine Cm.ite (fun e => Cm.now ?_) (fun e => ih () h ⟨by omega, ?_⟩)
    · rw [u8_eq e] at hb
      exact (decide_eq_true (List.mem_of_getElem? hb)).symm
    · rw [takeB _ _ _ i0 hb]
      intro hm
      rcases List.mem_append.1 hm with hm | hm
      · exact hn hm
      · exact u8_ne e (List.mem_singleton.1 hm).symm
  · refine Cm.step (fun k => by simp only [spec_l1Stands.l0, if_neg h]; try rfl) (Cm.now ?_)
    rw [List.take_of_length_le (by rw [← ba_size]; omega)] at hn
    exact (decide_eq_false hn).symm

theorem index_mem (l : List UInt8) (c : UInt8) : 0 ≤ Lib.indexByte l c ↔ c ∈ l := by
  induction l with
  | nil => simp [Lib.indexByte]
  | cons b l ih =>
    unfold Lib.indexByte
    have hge := Lib.indexByte_ge l c
    by_cases e : b = c
    · subst e; simp
    · rw [if_neg (by simpa using e)]
      have e' : ¬ c = b := fun h => e h.symm
      rw [List.mem_cons]
      by_cases h : Lib.indexByte l c = -1
      · rw [h] at ih
        rw [if_pos (by rw [h]; rfl)]
        constructor
        · intro h2; omega
        · rintro (h2 | h2)
          · exact (e' h2).elim
          · have := ih.2 h2; omega
      · rw [if_neg (by simpa using h)]
        constructor
        · intro _; exact .inr (ih.1 (by omega))
        · intro _; omega
theorem contains_ev (s : ByteArray) (c : UInt8) : strings_Contains.f s ⟨#[c]⟩ = some (decide (c ∈ s.data.toList)) := by
  unfold strings_Contains.f
  dsimp only
  congr 1
  exact decide_eq_decide.2 (index_mem _ _)

/-- The parts of a text between the places of a byte, where cur has been read. -/
def spl (c : UInt8) : List UInt8 → List UInt8 → List (List UInt8)
  | cur, [] => [cur]
  | cur, b :: l => if b = c then cur :: spl c [] l else spl c (cur ++ [b]) l
theorem spl_none {c : UInt8} : ∀ (l cur : List UInt8), c ∉ l → spl c cur l = [cur ++ l]
  | [], cur, _ => by unfold spl; rw [List.append_nil]
  | b :: l, cur, h => by
    unfold spl
    rw [if_neg (fun e => h (by rw [e]; exact List.mem_cons_self)), spl_none l _ (fun h2 => h (List.mem_cons_of_mem _ h2)), List.append_assoc]
    rfl
theorem spl_app {c : UInt8} : ∀ (p cur q : List UInt8), c ∉ p → spl c cur (p ++ c :: q) = (cur ++ p) :: spl c [] q
  | [], cur, q, _ => by
    rw [List.nil_append, List.append_nil]
    conv => lhs; unfold spl
    rw [if_pos rfl]
  | b :: p, cur, q, h => by
    rw [List.cons_append]
    conv => lhs; unfold spl
    rw [if_neg (fun e => h (by rw [e]; exact List.mem_cons_self)), spl_app p _ q (fun h2 => h (List.mem_cons_of_mem _ h2)), List.append_assoc]
    rfl

theorem cut_at {l : List UInt8} {c : UInt8} {i : Nat} (h : Lib.indexByte l c = i) : l = l.take i ++ c :: l.drop (i + 1) ∧ c ∉ l.take i := by
  obtain ⟨h1, h2⟩ := Lib.indexByte_some h
  obtain ⟨hl, e⟩ := List.getElem?_eq_some_iff.1 h1
  refine ⟨?_, fun hm => ?_⟩
  · conv => lhs; rw [← List.take_append_drop i l, List.drop_eq_getElem_cons hl, e]
  · obtain ⟨k, hk, e2⟩ := List.mem_iff_getElem.1 hm
    rw [List.length_take] at hk
    rw [List.getElem_take] at e2
    exact h2 k (by omega) (List.getElem?_eq_some_iff.2 ⟨by omega, e2⟩)
theorem not_mem_of {l : List UInt8} {c : UInt8} (h : Lib.indexByte l c = -1) : c ∉ l := fun hm => by
  have := (index_mem l c).2 hm
  omega

theorem splitK_spl (c : UInt8) : ∀ (fuel : Nat) (l : List UInt8), l.length < fuel → Lib.splitK [c] 0 (Lib.countFrom [c] fuel l) l = spl c [] l := by
  intro fuel
  induction fuel with
  | zero => intro l h; omega
  | succ fuel ih =>
    intro l hl
    unfold Lib.countFrom
    rw [Lib.index_one]
    have hge := Lib.indexByte_ge l c
    by_cases e : Lib.indexByte l c = -1
    · rw [if_pos (by rw [e]; rfl), spl_none l [] (not_mem_of e)]
      rfl
    · obtain ⟨i, hi⟩ : ∃ i : Nat, Lib.indexByte l c = i := ⟨(Lib.indexByte l c).toNat, by omega⟩
      obtain ⟨h1, h2⟩ := cut_at hi
      rw [if_neg (by simpa using e), Nat.add_comm]
      unfold Lib.splitK
      rw [Lib.index_one, if_neg (by simpa using e), hi, Int.toNat_natCast, Nat.add_zero]
      have hlt : i < l.length := by
        obtain ⟨h3, _⟩ := Lib.indexByte_some hi
        exact (List.getElem?_eq_some_iff.1 h3).1
      rw [show [c].length = 1 from rfl, ih (l.drop (i + 1)) (by rw [List.length_drop]; omega)]
      conv => rhs; rw [h1, spl_app _ _ _ h2, List.nil_append]

theorem split_lib (s : ByteArray) (c : UInt8) : (Lib.splitB ⟨#[c]⟩ 0 (Lib.countB s ⟨#[c]⟩) s).map (·.data.toList) = spl c [] s.data.toList := by
  rw [Lib.splitB_data]
  exact splitK_spl c _ _ (Nat.lt_succ_self _)

theorem split_spec (s : ByteArray) (c : UInt8) (hs : s.size ≤ 1048576) : Cm (fun k => spec_l1Split.f k s (c.toNat : Int)) (fun r => r.map (·.data.toList) = spl c [] s.data.toList) := by
  unfold spec_l1Split.f
  refine Cm.up (fun k i (z : List ByteArray × Int) => spec_l1Split.l0 k s (c.toNat : Int) z.1 z.2 i) s.size (fun i z => 0 ≤ z.2 ∧ z.2 ≤ i ∧ (z.1.length : Int) ≤ i ∧ z.1.map (·.data.toList) ++ spl c ((s.data.toList.drop z.2.toNat).take (i - z.2).toNat) (s.data.toList.drop i.toNat) = spl c [] s.data.toList) _ ?_ 0 ([], 0) (by omega) ⟨by omega, by omega, by simp, by simp⟩
  rintro i ⟨x, f⟩ hi ⟨f0, fi, hx, he⟩ ih
  dsimp only at f0 fi hx he ⊢
  by_cases h : i < (s.size : Int)
  · obtain ⟨b, hb, eb⟩ := bt_data s i (by omega) h
    refine Cm.step (fun k => by simp only [spec_l1Split.l0, if_pos h, if_pos (show 0 ≤ i by omega), eb]; try rfl) ?_
    rw [w64 (i + 1) (by omega) (by omega)]
    rw [dropB _ i b (by omega) hb] at he
    refine Cm.ite (fun e => ?_) (fun e => ?_)
    · refine Cm.pos f0 (Cm.pos fi (Cm.pos (by omega) (Cm.pos (by omega) (ih (x ++ [s.extract f.toNat i.toNat], i + 1) h ⟨by dsimp only; omega, by dsimp only; omega, by dsimp only; rw [List.length_append, List.length_singleton]; omega, ?_⟩))))
      dsimp only
      rw [← he, List.map_append, List.map_singleton, Lib.extract_data]
      conv => rhs; rw [spl, if_pos (u8_eq e)]
      rw [show i.toNat - f.toNat = (i - f).toNat by omega, List.append_assoc, Int.sub_self, Int.toNat_zero, List.take_zero]
      rfl
    · refine ih (x, f) h ⟨f0, by dsimp only; omega, by dsimp only; omega, ?_⟩
      dsimp only
      rw [← he]
      conv => rhs; rw [spl, if_neg (u8_ne e)]
      rw [show (i + 1 - f).toNat = (i - f).toNat + 1 by omega, List.take_add_one, List.getElem?_drop, show f.toNat + (i - f).toNat = i.toNat by omega, hb]
      rfl
  · refine Cm.step (fun k => by simp only [spec_l1Split.l0, if_neg h]; try rfl) (Cm.pos f0 (Cm.pos (by omega) (Cm.pos (by omega) (Cm.now ?_))))
    rw [List.map_append, List.map_singleton, ← he, List.drop_eq_nil_of_le (show s.data.toList.length ≤ i.toNat by rw [← ba_size]; omega), Lib.extract_to_end]
    conv => rhs; rw [spl]
    rw [List.take_of_length_le (by rw [List.length_drop, ← ba_size]; omega)]

theorem map_ba {a b : List ByteArray} (h : a.map (·.data.toList) = b.map (·.data.toList)) : a = b := by
  induction a generalizing b with
  | nil => cases b with
    | nil => rfl
    | cons y b => cases h
  | cons x a ih => cases b with
    | nil => cases h
    | cons y b =>
      rw [List.map_cons, List.map_cons] at h
      injection h with h1 h2
      rw [ba_ext h1, ih h2]

/-- Both split alike. -/
theorem split_ev (s : ByteArray) (c : UInt8) (hs : s.size ≤ 1048576) : Ev (fun k => spec_l1Split.f k s (c.toNat : Int)) (Lib.splitB ⟨#[c]⟩ 0 (Lib.countB s ⟨#[c]⟩) s) :=
  Cm.ev (Cm.mono (split_spec s c hs) (fun _ hr => map_ba (hr.trans (split_lib s c).symm)))
theorem one_of {a : ByteArray} (h : a.size = 1) : ∃ c : UInt8, a = ⟨#[c]⟩ ∧ bt a 0 = (c.toNat : Int) := by
  obtain ⟨b, hb, e⟩ := bt_data a 0 (by omega) (by omega)
  refine ⟨b, ba_ext ?_, e⟩
  have hl : a.data.toList.length = 1 := by rw [← ba_size]; exact h
  obtain ⟨x, hx⟩ := List.length_eq_one_iff.1 hl
  rw [hx] at hb ⊢
  simp at hb
  rw [hb]

end Go.Proofs.YtnddlcbhabcejaaDoor.Gr
