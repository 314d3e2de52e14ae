/- Sums and seals of texts, by both; no conditions beyond those that each theorem names. -/
import Derived.Test.YtagniekpapmdgaaDoorGrSt
import Derived.Test.YtagniekpapmdgaaDoorPxImplAppendChecksum
import Derived.Test.YtagniekpapmdgaaDoorPxImplChecksum
import Derived.Test.YtagniekpapmdgaaDoorPxSpecAppendChecksum
import Derived.Test.YtagniekpapmdgaaDoorPxSpecL1Seal
import Derived.Test.YtagniekpapmdgaaDoorPxSpecL1Sum
import Derived.Test.YtagniekpapmdgaaDoorPxStrconvItoa19
namespace Go.Proofs.YtagniekpapmdgaaDoor.Gr
open Go.RowKit Go.Proofs.YtagniekpapmdgaaDoor.P Go.Proofs.YtagniekpapmdgaaDoorW.PrintWords Go.Proofs.YtagniekpapmdgaaDoorW.PrintLast

/-- The sum of bytes, from h on. -/
def sm : Int → List UInt8 → Int
  | h, [] => h
  | h, b :: l => sm ((41 * h + (b.toNat : Int) + 1) % 999979) l
theorem sm_append : ∀ (a : List UInt8) (h : Int) (b : List UInt8), sm h (a ++ b) = sm (sm h a) b
  | [], _, _ => rfl
  | _ :: a, _, b => sm_append a _ b
theorem sm_range : ∀ (l : List UInt8) (h : Int), 0 ≤ h → h < 999979 → 0 ≤ sm h l ∧ sm h l < 999979
  | [], h, h0, h1 => ⟨h0, h1⟩
  | b :: l, h, _, _ => sm_range l _ (by omega) (by omega)
theorem sm7 (s : ByteArray) : 0 ≤ sm 7 s.data.toList ∧ sm 7 s.data.toList < 999979 := sm_range _ _ (by omega) (by omega)

theorem sum_step (x : Int) (b : UInt8) (h0 : 0 ≤ x) (h1 : x < 999979) : Int.tmod (wrap64 (wrap64 (wrap64 (41 * x) + wrap64 (b.toNat : Int)) + 1)) 999979 = (41 * x + (b.toNat : Int) + 1) % 999979 := by
  have hb := b.toNat_lt
  rw [w64 (41 * x) (by omega) (by omega), w64 (b.toNat : Int) (by omega) (by omega), w64 (41 * x + (b.toNat : Int)) (by omega) (by omega), w64 _ (by omega) (by omega), Int.tmod_eq_emod_of_nonneg (by omega)]

theorem sum_ev (s : ByteArray) (hs : s.size ≤ 1048576) : Ev (fun k => spec_l1Sum.f k s) (sm 7 s.data.toList) ∧ Ev (fun k => impl_checksum.f k s) (sm 7 s.data.toList) := by
  constructor
  · refine Cm.ev ?_
    unfold spec_l1Sum.f
    refine Cm.up (fun k i (x : Int) => spec_l1Sum.l0 k s x i) s.size (fun i x => 0 ≤ i ∧ x = sm 7 (s.data.toList.take i.toNat)) _ ?_ 0 7 (by omega) ⟨by omega, rfl⟩
    rintro i x hi ⟨i0, hx⟩ ih
    have hr := sm_range (s.data.toList.take i.toNat) 7 (by omega) (by omega)
    by_cases h : i < (s.size : Int)
    · obtain ⟨b, hb, eb⟩ := bt_data s i i0 h
      refine Cm.step (fun k => by simp only [spec_l1Sum.l0, if_pos h, if_pos i0, eb]; try rfl) ?_
      rw [w64 (i + 1) (by omega) (by omega), sum_step x b (by omega) (by omega)]
      refine ih _ h ⟨by omega, ?_⟩
      rw [takeB _ _ _ i0 hb, sm_append, ← hx]
      rfl
    · refine Cm.step (fun k => by simp only [spec_l1Sum.l0, if_neg h]; try rfl) (Cm.now ?_)
      rw [hx, List.take_of_length_le (by rw [← ba_size]; omega)]
  · refine Cm.ev ?_
    unfold impl_checksum.f
    refine Cm.up (fun k i (x : Int) => impl_checksum.l0 k s x i) s.size (fun i x => 0 ≤ i ∧ x = sm 7 (s.data.toList.take i.toNat)) _ ?_ 0 7 (by omega) ⟨by omega, rfl⟩
    rintro i x hi ⟨i0, hx⟩ ih
    have hr := sm_range (s.data.toList.take i.toNat) 7 (by omega) (by omega)
    by_cases h : i < (s.size : Int)
    · obtain ⟨b, hb, eb⟩ := bt_data s i i0 h
      refine Cm.step (fun k => by simp only [impl_checksum.l0, if_pos h, if_pos i0, eb]; try rfl) ?_
      rw [w64 (i + 1) (by omega) (by omega), sum_step x b (by omega) (by omega)]
      refine ih _ h ⟨by omega, ?_⟩
      rw [takeB _ _ _ i0 hb, sm_append, ← hx]
      rfl
    · refine Cm.step (fun k => by simp only [impl_checksum.l0, if_neg h]; try rfl) (Cm.now ?_)
      rw [hx, List.take_of_length_le (by rw [← ba_size]; omega)]

/-- A text with its sum behind it. -/
def sld (s : ByteArray) : ByteArray := (s ++ (⟨#[35]⟩ : ByteArray)) ++ tx (sm 7 s.data.toList)
theorem sld_data (s : ByteArray) : (sld s).data.toList = s.data.toList ++ [35] ++ Lib.itoa (sm 7 s.data.toList) := by
  unfold sld
  rw [ba_append, ba_append, tx_data]
theorem size_hash (s : ByteArray) : (s ++ (⟨#[35]⟩ : ByteArray)).size = s.size + 1 := by
  rw [ba_size, ba_append, List.length_append, ← ba_size]
  rfl
theorem sld_size (s : ByteArray) : (sld s).size = s.size + 1 + (tx (sm 7 s.data.toList)).size := by
  unfold sld
  rw [ba_size, ba_append, List.length_append, ← ba_size, ← ba_size, size_hash]

theorem sld_ev (s : ByteArray) (hs : s.size ≤ 1048576) : Ev (fun k => spec_l1Seal.f k s) (sld s) := by
  have hr := sm7 s
  have hl := tx_len (sm 7 s.data.toList) (by omega) (by omega)
  rw [← ba_size] at hl
  refine Cm.ev ?_
  unfold spec_l1Seal.f
  refine Cm.pos (by omega) (Cm.bindE (sum_ev s hs).1 (Cm.bindE (num_ev _ (by omega) (by omega)) (Cm.pos ?_ (Cm.now rfl))))
  rw [size_hash]
  omega

/-- What both hand back for a text that is to be sealed. -/
def app (s : ByteArray) : ByteArray × Bool := if s.size ≤ 4000 ∧ (35 : UInt8) ∉ s.data.toList ∧ (sld s).size ≤ 4000 then (sld s, true) else (⟨#[]⟩, false)

theorem app_spec (s : ByteArray) (hs : s.size ≤ 1048576) : Ev (fun k => spec_AppendChecksum.f k s) (app s) := by
  refine Cm.ev ?_
  unfold spec_AppendChecksum.f app
  by_cases h1 : (s.size : Int) > 4000
  · rw [if_neg (fun h => by omega)]
    exact Cm.pos h1 (Cm.now rfl)
  · refine Cm.neg h1 (Cm.bindE (stands_ev s 35 hs) ?_)
    by_cases h2 : (35 : UInt8) ∈ s.data.toList
    · rw [if_neg (fun h => h.2.1 h2), decide_eq_true h2]
      exact Cm.pos rfl (Cm.now rfl)
    · rw [decide_eq_false h2]
      refine Cm.neg (by decide) (Cm.bindE (sld_ev s hs) ?_)
      by_cases h3 : (sld s).size ≤ 4000
      · rw [if_pos ⟨by omega, h2, h3⟩]
        exact Cm.neg (by omega) (Cm.bindE (sld_ev s hs) (Cm.now rfl))
      · rw [if_neg (fun h => h3 h.2.2)]
        exact Cm.pos (by omega) (Cm.now rfl)

theorem app_impl (s : ByteArray) (hs : s.size ≤ 1048576) : Ev (fun k => impl_AppendChecksum.f k s) (app s) := by
  have hr := sm7 s
  have hl := tx_len (sm 7 s.data.toList) (by omega) (by omega)
  rw [← ba_size] at hl
  refine Cm.ev ?_
  unfold impl_AppendChecksum.f app
  have no : Cm (fun k => impl_AppendChecksum.j0 k s true) (fun z => z = (⟨#[]⟩, false)) := Cm.step (fun k => by simp only [impl_AppendChecksum.j0, if_true]; try rfl) (Cm.now rfl)
  by_cases h1 : (s.size : Int) > 4000
  · rw [if_neg (fun h => by omega)]
    exact Cm.pos h1 no
  · refine Cm.neg h1 ?_
    rw [contains_ev]
    refine Cm.bindE (Ev.now _) ?_
    by_cases h2 : (35 : UInt8) ∈ s.data.toList
    · rw [if_neg (fun h => h.2.1 h2), decide_eq_true h2]
      exact no
    · rw [decide_eq_false h2]
      refine Cm.step (fun k => by simp only [impl_AppendChecksum.j0, Bool.false_eq_true, if_false]; try rfl) ?_
      refine Cm.pos (by omega) (Cm.bindE (sum_ev s hs).2 ?_)
      unfold strconv_Itoa_19.f
      rw [if_pos ⟨by omega, by omega⟩]
      refine Cm.bindE (Ev.now _) (Cm.pos (by rw [size_hash]; show s.size + 1 + (tx (sm 7 s.data.toList)).size ≤ _; omega) ?_)
      show Cm (fun _ => if ((sld s).size : Int) > 4000 then some ((⟨#[]⟩ : ByteArray), false) else some (sld s, true)) _
      by_cases h3 : (sld s).size ≤ 4000
      · exact Cm.neg (by omega) (Cm.now (if_pos ⟨by omega, h2, h3⟩).symm)
      · exact Cm.pos (by omega) (Cm.now (if_neg (fun h => h3 h.2.2)).symm)

end Go.Proofs.YtagniekpapmdgaaDoor.Gr
