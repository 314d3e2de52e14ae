/- A sealed text with one byte changed is not opened; no conditions beyond those that each theorem names. -/
import Derived.Test.YtagniekpapmdgaaDoorGrSv
import Derived.Test.YtagniekpapmdgaaDoorGrPi
namespace Go.Proofs.YtagniekpapmdgaaDoor.Gr
open Go.RowKit Go.Proofs.YtagniekpapmdgaaDoor.P Go.Proofs.YtagniekpapmdgaaDoorW.PrintWords Go.Proofs.YtagniekpapmdgaaDoorW.PrintLast

theorem sm_start : ∀ (l : List UInt8) (h g : Int), 0 ≤ h → h < 999979 → 0 ≤ g → g < 999979 → sm h l = sm g l → h = g
  | [], _, _, _, _, _, _, e => e
  | b :: l, h, g, h0, h1, g0, g1, e => by
    have := sm_start l ((41 * h + (b.toNat : Int) + 1) % 999979) ((41 * g + (b.toNat : Int) + 1) % 999979) (by omega) (by omega) (by omega) (by omega) e
    omega
theorem sm_one : ∀ (l : List UInt8) (k : Nat) (v : UInt8) (h : Int) (hk : k < l.length), 0 ≤ h → h < 999979 → sm h (l.set k v) = sm h l → v = l[k]
  | b :: l, 0, v, h, _, h0, h1, e => by
    have := sm_start l ((41 * h + (v.toNat : Int) + 1) % 999979) ((41 * h + (b.toNat : Int) + 1) % 999979) (by omega) (by omega) (by omega) (by omega) e
    have hv := v.toNat_lt
    have hb := b.toNat_lt
    show v = b
    exact UInt8.toNat_inj.1 (by omega)
  | b :: l, k + 1, v, h, hk, h0, h1, e => by
    show v = l[k]'(by simpa using hk)
    exact sm_one l k v ((41 * h + (b.toNat : Int) + 1) % 999979) (by simpa using hk) (by omega) (by omega) e

theorem itoa_pos (n : Int) (h : 0 ≤ n) : Lib.itoa n = Lib.decDigits n.toNat := by
  unfold Lib.itoa
  rw [if_neg (by omega)]
theorem no_hash (n : Int) (h : 0 ≤ n) : (35 : UInt8) ∉ Lib.itoa n := by
  rw [itoa_pos n h]
  intro hm
  obtain ⟨d, hd⟩ := dec_byte _ _ hm
  rw [show Lib.digitVal 35 = none from rfl] at hd
  cases hd
theorem itoa_inj {a b : Int} (a0 : 0 ≤ a) (a1 : a < 999979) (b0 : 0 ≤ b) (b1 : b < 999979) (h : Lib.itoa a = Lib.itoa b) : a = b := by
  have h1 := read_itoa a (by omega) (by omega)
  have h2 := read_itoa b (by omega) (by omega)
  rw [h] at h1
  rw [h1] at h2
  injection h2
theorem cut_one {p q p' q' : List UInt8} (h : (35 : UInt8) ∉ p) (h' : (35 : UInt8) ∉ p') (e : p ++ 35 :: q = p' ++ 35 :: q') : p = p' ∧ q = q' := by
  have h1 := cut_some (q := q) h
  rw [e, cut_some h'] at h1
  injection h1 with e1 e2
  injection e2 with e3 _
  exact ⟨e1.symm, e3.symm⟩

/-- A sealed list with one byte set, that is sealed again, is as it was. -/
theorem seal_one (x t D E : List UInt8) (hx : (35 : UInt8) ∉ x) (ht : (35 : UInt8) ∉ t) (hD : (35 : UInt8) ∉ D) (hE : (35 : UInt8) ∉ E) (hs : D = E → sm 7 x = sm 7 t) (hxt : x = t → D = E) (k : Nat) (v : UInt8) (hk : k < (x ++ 35 :: D).length) (e : (x ++ 35 :: D).set k v = t ++ 35 :: E) : v = (x ++ 35 :: D)[k] := by
  by_cases h1 : k < x.length
  · rw [List.getElem_append_left h1]
    rw [List.set_append_left _ _ h1] at e
    by_cases hv : v = 35
    · subst hv
      rw [List.set_eq_take_append_cons_drop, if_pos h1, List.append_assoc, List.cons_append] at e
      obtain ⟨_, e2⟩ := cut_one (fun h => hx (List.mem_of_mem_take h)) ht e
      exact (hE (e2 ▸ by simp)).elim
    · have hn : (35 : UInt8) ∉ x.set k v := fun h => by
        rcases List.mem_or_eq_of_mem_set h with h | h
        · exact hx h
        · exact hv h.symm
      obtain ⟨e1, e2⟩ := cut_one hn ht e
      refine sm_one x k v 7 h1 (by omega) (by omega) ?_
      rw [e1, hs e2]
  · have h2 : x.length ≤ k := by omega
    rw [List.getElem_append_right h2]
    rw [List.set_append_right _ _ h2] at e
    by_cases h3 : k = x.length
    · have hz : k - x.length = 0 := by omega
      simp only [hz, List.getElem_cons_zero]
      rw [hz, List.set_cons_zero] at e
      by_cases hv : v = 35
      · exact hv
      · have : (35 : UInt8) ∈ x ++ v :: D := by rw [e]; simp
        rcases List.mem_append.1 this with h | h
        · exact (hx h).elim
        · rcases List.mem_cons.1 h with h | h
          · exact h.symm
          · exact (hD h).elim
    · obtain ⟨j, hj⟩ : ∃ j, k - x.length = j + 1 := ⟨k - x.length - 1, by omega⟩
      rw [hj, List.set_cons_succ] at e
      obtain ⟨e1, e2⟩ := cut_one hx ht e
      have hDE := hxt e1
      rw [List.length_append, List.length_cons] at hk
      have hjl : j < D.length := by omega
      simp only [hj, List.getElem_cons_succ]
      have e3 : (D.set j v)[j]'(by rw [List.length_set]; exact hjl) = D[j] := by
        have : D.set j v = D := e2.trans hDE.symm
        simp only [this]
      rw [List.getElem_set_self] at e3
      exact e3

/-- A sealed text with one byte changed is not opened. -/
theorem opn_spoilt (x y : ByteArray) (hx : (35 : UInt8) ∉ x.data.toList) (k : Nat) (v : UInt8) (hk : k < (sld x).data.toList.length) (hv : v ≠ (sld x).data.toList[k]) (e : y.data.toList = (sld x).data.toList.set k v) : opn y = (⟨#[]⟩, false) := by
  have r1 := sm7 x
  have r2 := sm7 (ahead y)
  refine if_neg (fun h => hv ?_)
  have hy : (sld (ahead y)).data.toList = y.data.toList := by rw [h.2]
  have ha : (35 : UInt8) ∉ (ahead y).data.toList := by
    rw [ahead_data]
    rcases cut_cases y.data.toList with h1 | ⟨p, q, h1, h2⟩
    · refine (h1 ?_).elim
      rw [← hy, sld_data]
      simp
    · rw [h1, cut_some h2]; exact h2
  rw [e, sld_data] at hy
  simp only [sld_data, List.append_assoc, List.singleton_append] at hy hk ⊢
  exact seal_one _ _ _ _ hx ha (no_hash _ r1.1) (no_hash _ r2.1) (fun h => itoa_inj r1.1 r1.2 r2.1 r2.2 h) (fun h => by rw [h]) k v hk hy.symm

end Go.Proofs.YtagniekpapmdgaaDoor.Gr
