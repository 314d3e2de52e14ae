/- Lists of whole numbers: copies, and marks; no conditions beyond those that each theorem names. -/
import Derived.Test.YtooboeahekdibaaGrI
import Derived.Test.YtooboeahekdibaaGrC
import Derived.Test.YtooboeahekdibaaPxLawA
namespace Go.Proofs.Ytooboeahekdibaa.Gr
open Go.RowKit Go.Proofs.Ytooboeahekdibaa.P Go.Proofs.YtooboeahekdibaaW.PrintWords Go.Proofs.YtooboeahekdibaaW.PrintLast

theorem rd_ltI (l : List Int) (i : Int) (h0 : 0 ≤ i) (h1 : i < l.length) : l[i.toNat]? = some (rd l i) := by
  unfold rd
  rw [List.getD_eq_getElem?_getD, List.getElem?_eq_getElem (by omega)]
  rfl

theorem toI_loop (l : List Int) (hl : l.length ≤ 1048576) : ∀ (d : Nat) (m : List Int) (i : Int), 0 ≤ i → (l.length : Int) - i = d → m.length = l.length →
    (∀ j : Nat, (j : Int) < i → m[j]? = l[j]?) → Ev (fun k => laws_toIntS.l0 k l m i) l := by
  intro d
  induction d with
  | zero =>
    intro m i hi hd hm he
    have e : m = l := by
      apply List.ext_getElem?
      intro j
      by_cases hj : j < l.length
      · exact he j (by omega)
      · rw [List.getElem?_eq_none (by omega), List.getElem?_eq_none (by omega)]
    refine Ev.step (f := fun _ => some l) (fun k => ?_) (Ev.now l)
    simp only [laws_toIntS.l0]
    rw [if_neg (by omega), e]
  | succ d ih =>
    intro m i hi hd hm he
    have hp : i < (l.length : Int) := by omega
    have hw : wrap64 (i + 1) = i + 1 := by unfold wrap64; omega
    have h := ih (m.set i.toNat (rd l i)) (i + 1) (by omega) (by omega) (by simp [hm]) (fun j hj => by
      by_cases hji : j = i.toNat
      · subst hji
        rw [List.getElem?_set_self (by omega)]
        exact (rd_ltI l i hi hp).symm
      · rw [List.getElem?_set_ne (fun e => hji e.symm)]
        exact he j (by omega))
    refine Ev.step (fun k => ?_) h
    simp only [laws_toIntS.l0]
    rw [if_pos hp, if_pos hi, if_pos (by omega), hw]

theorem toI_ev (l : List Int) (hl : l.length ≤ 1048576) : Ev (fun k => laws_toIntS.f k l) l := by
  obtain ⟨K, hK⟩ := toI_loop l hl l.length (List.replicate l.length 0) 0 (by omega) (by omega) (by simp) (fun j hj => by omega)
  refine ⟨K, fun k hk => ?_⟩
  show laws_toIntS.f k l = _
  unfold laws_toIntS.f
  rw [if_pos (by omega), if_pos (by omega)]
  exact hK k hk

theorem markI_at (l : List Int) (m : Int) (hl : l.length ≤ 1048576) (h0 : 0 ≤ m) (h1 : m + (l.length : Int) ≤ 4294967296) : ∃ r : List Int, Ev (fun k => laws_markIntS.f k l m) (m + (l.length : Int), r) := by
  obtain ⟨r, _, _, _, K, hK⟩ := markI_loop l.length l m 0 hl (by omega) (by omega) h0 h1
  exact ⟨r, K, hK⟩

end Go.Proofs.Ytooboeahekdibaa.Gr
