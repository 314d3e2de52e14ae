/- Graphs as a size and a list of pairs: the helpers of the laws, as they go; no conditions beyond those that each theorem names. -/
import Derived.Test.YtooboeahekdibaaPxLawA
import Derived.Test.YtooboeahekdibaaPxLawB
import Derived.Test.YtooboeahekdibaaPxSpecA
namespace Go.Proofs.Ytooboeahekdibaa.Gr
open Go.RowKit Go.Proofs.Ytooboeahekdibaa.P Go.Proofs.YtooboeahekdibaaW.PrintWords Go.Proofs.YtooboeahekdibaaW.PrintLast

theorem l1In_eq (a lo hi : Int) : spec_l1In.f a lo hi = some (decide (lo ≤ a ∧ a ≤ hi)) := by
  unfold spec_l1In.f
  by_cases h : a ≥ lo
  · rw [if_pos h]
    simp [show lo ≤ a from h]
  · rw [if_neg h]
    simp [show ¬ lo ≤ a from h]

theorem sz_big (s : Int) (l : List S59) (hl : l.length ≤ maxLen) (h : (1048576 : Int) - l.length < 0) : laws_szGraph.f s l 1048576 = some (-1) := by
  have hm : (l.length : Int) ≤ 9223372036854775807 := by have : maxLen ≤ 9223372036854775807 := by decide
                                                         omega
  have hw : wrap64 (1048576 - (l.length : Int)) = 1048576 - (l.length : Int) := by unfold wrap64; omega
  unfold laws_szGraph.f laws_szIntA2S.f
  rw [hw, if_pos h]
  rfl

theorem sz_small (s : Int) (l : List S59) (h : l.length ≤ 1048576) : laws_szGraph.f s l 1048576 = some (1048576 - (l.length : Int)) := by
  have hw : wrap64 (1048576 - (l.length : Int)) = 1048576 - (l.length : Int) := by unfold wrap64; omega
  unfold laws_szGraph.f laws_szIntA2S.f
  rw [hw, if_neg (by omega), Option.bind_some, if_neg (by omega)]

theorem sz_bigR (s : Int) (l : List S59) (left : Int) (hl : l.length ≤ maxLen) (h0 : 0 ≤ left) (h2 : left ≤ 1048576) (h : left - l.length < 0) : laws_szGraph.f s l left = some (-1) := by
  have hm : (l.length : Int) ≤ 9223372036854775807 := by have : maxLen ≤ 9223372036854775807 := by decide
                                                         omega
  have hw : wrap64 (left - (l.length : Int)) = left - (l.length : Int) := by unfold wrap64; omega
  unfold laws_szGraph.f laws_szIntA2S.f
  rw [hw, if_pos h]
  rfl

theorem sz_smallR (s : Int) (l : List S59) (left : Int) (h2 : left ≤ 1048576) (h : ¬ left - l.length < 0) : laws_szGraph.f s l left = some (left - (l.length : Int)) := by
  have hw : wrap64 (left - (l.length : Int)) = left - (l.length : Int) := by unfold wrap64; omega
  unfold laws_szGraph.f laws_szIntA2S.f
  rw [hw, if_neg h, Option.bind_some, if_neg h]

theorem sz_ev {a : Option Int} {r : Int} (h : a = some r) : Ev (fun _ => a) r := ⟨0, fun _ _ => h⟩

theorem rd_lt (l : List S59) (i : Int) (h0 : 0 ≤ i) (h1 : i < l.length) : l[i.toNat]? = some (rd_T59 l i) := by
  unfold rd_T59
  rw [List.getD_eq_getElem?_getD, List.getElem?_eq_getElem (by omega)]
  rfl

theorem to_ev (l : List S59) (hl : l.length ≤ 1048576) : ∀ (d : Nat) (m : List S59) (i : Int), 0 ≤ i → (l.length : Int) - i = d → m.length = l.length →
    (∀ j : Nat, (j : Int) < i → m[j]? = l[j]?) → Ev (fun k => laws_toIntA2S.l0 k l m i) l := by
  intro d
  induction d with
  | zero =>
    intro m i hi hd hm he
    have hn : ¬ i < (l.length : Int) := by omega
    have e : m = l := by
      apply List.ext_getElem?
      intro j
      by_cases hj : j < l.length
      · exact he j (by omega)
      · rw [List.getElem?_eq_none (by omega), List.getElem?_eq_none (by omega)]
    refine Ev.step (f := fun _ => some l) (fun k => ?_) (Ev.now l)
    simp only [laws_toIntA2S.l0]
    rw [if_neg hn, e]
  | succ d ih =>
    intro m i hi hd hm he
    have hp : i < (l.length : Int) := by omega
    have hw : wrap64 (i + 1) = i + 1 := by unfold wrap64; omega
    have h := ih (m.set i.toNat (rd_T59 l i)) (i + 1) (by omega) (by omega) (by simp [hm]) (fun j hj => by
      by_cases hji : j = i.toNat
      · subst hji
        rw [List.getElem?_set_self (by omega)]
        exact (rd_lt l i hi hp).symm
      · rw [List.getElem?_set_ne (fun e => hji e.symm)]
        exact he j (by omega))
    refine Ev.step (fun k => ?_) h
    simp only [laws_toIntA2S.l0, laws_toIntA2.f, Option.bind_some]
    rw [if_pos hp, if_pos hi, if_pos (by omega), hw]

theorem toPairs_ev (l : List S59) (hl : l.length ≤ 1048576) : Ev (fun k => laws_toIntA2S.f k l) l := by
  obtain ⟨K, hK⟩ := to_ev l hl l.length (List.replicate l.length z59) 0 (by omega) (by omega) (by simp) (fun j hj => by omega)
  refine ⟨K, fun k hk => ?_⟩
  show laws_toIntA2S.f k l = _
  unfold laws_toIntA2S.f
  rw [if_pos (by omega), if_pos (by omega)]
  exact hK k hk

theorem toGraph_ev (s : Int) (l : List S59) (hl : l.length ≤ 1048576) : Ev (fun k => laws_toGraph.f k s l) (s, l) := by
  obtain ⟨K, hK⟩ := toPairs_ev l hl
  dsimp only at hK
  exact ⟨K, fun k hk => by show laws_toGraph.f k s l = _; unfold laws_toGraph.f; rw [hK k hk]; rfl⟩

theorem eq_ev (l : List S59) (hl : l.length ≤ 1048576) : ∀ (d : Nat) (i : Int), 0 ≤ i → (l.length : Int) - i = d → Ev (fun k => laws_eqIntA2S.l0 k l l i) true := by
  intro d
  induction d with
  | zero =>
    intro i hi hd
    refine Ev.step (f := fun _ => some true) (fun k => ?_) (Ev.now true)
    simp only [laws_eqIntA2S.l0]
    rw [if_neg (by omega)]
  | succ d ih =>
    intro i hi hd
    have hp : i < (l.length : Int) := by omega
    have hw : wrap64 (i + 1) = i + 1 := by unfold wrap64; omega
    refine Ev.step (fun k => ?_) (ih (i + 1) (by omega) (by omega))
    simp only [laws_eqIntA2S.l0, laws_eqIntA2.f, if_pos hp, if_pos hi, hw, if_true, Option.bind_some]

theorem eqGraph_ev (s : Int) (l : List S59) (hl : l.length ≤ 1048576) : Ev (fun k => laws_eqGraph.f k s l s l) true := by
  obtain ⟨K, hK⟩ := eq_ev l hl l.length 0 (by omega) (by omega)
  dsimp only at hK
  refine ⟨K, fun k hk => ?_⟩
  show laws_eqGraph.f k s l s l = _
  unfold laws_eqGraph.f laws_eqIntA2S.f
  rw [if_pos rfl, if_pos rfl, hK k hk]
  rfl

end Go.Proofs.Ytooboeahekdibaa.Gr
