/- Lists of nodes: copies, and the test of a rising list within the graph, by both; no conditions beyond those that each theorem names. -/
import Derived.Test.YtooboeahekdibaaGrH
import Derived.Test.YtooboeahekdibaaGrI
import Derived.Test.YtooboeahekdibaaPx0
import Derived.Test.YtooboeahekdibaaPxImplA
import Derived.Test.YtooboeahekdibaaPxLawA
namespace Go.Proofs.Ytooboeahekdibaa.Gr
open Go.RowKit Go.Proofs.Ytooboeahekdibaa.P Go.Proofs.YtooboeahekdibaaW.PrintWords Go.Proofs.YtooboeahekdibaaW.PrintLast

theorem rd_ltI (l : List Int) (i : Int) (h0 : 0 ≤ i) (h1 : i < l.length) : l[i.toNat]? = some (rd l i) := by
  unfold rd
  rw [List.getD_eq_getElem?_getD, List.getElem?_eq_getElem (by omega)]
  rfl

theorem toI_loop (l : List Int) (hl : l.length ≤ 1048576) : ∀ (d : Nat) (m : List Int) (i : Int), 0 ≤ i → (l.length : Int) - i = d → m.length = l.length →
    (∀ j : Nat, (j : Int) < i → m[j]? = l[j]?) → Ev (fun k => laws_toIntS.l0 k l m i) l := by
  intro d
  induction d with
  | zero =>
    intro m i hi hd hm he
    have e : m = l := by
      apply List.ext_getElem?
      intro j
      by_cases hj : j < l.length
      · exact he j (by omega)
      · rw [List.getElem?_eq_none (by omega), List.getElem?_eq_none (by omega)]
    refine Ev.step (f := fun _ => some l) (fun k => ?_) (Ev.now l)
    simp only [laws_toIntS.l0]
    rw [if_neg (by omega), e]
  | succ d ih =>
    intro m i hi hd hm he
    have hp : i < (l.length : Int) := by omega
    have hw : wrap64 (i + 1) = i + 1 := by unfold wrap64; omega
    have h := ih (m.set i.toNat (rd l i)) (i + 1) (by omega) (by omega) (by simp [hm]) (fun j hj => by
      by_cases hji : j = i.toNat
      · subst hji
        rw [List.getElem?_set_self (by omega)]
        exact (rd_ltI l i hi hp).symm
      · rw [List.getElem?_set_ne (fun e => hji e.symm)]
        exact he j (by omega))
    refine Ev.step (fun k => ?_) h
    simp only [laws_toIntS.l0]
    rw [if_pos hp, if_pos hi, if_pos (by omega), hw]

theorem toI_ev (l : List Int) (hl : l.length ≤ 1048576) : Ev (fun k => laws_toIntS.f k l) l := by
  obtain ⟨K, hK⟩ := toI_loop l hl l.length (List.replicate l.length 0) 0 (by omega) (by omega) (by simp) (fun j hj => by omega)
  refine ⟨K, fun k hk => ?_⟩
  show laws_toIntS.f k l = _
  unfold laws_toIntS.f
  rw [if_pos (by omega), if_pos (by omega)]
  exact hK k hk

/-- All within 0 .. hi, from i on. -/
def inF (L : List Int) (hi : Int) : Nat → Int → Bool
  | 0, _ => true
  | d + 1, i => decide (0 ≤ rd L i ∧ rd L i ≤ hi) && inF L hi d (i + 1)
/-- Each greater than the one before. -/
def upF (L : List Int) : Nat → Int → Bool
  | 0, _ => true
  | d + 1, i => decide (i ≤ 0 ∨ rd L (i - 1) < rd L i) && upF L d (i + 1)

theorem inF_all (L : List Int) (hi : Int) : ∀ (d : Nat) (i : Int), inF L hi d i = true → ∀ j : Int, i ≤ j → j < i + d → 0 ≤ rd L j ∧ rd L j ≤ hi
  | 0, i, _, j, h1, h2 => by omega
  | d + 1, i, h, j, h1, h2 => by
    unfold inF at h
    rw [Bool.and_eq_true, decide_eq_true_eq] at h
    by_cases e : j = i
    · subst e; exact h.1
    · exact inF_all L hi d (i + 1) h.2 j (by omega) (by omega)
theorem upF_all (L : List Int) : ∀ (d : Nat) (i : Int), upF L d i = true → ∀ j : Int, i ≤ j → 0 < j → j < i + d → rd L (j - 1) < rd L j
  | 0, i, _, j, h1, _, h2 => by omega
  | d + 1, i, h, j, h1, h0, h2 => by
    unfold upF at h
    rw [Bool.and_eq_true, decide_eq_true_eq] at h
    by_cases e : j = i
    · subst e
      rcases h.1 with h' | h'
      · omega
      · exact h'
    · exact upF_all L d (i + 1) h.2 j (by omega) h0 (by omega)

theorem within_ev (L : List Int) (hi : Int) (hl : L.length ≤ 1048576) : ∀ (d : Nat) (i : Int), 0 ≤ i → (L.length : Int) - i = d → Ev (fun k => impl_allWithin.l0 k 0 hi L L.length i) (inF L hi d i) := by
  intro d
  induction d with
  | zero =>
    intro i h0 hd
    refine Ev.step (f := fun _ => some (inF L hi 0 i)) (fun k => ?_) (Ev.now _)
    simp only [impl_allWithin.l0]
    rw [if_neg (by omega)]
    rfl
  | succ d ih =>
    intro i h0 hd
    have hw : wrap64 (i + 1) = i + 1 := by unfold wrap64; omega
    have hr := ih (i + 1) (by omega) (by omega)
    by_cases hc : 0 ≤ rd L i ∧ rd L i ≤ hi
    · have e : inF L hi (d + 1) i = inF L hi d (i + 1) := by
        conv => lhs; unfold inF
        rw [decide_eq_true hc, Bool.true_and]
      rw [e]
      refine Ev.step (fun k => ?_) hr
      simp only [impl_allWithin.l0, within_eq, Option.bind_some, decide_eq_true_eq, hw]
      rw [if_pos (by omega), if_pos h0, if_pos (by omega), if_pos hc]
    · have e : inF L hi (d + 1) i = false := by
        conv => lhs; unfold inF
        rw [decide_eq_false hc, Bool.false_and]
      rw [e]
      refine Ev.step (f := fun _ => some false) (fun k => ?_) (Ev.now _)
      simp only [impl_allWithin.l0, within_eq, Option.bind_some, decide_eq_true_eq]
      rw [if_pos (by omega), if_pos h0, if_pos (by omega), if_neg hc]

/-- A rising list of nodes. -/
def isSetF (L : List Int) (s : Int) : Bool := inF L (s - 1) L.length 0 && upF L L.length 0
theorem hasNodes_ev (s : Int) (l : List S59) (L : List Int) (hl : L.length ≤ 1048576) (hG : Good s l) (hI : Ev (fun k => impl_IsGraph.f k s l) true) : Ev (fun k => impl_hasNodes.f k s l L) (inF L (s - 1) L.length 0) := by
  have h8 := hG.2.1
  have h0 := hG.1
  have hw : wrap64 (s - 1) = s - 1 := by unfold wrap64; omega
  refine Ev.bind hI (Ev.congr (f := fun k => (impl_allWithin.f k L 0 (wrap64 (s - 1))).bind fun t => some t) (fun k => ?_) (Ev.bind (a := inF L (s - 1) L.length 0) ?_ (Ev.now _)))
  · rw [if_pos rfl]
  · rw [hw]
    exact within_ev L (s - 1) hl L.length 0 (by omega) (by omega)
theorem set_mem (L : List Int) (s : Int) (h : isSetF L s = true) (x : Int) (h0 : 0 ≤ x) (h1 : x < L.length) : 0 ≤ rd L x ∧ rd L x < s := by
  unfold isSetF at h
  rw [Bool.and_eq_true] at h
  have := inF_all L (s - 1) L.length 0 h.1 x h0 (by omega)
  omega
theorem set_ge (L : List Int) (s : Int) (h : isSetF L s = true) : ∀ (n : Nat), n < L.length → (n : Int) ≤ rd L n := by
  intro n
  induction n with
  | zero =>
    intro hn
    exact (set_mem L s h 0 (by omega) (by omega)).1
  | succ n ih =>
    intro hn
    have h1 := ih (by omega)
    have h' := h
    unfold isSetF at h'
    rw [Bool.and_eq_true] at h'
    have h2 := upF_all L L.length 0 h'.2 ((n + 1 : Nat) : Int) (by omega) (by omega) (by omega)
    rw [show (((n + 1 : Nat) : Int) - 1) = (n : Int) by omega] at h2
    omega
theorem set_len (L : List Int) (s : Int) (h : isSetF L s = true) (h8 : s ≤ 8) : L.length ≤ 8 := by
  by_cases hz : L.length = 0
  · omega
  · have h1 := set_ge L s h (L.length - 1) (by omega)
    have h2 := (set_mem L s h ((L.length - 1 : Nat) : Int) (by omega) (by omega)).2
    omega

end Go.Proofs.Ytooboeahekdibaa.Gr
