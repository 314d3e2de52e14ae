/- Functions of the program as Lean functions, that each call comes to what they say, and what holds of them; part 9 of 9; no conditions beyond those that each theorem names. -/
import Derived.KernelRfl
import Derived.Laws.BitsLemmas
import Derived.Test.YtcjddikalgnhpaaK1
import Derived.Test.YtcjddikalgnhpaaK2
import Derived.Test.YtcjddikalgnhpaaK3
import Derived.Test.YtcjddikalgnhpaaK4
import Derived.Test.YtcjddikalgnhpaaK5
import Derived.Test.YtcjddikalgnhpaaK6
import Derived.Test.YtcjddikalgnhpaaK7
import Derived.Test.YtcjddikalgnhpaaK8
namespace Go.Proofs.Ytcjddikalgnhpaa.Gr
open Go.RowKit Go.Proofs.Ytcjddikalgnhpaa.P Go.Proofs.YtcjddikalgnhpaaW.PrintWords Go.Proofs.YtcjddikalgnhpaaW.PrintLast
theorem l1In_eq (a lo hi : Int) : spec_l1In.f a lo hi = some (decide (lo ≤ a ∧ a ≤ hi)) := by
  unfold spec_l1In.f
  by_cases h : a ≥ lo
  · rw [if_pos h]
    simp [show lo ≤ a from h]
  · rw [if_neg h]
    simp [show ¬ lo ≤ a from h]
theorem sz_big (s : Int) (l : List S71) (hl : l.length ≤ maxLen) (h : (1048576 : Int) - l.length < 0) : laws_szGraph.f s l 1048576 = some (-1) := by
  have hm : (l.length : Int) ≤ 9223372036854775807 := by have : maxLen ≤ 9223372036854775807 := by decide
                                                         omega
  have hw : wrap64 (1048576 - (l.length : Int)) = 1048576 - (l.length : Int) := by unfold wrap64; omega
  unfold laws_szGraph.f laws_szIntA2S.f
  rw [hw, if_pos h]
  rfl
theorem sz_small (s : Int) (l : List S71) (h : l.length ≤ 1048576) : laws_szGraph.f s l 1048576 = some (1048576 - (l.length : Int)) := by
  have hw : wrap64 (1048576 - (l.length : Int)) = 1048576 - (l.length : Int) := by unfold wrap64; omega
  unfold laws_szGraph.f laws_szIntA2S.f
  rw [hw, if_neg (by omega), Option.bind_some, if_neg (by omega)]
theorem sz_ev {a : Option Int} {r : Int} (h : a = some r) : Ev (fun _ => a) r := ⟨0, fun _ _ => h⟩
theorem rd_lt (l : List S71) (i : Int) (h0 : 0 ≤ i) (h1 : i < l.length) : l[i.toNat]? = some (rd_T71 l i) := by
  unfold rd_T71
  rw [List.getD_eq_getElem?_getD, List.getElem?_eq_getElem (by omega)]
  rfl
theorem to_ev (l : List S71) (hl : l.length ≤ 1048576) : ∀ (d : Nat) (m : List S71) (i : Int), 0 ≤ i → (l.length : Int) - i = d → m.length = l.length →
    (∀ j : Nat, (j : Int) < i → m[j]? = l[j]?) → Ev (fun k => laws_toIntA2S.l0 k l m i) l := by
  intro d
  induction d with
  | zero =>
    intro m i hi hd hm he
    have hn : ¬ i < (l.length : Int) := by omega
    have e : m = l := by
      apply List.ext_getElem?
      intro j
      by_cases hj : j < l.length
      · exact he j (by omega)
      · rw [List.getElem?_eq_none (by omega), List.getElem?_eq_none (by omega)]
    refine Ev.step (f := fun _ => some l) (fun k => ?_) (Ev.now l)
    simp only [laws_toIntA2S.l0]
    rw [if_neg hn, e]
  | succ d ih =>
    intro m i hi hd hm he
    have hp : i < (l.length : Int) := by omega
    have hw : wrap64 (i + 1) = i + 1 := by unfold wrap64; omega
    have h := ih (m.set i.toNat (rd_T71 l i)) (i + 1) (by omega) (by omega) (by simp [hm]) (fun j hj => by
      by_cases hji : j = i.toNat
      · subst hji
        rw [List.getElem?_set_self (by omega)]
        exact (rd_lt l i hi hp).symm
      · rw [List.getElem?_set_ne (fun e => hji e.symm)]
        exact he j (by omega))
    refine Ev.step (fun k => ?_) h
    simp only [laws_toIntA2S.l0, laws_toIntA2.f, Option.bind_some]
    rw [if_pos hp, if_pos hi, if_pos (by omega), hw]
theorem toPairs_ev (l : List S71) (hl : l.length ≤ 1048576) : Ev (fun k => laws_toIntA2S.f k l) l := by
  obtain ⟨K, hK⟩ := to_ev l hl l.length (List.replicate l.length z71) 0 (by omega) (by omega) (by simp) (fun j hj => by omega)
  refine ⟨K, fun k hk => ?_⟩
  show laws_toIntA2S.f k l = _
  unfold laws_toIntA2S.f
  rw [if_pos (by omega), if_pos (by omega)]
  exact hK k hk
theorem toGraph_ev (s : Int) (l : List S71) (hl : l.length ≤ 1048576) : Ev (fun k => laws_toGraph.f k s l) (s, l) := by
  obtain ⟨K, hK⟩ := toPairs_ev l hl
  dsimp only at hK
  exact ⟨K, fun k hk => by show laws_toGraph.f k s l = _; unfold laws_toGraph.f; rw [hK k hk]; rfl⟩
theorem eq_ev (l : List S71) (hl : l.length ≤ 1048576) : ∀ (d : Nat) (i : Int), 0 ≤ i → (l.length : Int) - i = d → Ev (fun k => laws_eqIntA2S.l0 k l l i) true := by
  intro d
  induction d with
  | zero =>
    intro i hi hd
    refine Ev.step (f := fun _ => some true) (fun k => ?_) (Ev.now true)
    simp only [laws_eqIntA2S.l0]
    rw [if_neg (by omega)]
  | succ d ih =>
    intro i hi hd
    have hp : i < (l.length : Int) := by omega
    have hw : wrap64 (i + 1) = i + 1 := by unfold wrap64; omega
    refine Ev.step (fun k => ?_) (ih (i + 1) (by omega) (by omega))
    simp only [laws_eqIntA2S.l0, laws_eqIntA2.f, if_pos hp, if_pos hi, hw, if_true, Option.bind_some]
theorem eqGraph_ev (s : Int) (l : List S71) (hl : l.length ≤ 1048576) : Ev (fun k => laws_eqGraph.f k s l s l) true := by
  obtain ⟨K, hK⟩ := eq_ev l hl l.length 0 (by omega) (by omega)
  dsimp only at hK
  refine ⟨K, fun k hk => ?_⟩
  show laws_eqGraph.f k s l s l = _
  unfold laws_eqGraph.f laws_eqIntA2S.f
  rw [if_pos rfl, if_pos rfl, hK k hk]
  rfl
theorem pcmp_iff (a b : S71) : 0 ≤ pcmp a b ↔ ¬ (a.f0 < b.f0 ∨ (a.f0 = b.f0 ∧ a.f1 < b.f1)) := by
  unfold pcmp
  by_cases c1 : a.f0 < b.f0
  · simp [c1]
  · by_cases c2 : a.f0 > b.f0
    · have h : ¬ a.f0 = b.f0 := by omega
      simp [c1, c2, h]
    · have h : a.f0 = b.f0 := by omega
      by_cases c3 : a.f1 < b.f1
      · simp [c3, h]
      · by_cases c4 : a.f1 > b.f1
        · simp [c3, c4, h]
        · simp [c3, c4, h]
theorem before_eq (a b c d : Int) : spec_l2Before.f a b c d = some (decide (a < c ∨ (a = c ∧ b < d))) := by
  unfold spec_l2Before.f
  by_cases c1 : a < c
  · simp [c1]
  · by_cases c2 : a = c
    · subst c2
      simp
    · simp [c1, c2]
theorem good_both (l : List S71) (s : Int) (h0 : 0 ≤ s) (h8 : s ≤ 8) (hl : l.length ≤ 1048576) : ∀ (d : Nat) (i : Int), 0 ≤ i → (l.length : Int) - i = d →
    ∃ b, (b = true → ∀ j : Int, i ≤ j → j < l.length → 0 ≤ (rd_T71 l j).f0 ∧ (rd_T71 l j).f0 < (rd_T71 l j).f1 ∧ (rd_T71 l j).f1 < s ∧ (0 < j → (rd_T71 l (j - 1)).f0 < (rd_T71 l j).f0 ∨ ((rd_T71 l (j - 1)).f0 = (rd_T71 l j).f0 ∧ (rd_T71 l (j - 1)).f1 < (rd_T71 l j).f1))) ∧ Ev (fun k => spec_l2Good.l0 k i s l) b ∧ Ev (fun k => impl_IsGraph.l0 k l s i) b := by
  intro d
  induction d with
  | zero =>
    intro i hi hd
    have hn : ¬ i < (l.length : Int) := by omega
    refine ⟨true, fun _ j h1 h2 => by omega, Ev.step (f := fun _ => some true) (fun k => ?_) (Ev.now true), Ev.step (f := fun _ => some true) (fun k => ?_) (Ev.now true)⟩
    · simp only [spec_l2Good.l0]
      rw [if_neg hn, l1In_eq, Option.bind_some, decide_eq_true ⟨h0, h8⟩]
    · simp only [impl_IsGraph.l0]
      rw [if_neg hn]
  | succ d ih =>
    intro i hi hd
    have hp : i < (l.length : Int) := by omega
    obtain ⟨b, hg, hs, hm⟩ := ih (i + 1) (by omega) (by omega)
    have hw : wrap64 (i + 1) = i + 1 := by unfold wrap64; omega
    have hw1 : wrap64 (i - 1) = i - 1 := by unfold wrap64; omega
    have hw2 : wrap64 (s - 1) = s - 1 := by unfold wrap64; omega
    have no : ∀ k, (0 ≤ (rd_T71 l i).f0 ∧ (rd_T71 l i).f0 < (rd_T71 l i).f1 ∧ (rd_T71 l i).f1 < s ∧ (0 < i → (rd_T71 l (i - 1)).f0 < (rd_T71 l i).f0 ∨ ((rd_T71 l (i - 1)).f0 = (rd_T71 l i).f0 ∧ (rd_T71 l (i - 1)).f1 < (rd_T71 l i).f1))) ∨
        (spec_l2Good.l0 (k + 1) i s l = some false ∧ impl_IsGraph.l0 (k + 1) l s i = some false) := by
      intro k
      simp only [spec_l2Good.l0, impl_IsGraph.l0, l1In_eq, before_eq, hw, hw1, hw2, pcmp_iff, if_pos hp, if_pos hi, Option.bind_some, decide_eq_true_eq]
      by_cases c1 : 0 ≤ (rd_T71 l i).f0
      · by_cases c2 : (rd_T71 l i).f0 < (rd_T71 l i).f1
        · by_cases c3 : (rd_T71 l i).f1 < s
          · by_cases c4 : 0 < i
            · by_cases c5 : (rd_T71 l (i - 1)).f0 < (rd_T71 l i).f0 ∨ ((rd_T71 l (i - 1)).f0 = (rd_T71 l i).f0 ∧ (rd_T71 l (i - 1)).f1 < (rd_T71 l i).f1)
              · exact .inl ⟨c1, c2, c3, fun _ => c5⟩
              · right
                rw [if_pos ⟨c1, by omega⟩, if_pos ⟨by omega, by omega⟩, if_neg (by omega), if_pos c4, if_pos (by omega), if_pos (by omega), if_neg c5, if_neg (by omega), if_neg (by omega), if_neg (by omega), if_pos c4, if_pos c5]
                exact ⟨rfl, rfl⟩
            · exact .inl ⟨c1, c2, c3, fun h => absurd h c4⟩
          · right
            refine ⟨?_, ?_⟩
            · by_cases c6 : 0 ≤ (rd_T71 l i).f0 ∧ (rd_T71 l i).f0 ≤ s - 1
              · rw [if_pos c6, if_neg (by omega)]
              · rw [if_neg c6]
            · rw [if_neg (by omega), if_neg (by omega), if_pos (by omega)]
        · right
          refine ⟨?_, ?_⟩
          · by_cases c6 : 0 ≤ (rd_T71 l i).f0 ∧ (rd_T71 l i).f0 ≤ s - 1
            · rw [if_pos c6]
              by_cases c7 : 0 ≤ (rd_T71 l i).f1 ∧ (rd_T71 l i).f1 ≤ s - 1
              · rw [if_pos c7, if_pos (by omega)]
              · rw [if_neg c7]
            · rw [if_neg c6]
          · rw [if_neg (by omega), if_pos (by omega)]
      · right
        rw [if_neg (by omega), if_pos (by omega)]
        exact ⟨rfl, rfl⟩
    by_cases hc : 0 ≤ (rd_T71 l i).f0 ∧ (rd_T71 l i).f0 < (rd_T71 l i).f1 ∧ (rd_T71 l i).f1 < s ∧ (0 < i → (rd_T71 l (i - 1)).f0 < (rd_T71 l i).f0 ∨ ((rd_T71 l (i - 1)).f0 = (rd_T71 l i).f0 ∧ (rd_T71 l (i - 1)).f1 < (rd_T71 l i).f1))
    · obtain ⟨c1, c2, c3, c5⟩ := hc
      refine ⟨b, fun hb j h1 h2 => ?_, Ev.step (fun k => ?_) hs, Ev.step (fun k => ?_) hm⟩
      · by_cases hj : j = i
        · subst hj
          exact ⟨c1, c2, c3, c5⟩
        · exact hg hb j (by omega) h2
      · simp only [spec_l2Good.l0, l1In_eq, before_eq, hw, hw1, hw2, if_pos hp, if_pos hi, Option.bind_some, decide_eq_true_eq]
        rw [if_pos ⟨c1, by omega⟩, if_pos ⟨by omega, by omega⟩, if_neg (by omega)]
        by_cases c4 : i > 0
        · rw [if_pos c4, if_pos (by omega), if_pos (by omega), if_pos (c5 c4)]
        · rw [if_neg c4]
      · simp only [impl_IsGraph.l0, hw, hw1, pcmp_iff, if_pos hp, if_pos hi]
        rw [if_neg (by omega), if_neg (by omega), if_neg (by omega)]
        by_cases c4 : i > 0
        · rw [if_pos c4, if_neg (fun h => h (c5 c4))]
        · rw [if_neg c4]
    · refine ⟨false, fun h => (by cases h), Ev.step (f := fun _ => some false) (fun k => ?_) (Ev.now false), Ev.step (f := fun _ => some false) (fun k => ?_) (Ev.now false)⟩
      · rcases no k with h | h
        · exact absurd h hc
        · exact h.1
      · rcases no k with h | h
        · exact absurd h hc
        · exact h.2
theorem good_not (l : List S71) (s : Int) (h8 : ¬ (0 ≤ s ∧ s ≤ 8)) (hl : l.length ≤ 1048576) : ∀ (d : Nat) (i : Int), 0 ≤ i → (l.length : Int) - i = d →
    Ev (fun k => spec_l2Good.l0 k i s l) false := by
  intro d
  induction d with
  | zero =>
    intro i hi hd
    have hn : ¬ i < (l.length : Int) := by omega
    refine Ev.step (f := fun _ => some false) (fun k => ?_) (Ev.now false)
    simp only [spec_l2Good.l0]
    rw [if_neg hn, l1In_eq, Option.bind_some, decide_eq_false h8]
  | succ d ih =>
    intro i hi hd
    have hp : i < (l.length : Int) := by omega
    have hw : wrap64 (i + 1) = i + 1 := by unfold wrap64; omega
    have hw1 : wrap64 (i - 1) = i - 1 := by unfold wrap64; omega
    have hr := ih (i + 1) (by omega) (by omega)
    have one : ∀ k, spec_l2Good.l0 (k + 1) i s l = some false ∨ spec_l2Good.l0 (k + 1) i s l = spec_l2Good.l0 k (i + 1) s l := by
      intro k
      simp only [spec_l2Good.l0, l1In_eq, before_eq, hw, hw1, if_pos hp, if_pos hi, Option.bind_some, decide_eq_true_eq]
      repeat' split
      all_goals first | exact .inl rfl | exact .inr rfl | (exfalso; omega)
    obtain ⟨K, hK⟩ := hr
    refine ⟨K + 1, fun k hk => ?_⟩
    obtain ⟨k, rfl⟩ : ∃ m, k = m + 1 := ⟨k - 1, by omega⟩
    rcases one k with h | h
    · exact h
    · exact h.trans (hK k (by omega))
/-- A good graph: at most eight nodes, each edge from a lower node to a higher one. -/
def Good (s : Int) (l : List S71) : Prop := 0 ≤ s ∧ s ≤ 8 ∧ ∀ j : Int, 0 ≤ j → j < l.length → 0 ≤ (rd_T71 l j).f0 ∧ (rd_T71 l j).f0 < (rd_T71 l j).f1 ∧ (rd_T71 l j).f1 < s
/-- Its pairs stand in order. -/
def Sorted (l : List S71) : Prop := ∀ j : Int, 0 < j → j < l.length → (rd_T71 l (j - 1)).f0 < (rd_T71 l j).f0 ∨ ((rd_T71 l (j - 1)).f0 = (rd_T71 l j).f0 ∧ (rd_T71 l (j - 1)).f1 < (rd_T71 l j).f1)
theorem isGraph_full (s : Int) (l : List S71) (hlen : l.length ≤ 1048576) : ∃ b, (b = true → Good s l ∧ Sorted l) ∧ Ev (fun k => spec_l2Good.f k s l) b ∧ Ev (fun k => impl_IsGraph.f k s l) b := by
  by_cases h8 : 0 ≤ s ∧ s ≤ 8
  · obtain ⟨b, hg, hA, hB⟩ := good_both l s h8.1 h8.2 hlen l.length 0 (by omega) (by omega)
    refine ⟨b, fun h => ⟨⟨h8.1, h8.2, fun j h0 h1 => ⟨(hg h j h0 h1).1, (hg h j h0 h1).2.1, (hg h j h0 h1).2.2.1⟩⟩, fun j h0 h1 => (hg h j (by omega) h1).2.2.2 h0⟩, ?_, ?_⟩
    · obtain ⟨K, hK⟩ := hA
      dsimp only at hK
      exact ⟨K, fun k hk => by dsimp only; unfold spec_l2Good.f; exact hK k hk⟩
    · obtain ⟨K, hK⟩ := hB
      dsimp only at hK
      exact ⟨K, fun k hk => by dsimp only; unfold impl_IsGraph.f; rw [if_pos h8]; exact hK k hk⟩
  · refine ⟨false, fun h => (by cases h), ?_, ⟨0, fun k _ => by dsimp only; unfold impl_IsGraph.f; rw [if_neg h8]⟩⟩
    obtain ⟨K, hK⟩ := good_not l s h8 hlen l.length 0 (by omega) (by omega)
    dsimp only at hK
    exact ⟨K, fun k hk => by dsimp only; unfold spec_l2Good.f; exact hK k hk⟩
end Go.Proofs.Ytcjddikalgnhpaa.Gr
namespace Go.Proofs.Ytcjddikalgnhpaa.Gr
open Go.RowKit Go.Proofs.Ytcjddikalgnhpaa.P Go.Proofs.YtcjddikalgnhpaaW.PrintWords Go.Proofs.YtcjddikalgnhpaaW.PrintLast Go.Proofs.YtcjddikalgnhpaaW.PrintMore
/-- Is the edge u, v among the first d pairs from i on? -/
def nearF (l : List S71) (u v : Int) : Nat → Int → Bool
  | 0, _ => false
  | d + 1, i => ((rd_T71 l i).f0 == u && (rd_T71 l i).f1 == v) || ((rd_T71 l i).f0 == v && (rd_T71 l i).f1 == u) || nearF l u v d (i + 1)
def near (l : List S71) (u v : Int) : Bool := nearF l u v l.length 0
theorem near_loop (s : Int) (l : List S71) (u v : Int) (hl : l.length ≤ 1048576) : ∀ (d : Nat) (i : Int), 0 ≤ i → (l.length : Int) - i = d → Ev (fun k => spec_l2Near.l0 k u v i s l) (nearF l u v d i) := by
  intro d
  induction d with
  | zero =>
    intro i hi hd
    refine Ev.step (f := fun _ => some false) (fun k => ?_) (Ev.now false)
    simp only [spec_l2Near.l0]
    rw [if_neg (by omega)]
  | succ d ih =>
    intro i hi hd
    have hp : i < (l.length : Int) := by omega
    have hw : wrap64 (i + 1) = i + 1 := by unfold wrap64; omega
    have hr := ih (i + 1) (by omega) (by omega)
    by_cases hc : ((rd_T71 l i).f0 = u ∧ (rd_T71 l i).f1 = v) ∨ ((rd_T71 l i).f0 = v ∧ (rd_T71 l i).f1 = u)
    · have e : nearF l u v (d + 1) i = true := by
        unfold nearF
        rcases hc with ⟨h1, h2⟩ | ⟨h1, h2⟩ <;> simp [h1, h2]
      rw [e]
      refine Ev.step (f := fun _ => some true) (fun k => ?_) (Ev.now true)
      simp only [spec_l2Near.l0, if_pos hp, if_pos hi]
      repeat' split
      all_goals first | rfl | (exfalso; omega)
    · have e : nearF l u v (d + 1) i = nearF l u v d (i + 1) := by
        have h1 : ((rd_T71 l i).f0 == u && (rd_T71 l i).f1 == v) = false := by
          rw [Bool.and_eq_false_iff]
          by_cases h : (rd_T71 l i).f0 = u
          · right
            simp only [beq_eq_false_iff_ne]
            intro h'
            exact hc (.inl ⟨h, h'⟩)
          · left
            simpa using h
        have h2 : ((rd_T71 l i).f0 == v && (rd_T71 l i).f1 == u) = false := by
          rw [Bool.and_eq_false_iff]
          by_cases h : (rd_T71 l i).f0 = v
          · right
            simp only [beq_eq_false_iff_ne]
            intro h'
            exact hc (.inr ⟨h, h'⟩)
          · left
            simpa using h
        conv => lhs; unfold nearF
        rw [h1, h2]
        rfl
      rw [e]
      refine Ev.step (fun k => ?_) hr
      simp only [spec_l2Near.l0, if_pos hp, if_pos hi, hw]
      repeat' split
      all_goals first | rfl | (exfalso; omega)
theorem near_ev (s : Int) (l : List S71) (u v : Int) (hl : l.length ≤ 1048576) : Ev (fun k => spec_l2Near.f k s l u v) (near l u v) := by
  obtain ⟨K, hK⟩ := near_loop s l u v hl l.length 0 (by omega) (by omega)
  dsimp only at hK
  exact ⟨K, fun k hk => by dsimp only; unfold spec_l2Near.f; exact hK k hk⟩
/-- A node's bit in a mask. -/
def bit (m v : Int) : Bool := Go.bits .and .i64 (shr .i64 m v) 1 == 1
def put (m v : Int) : Int := Go.bits .or .i64 m (shl .i64 1 v)
theorem put_all : ((List.range 256).all fun m => (List.range 8).all fun w => (decide (0 ≤ put m w) && decide (put m w < 256)) && (List.range 8).all fun v => bit (put m w) v == (bit m v || v == w)) = true := by kernel_rfl
theorem zero_all : ((List.range 8).all fun v => bit 0 v == false) = true := by kernel_rfl
theorem put_ok (m w : Int) (h0 : 0 ≤ m) (h1 : m < 256) (h2 : 0 ≤ w) (h3 : w < 8) : 0 ≤ put m w ∧ put m w < 256 ∧ ∀ v : Int, 0 ≤ v → v < 8 → bit (put m w) v = (bit m v || v == w) := by
  have h := List.all_eq_true.1 put_all m.toNat (List.mem_range.2 (by omega))
  have h' := List.all_eq_true.1 h w.toNat (List.mem_range.2 (by omega))
  rw [Int.toNat_of_nonneg h0, Int.toNat_of_nonneg h2, Bool.and_eq_true, Bool.and_eq_true, decide_eq_true_eq, decide_eq_true_eq] at h'
  refine ⟨h'.1.1, h'.1.2, fun v hv0 hv1 => ?_⟩
  have h'' := List.all_eq_true.1 h'.2 v.toNat (List.mem_range.2 (by omega))
  rw [Int.toNat_of_nonneg hv0, beq_iff_eq] at h''
  rw [h'']
  congr 1
  rw [Bool.eq_iff_iff, beq_iff_eq, beq_iff_eq]
  omega
theorem bit_zero (v : Int) (h0 : 0 ≤ v) (h1 : v < 8) : bit 0 v = false := by
  have h := List.all_eq_true.1 zero_all v.toNat (List.mem_range.2 (by omega))
  rw [Int.toNat_of_nonneg h0, beq_iff_eq] at h
  exact h
end Go.Proofs.Ytcjddikalgnhpaa.Gr
namespace Go.Proofs.Ytcjddikalgnhpaa.Gr
open Go.RowKit Go.Proofs.Ytcjddikalgnhpaa.P Go.Proofs.YtcjddikalgnhpaaW.PrintWords Go.Proofs.YtcjddikalgnhpaaW.PrintLast
/-- With rounds enough, g answers something of which Q holds. -/
def Cm {α : Type} (g : Nat → Option α) (Q : α → Prop) : Prop := ∃ r, Ev g r ∧ Q r
theorem Cm.of {α : Type} {g : Nat → Option α} {Q : α → Prop} {r : α} (h : Ev g r) (q : Q r) : Cm g Q := ⟨r, h, q⟩
theorem Cm.now {α : Type} {Q : α → Prop} {r : α} (q : Q r) : Cm (fun _ => some r) Q := ⟨r, Ev.now r, q⟩
theorem Cm.mono {α : Type} {g : Nat → Option α} {Q Q' : α → Prop} (h : Cm g Q) (k : ∀ r, Q r → Q' r) : Cm g Q' := by
  obtain ⟨r, h1, h2⟩ := h
  exact ⟨r, h1, k r h2⟩
theorem Cm.ev {α : Type} {g : Nat → Option α} {r : α} (h : Cm g (fun x => x = r)) : Ev g r := by
  obtain ⟨r', h1, rfl⟩ := h
  exact h1
theorem Cm.step {α : Type} {g f : Nat → Option α} {Q : α → Prop} (h : ∀ k, g (k + 1) = f k) (k : Cm f Q) : Cm g Q := by
  obtain ⟨r, h1, h2⟩ := k
  exact ⟨r, Ev.step h h1, h2⟩
theorem Cm.congr {α : Type} {g f : Nat → Option α} {Q : α → Prop} (h : ∀ k, g k = f k) (k : Cm f Q) : Cm g Q := by
  obtain ⟨r, h1, h2⟩ := k
  exact ⟨r, Ev.congr h h1, h2⟩
theorem Cm.pos {α : Type} {c : Prop} [Decidable c] {f g : Nat → Option α} {Q : α → Prop} (h : c) (k : Cm f Q) : Cm (fun n => if c then f n else g n) Q :=
  Cm.congr (fun _ => if_pos h) k
theorem Cm.neg {α : Type} {c : Prop} [Decidable c] {f g : Nat → Option α} {Q : α → Prop} (h : ¬ c) (k : Cm g Q) : Cm (fun n => if c then f n else g n) Q :=
  Cm.congr (fun _ => if_neg h) k
theorem Cm.ite {α : Type} {c : Prop} [Decidable c] {f g : Nat → Option α} {Q : α → Prop} (h : c → Cm f Q) (k : ¬ c → Cm g Q) : Cm (fun n => if c then f n else g n) Q := by
  by_cases hc : c
  · exact Cm.pos hc (h hc)
  · exact Cm.neg hc (k hc)
theorem Cm.bind {α β : Type} {f : Nat → Option α} {h : Nat → α → Option β} {P : α → Prop} {Q : β → Prop} (a : Cm f P) (k : ∀ x, P x → Cm (fun n => h n x) Q) : Cm (fun n => (f n).bind (h n)) Q := by
  obtain ⟨x, h1, h2⟩ := a
  obtain ⟨r, h3, h4⟩ := k x h2
  exact ⟨r, Ev.bind h1 h3, h4⟩
theorem Cm.bindE {α β : Type} {f : Nat → Option α} {h : Nat → α → Option β} {x : α} {Q : β → Prop} (a : Ev f x) (k : Cm (fun n => h n x) Q) : Cm (fun n => (f n).bind (h n)) Q := by
  obtain ⟨r, h3, h4⟩ := k
  exact ⟨r, Ev.bind a h3, h4⟩
/-- A loop: each state comes to Q if all states that are smaller do. -/
theorem Cm.meas {σ β : Type} (g : Nat → σ → Option β) (m : σ → Nat) (I : σ → Prop) (Q : σ → β → Prop)
    (hs : ∀ a, I a → (∀ b, I b → m b < m a → Cm (fun k => g k b) (Q b)) → Cm (fun k => g k a) (Q a)) : ∀ a, I a → Cm (fun k => g k a) (Q a) := by
  suffices h : ∀ n a, m a = n → I a → Cm (fun k => g k a) (Q a) from fun a ha => h _ a rfl ha
  intro n
  induction n using Nat.strongRecOn with
  | _ n ih =>
    intro a hn ha
    exact hs a ha (fun b hb hm => ih (m b) (by omega) b rfl hb)
/-- A loop that counts up to n. -/
theorem Cm.up {α β : Type} (g : Nat → Int → α → Option β) (n : Int) (I : Int → α → Prop) (Q : β → Prop)
    (hs : ∀ i a, i ≤ n → I i a → (∀ b, i < n → I (i + 1) b → Cm (fun k => g k (i + 1) b) Q) → Cm (fun k => g k i a) Q) (i : Int) (a : α) (hi : i ≤ n) (hI : I i a) : Cm (fun k => g k i a) Q := by
  obtain ⟨d, hd⟩ : ∃ d : Nat, n - i = d := ⟨(n - i).toNat, by omega⟩
  induction d generalizing i a with
  | zero => exact hs i a hi hI (fun b h _ => by omega)
  | succ d ih => exact hs i a hi hI (fun b h hb => ih (i + 1) b (by omega) hb (by omega))
theorem w64 (x : Int) (h1 : -9223372036854775808 ≤ x) (h2 : x ≤ 9223372036854775807) : wrap64 x = x := by
  unfold wrap64
  omega
/-- The numbers below n, in order. -/
def V (n : Int) : List Int := (List.range n.toNat).map Int.ofNat
theorem V_succ {n : Int} (h : 0 ≤ n) : V (n + 1) = V n ++ [n] := by
  unfold V
  rw [show (n + 1).toNat = n.toNat + 1 by omega, List.range_succ, List.map_append]
  congr 1
  simp [Int.toNat_of_nonneg h]
theorem V_len (n : Int) : (V n).length = n.toNat := by unfold V; simp
theorem mem_V {n x : Int} : x ∈ V n ↔ 0 ≤ x ∧ x < n := by
  unfold V
  rw [List.mem_map]
  constructor
  · rintro ⟨a, h, rfl⟩
    have := List.mem_range.1 h
    have e : Int.ofNat a = (a : Int) := rfl
    omega
  · rintro ⟨h0, h1⟩
    exact ⟨x.toNat, List.mem_range.2 (by omega), Int.toNat_of_nonneg h0⟩
/-- Rising. -/
abbrev Up (l : List Int) : Prop := l.Pairwise (· < ·)
theorem V_up (n : Int) : Up (V n) := by
  unfold V Up
  rw [List.pairwise_map]
  exact List.Pairwise.imp (fun h => Int.ofNat_lt.2 h) List.pairwise_lt_range
theorem filter_up {l : List Int} (h : Up l) (p : Int → Bool) : Up (l.filter p) := List.Pairwise.filter p h
theorem up_ext : ∀ {a b : List Int}, Up a → Up b → (∀ x, x ∈ a ↔ x ∈ b) → a = b
  | [], [], _, _, _ => rfl
  | [], y :: b, _, _, h => by have := (h y).2 List.mem_cons_self; cases this
  | x :: a, [], _, _, h => by have := (h x).1 List.mem_cons_self; cases this
  | x :: a, y :: b, ha, hb, h => by
    have ha' := List.pairwise_cons.1 ha
    have hb' := List.pairwise_cons.1 hb
    have e : x = y := by
      rcases List.mem_cons.1 ((h x).1 List.mem_cons_self) with e | e
      · exact e
      · rcases List.mem_cons.1 ((h y).2 List.mem_cons_self) with e' | e'
        · exact e'.symm
        · have := hb'.1 x e
          have := ha'.1 y e'
          omega
    subst e
    congr 1
    refine up_ext ha'.2 hb'.2 (fun z => ⟨fun hz => ?_, fun hz => ?_⟩)
    · rcases List.mem_cons.1 ((h z).1 (List.mem_cons_of_mem _ hz)) with e | e
      · subst e; have := ha'.1 z hz; omega
      · exact e
    · rcases List.mem_cons.1 ((h z).2 (List.mem_cons_of_mem _ hz)) with e | e
      · subst e; have := hb'.1 z hz; omega
      · exact e
theorem mem_VF {n x : Int} {p : Int → Bool} : x ∈ (V n).filter p ↔ (0 ≤ x ∧ x < n) ∧ p x = true := by rw [List.mem_filter, mem_V]
theorem VF_succ {n : Int} {p : Int → Bool} (h : 0 ≤ n) : (V (n + 1)).filter p = (V n).filter p ++ (if p n = true then [n] else []) := by
  rw [V_succ h, List.filter_append, List.filter_cons]
  rfl
theorem VF_len {n : Int} {p : Int → Bool} : ((V n).filter p).length ≤ n.toNat := by
  have := List.length_filter_le p (V n)
  rw [V_len] at this
  exact this
theorem take_rd (l : List Int) (i : Int) (h0 : 0 ≤ i) (h1 : i < l.length) : l.take (i + 1).toNat = l.take i.toNat ++ [rd l i] := by
  rw [show (i + 1).toNat = i.toNat + 1 by omega, List.take_succ_eq_append_getElem (by omega)]
  congr 2
  unfold rd
  rw [List.getD_eq_getElem?_getD, List.getElem?_eq_getElem (by omega)]
  rfl
theorem take_all (l : List Int) (i : Int) (h : (l.length : Int) ≤ i) : l.take i.toNat = l := List.take_of_length_le (by omega)
theorem rd_mem (l : List Int) (i : Int) (h0 : 0 ≤ i) (h1 : i < l.length) : rd l i ∈ l := by
  unfold rd
  rw [List.getD_eq_getElem?_getD, List.getElem?_eq_getElem (by omega)]
  exact List.getElem_mem _
theorem rd_eq (l : List Int) (i : Nat) (h : i < l.length) : rd l i = l[i] := by
  unfold rd
  rw [List.getD_eq_getElem?_getD, Int.toNat_natCast, List.getElem?_eq_getElem h]
  rfl
end Go.Proofs.Ytcjddikalgnhpaa.Gr
namespace Go.Proofs.Ytcjddikalgnhpaa.Gr
open Go.RowKit Go.Proofs.Ytcjddikalgnhpaa.P Go.Proofs.YtcjddikalgnhpaaW.PrintWords Go.Proofs.YtcjddikalgnhpaaW.PrintLast Go.Proofs.YtcjddikalgnhpaaW.PrintMore
theorem wrap_small (n : Int) (h0 : 0 ≤ n) (h1 : n < 2 ^ 62) : IntKind.i64.wrap n = n := by
  exact (i64_w n).trans (w64 n (by omega) (by omega))
theorem bits_n (a b : Nat) (ha : a < 2 ^ 62) (hb : b < 2 ^ 62) : Go.bits .and .i64 a b = ((a &&& b : Nat) : Int) ∧ Go.bits .or .i64 a b = ((a ||| b : Nat) : Int) :=
  Go.bits_nat .i64 62 (by decide) (fun n h0 h1 => wrap_small n h0 (by exact_mod_cast h1)) a b ha hb
theorem bit_tb (m v : Nat) (hm : m < 2 ^ 62) (hv : v ≤ 64) : bit m v = m.testBit v := by
  unfold bit shr
  rw [show IntKind.i64.bits = 64 from rfl, Int.toNat_natCast, Nat.min_eq_left hv]
  have e : (m : Int) / 2 ^ v = ((m / 2 ^ v : Nat) : Int) := by norm_cast
  rw [e]
  have := (bits_n (m / 2 ^ v) 1 (Nat.lt_of_le_of_lt (Nat.div_le_self _ _) hm) (by decide)).1
  rw [show ((1 : Nat) : Int) = 1 from rfl] at this
  rw [this, Nat.and_one_is_mod, Nat.testBit_eq_decide_div_mod_eq]
  rw [Bool.eq_iff_iff, beq_iff_eq, decide_eq_true_eq]
  omega
theorem bit_i (m v : Int) (h0 : 0 ≤ m) (hm : m < 256) (v0 : 0 ≤ v) (hv : v < 64) : bit m v = m.toNat.testBit v.toNat := by
  have := bit_tb m.toNat v.toNat (by omega) (by omega)
  rwa [Int.toNat_of_nonneg h0, Int.toNat_of_nonneg v0] at this
/-- A mask of eight bits. -/
abbrev M8 (m : Int) : Prop := 0 ≤ m ∧ m < 256
theorem or_ok (a b : Int) (ha : M8 a) (hb : M8 b) : M8 (Go.bits .or .i64 a b) ∧ ∀ v : Int, 0 ≤ v → v < 64 → bit (Go.bits .or .i64 a b) v = (bit a v || bit b v) := by
  have e := (bits_n a.toNat b.toNat (by omega) (by omega)).2
  rw [Int.toNat_of_nonneg ha.1, Int.toNat_of_nonneg hb.1] at e
  have hM : M8 (Go.bits .or .i64 a b) := by
    rw [e]
    have : a.toNat ||| b.toNat < 2 ^ 8 := Nat.or_lt_two_pow (by omega) (by omega)
    constructor <;> omega
  refine ⟨hM, fun v v0 v1 => ?_⟩
  rw [bit_i _ v hM.1 hM.2 v0 v1, bit_i a v ha.1 ha.2 v0 v1, bit_i b v hb.1 hb.2 v0 v1, e, Int.toNat_natCast, Nat.testBit_or]
theorem one_all : ((List.range 8).all fun v => (decide (0 ≤ shl .i64 1 v) && decide (shl .i64 1 v < 256)) && (List.range 64).all fun u => bit (shl .i64 1 v) u == (u == v)) = true := by kernel_rfl
theorem one_ok (v : Int) (h0 : 0 ≤ v) (h1 : v < 8) : M8 (shl .i64 1 v) ∧ ∀ u : Int, 0 ≤ u → u < 64 → bit (shl .i64 1 v) u = (u == v) := by
  have h := List.all_eq_true.1 one_all v.toNat (List.mem_range.2 (by omega))
  rw [Int.toNat_of_nonneg h0, Bool.and_eq_true, Bool.and_eq_true, decide_eq_true_eq, decide_eq_true_eq] at h
  refine ⟨h.1, fun u u0 u1 => ?_⟩
  have h' := List.all_eq_true.1 h.2 u.toNat (List.mem_range.2 (by omega))
  rw [Int.toNat_of_nonneg u0, beq_iff_eq] at h'
  rw [h', Bool.eq_iff_iff, beq_iff_eq, beq_iff_eq]
  omega
theorem set8_all : ((List.range 256).all fun m => impl_setOf.f 20 m == some ((V 8).filter (bit m))) = true := by kernel_rfl
/-- The nodes of a mask, in order. -/
theorem set8_ev (m : Int) (h : M8 m) : Ev (fun k => impl_setOf.f k m) ((V 8).filter (bit m)) := by
  have h' := List.all_eq_true.1 set8_all m.toNat (List.mem_range.2 (by omega))
  rw [Int.toNat_of_nonneg h.1, beq_iff_eq] at h'
  exact Ev.of (fun k => impl_setOf.mono m k) h'
theorem setP_ev (m : Int) (h : M8 m) (s : Int) (h8 : s ≤ 8) (p : Int → Bool) (hp : ∀ v : Int, 0 ≤ v → v < 8 → bit m v = (decide (v < s) && p v)) : Ev (fun k => impl_setOf.f k m) ((V s).filter p) := by
  have e : (V 8).filter (bit m) = (V s).filter p := by
    refine up_ext (filter_up (V_up _) _) (filter_up (V_up _) _) (fun x => ?_)
    rw [mem_VF, mem_VF]
    constructor
    · rintro ⟨⟨h0, h1⟩, h2⟩
      rw [hp x h0 h1, Bool.and_eq_true, decide_eq_true_eq] at h2
      exact ⟨⟨h0, h2.1⟩, h2.2⟩
    · rintro ⟨⟨h0, h1⟩, h2⟩
      exact ⟨⟨h0, by omega⟩, by rw [hp x h0 (by omega), h2, decide_eq_true h1]; rfl⟩
  rw [← e]
  exact set8_ev m h
theorem rd_set (m : List Int) (i j x : Int) (h0 : 0 ≤ i) (h1 : i < m.length) (h2 : 0 ≤ j) : rd (m.set i.toNat x) j = if i = j then x else rd m j := by
  unfold rd
  rw [List.getD_eq_getElem?_getD, List.getD_eq_getElem?_getD]
  by_cases h : i = j
  · subst h
    rw [List.getElem?_set_self (by omega), if_pos rfl]
    rfl
  · rw [List.getElem?_set_ne (by omega), if_neg h]
/-- Masks of n nodes. -/
def Masks (s : Int) (m : List Int) : Prop := (m.length : Int) = s ∧ ∀ u : Int, 0 ≤ u → u < s → 0 ≤ rd m u ∧ rd m u < 256
theorem net_loop (s : Int) (l : List S71) (hl : l.length ≤ 1048576) (hg : Good s l) : ∀ (d : Nat) (i : Int) (m : List Int), 0 ≤ i → (l.length : Int) - i = d → Masks s m →
    ∃ r, Masks s r ∧ (∀ u v : Int, 0 ≤ u → u < s → 0 ≤ v → v < 8 → bit (rd r u) v = (bit (rd m u) v || nearF l u v d i)) ∧ Ev (fun k => impl_netOf.l0 k l l.length i m) r := by
  intro d
  induction d with
  | zero =>
    intro i m hi hd hm
    refine ⟨m, hm, fun u v _ _ _ _ => by simp [nearF], Ev.step (f := fun _ => some m) (fun k => ?_) (Ev.now m)⟩
    simp only [impl_netOf.l0]
    rw [if_neg (by omega)]
  | succ d ih =>
    intro i m hi hd hm
    obtain ⟨hs0, hs8, hgood⟩ := hg
    obtain ⟨g0, g1, g2⟩ := hgood i hi (by omega)
    have hw : wrap64 (i + 1) = i + 1 := by unfold wrap64; omega
    have hlen := hm.1
    obtain ⟨a, ha⟩ : ∃ a, a = (rd_T71 l i).f0 := ⟨_, rfl⟩
    obtain ⟨b, hb⟩ : ∃ b, b = (rd_T71 l i).f1 := ⟨_, rfl⟩
    rw [← ha] at g0 g1
    rw [← hb] at g1 g2
    obtain ⟨pa0, pa1, pa⟩ := put_ok (rd m a) b (hm.2 a g0 (by omega)).1 (hm.2 a g0 (by omega)).2 (by omega) (by omega)
    obtain ⟨pb0, pb1, pb⟩ := put_ok (rd m b) a (hm.2 b (by omega) g2).1 (hm.2 b (by omega) g2).2 g0 (by omega)
    obtain ⟨m1, hm1⟩ : ∃ m1, m1 = m.set a.toNat (put (rd m a) b) := ⟨_, rfl⟩
    obtain ⟨m2, hm2⟩ : ∃ m2, m2 = m1.set b.toNat (put (rd m1 b) a) := ⟨_, rfl⟩
    have l1 : m1.length = m.length := by rw [hm1, List.length_set]
    have l2 : m2.length = m.length := by rw [hm2, List.length_set, l1]
    have r1 : ∀ u : Int, 0 ≤ u → rd m1 u = if a = u then put (rd m a) b else rd m u := fun u hu => by rw [hm1]; exact rd_set m a u _ g0 (by omega) hu
    have r1b : rd m1 b = rd m b := by rw [r1 b (by omega), if_neg (by omega)]
    have r2 : ∀ u : Int, 0 ≤ u → rd m2 u = if b = u then put (rd m b) a else if a = u then put (rd m a) b else rd m u := fun u hu => by
      rw [hm2, rd_set m1 b u _ (by omega) (by omega) hu, r1b]
      by_cases h : b = u
      · rw [if_pos h, if_pos h]
      · rw [if_neg h, if_neg h, r1 u hu]
    have hm' : Masks s m2 := by
      refine ⟨by rw [l2]; exact hm.1, fun u hu0 hu1 => ?_⟩
      rw [r2 u hu0]
      by_cases h : b = u
      · rw [if_pos h]; exact ⟨pb0, pb1⟩
      · rw [if_neg h]
        by_cases h' : a = u
        · rw [if_pos h']; exact ⟨pa0, pa1⟩
        · rw [if_neg h']; exact hm.2 u hu0 hu1
    obtain ⟨r, hr, hbit, hev⟩ := ih (i + 1) m2 (by omega) (by omega) hm'
    refine ⟨r, hr, fun u v hu0 hu1 hv0 hv1 => ?_, Ev.step (fun k => ?_) hev⟩
    · rw [hbit u v hu0 hu1 hv0 hv1, r2 u hu0]
      conv => rhs; unfold nearF
      rw [← ha, ← hb]
      by_cases h : b = u
      · subst h
        rw [if_pos rfl, pb v hv0 hv1]
        have e1 : (a == b) = false := by simp; omega
        have e2 : (v == a) = (a == v) := by rw [Bool.eq_iff_iff]; simp; omega
        have e3 : (b == b) = true := by simp
        rw [e1, e2, e3]
        cases bit (rd m b) v <;> cases (a == v) <;> simp
      · rw [if_neg h]
        have e0 : (b == u) = false := by simpa using h
        by_cases h' : a = u
        · subst h'
          rw [if_pos rfl, pa v hv0 hv1]
          have e2 : (v == b) = (b == v) := by rw [Bool.eq_iff_iff]; simp; omega
          have e3 : (a == a) = true := by simp
          rw [e0, e2, e3]
          cases bit (rd m a) v <;> cases (b == v) <;> simp
        · rw [if_neg h']
          have e1 : (a == u) = false := by simpa using h'
          rw [e0, e1]
          simp
    · simp only [impl_netOf.l0, Option.bind_some]
      rw [← ha, ← hb]
      rw [if_pos (by omega), if_pos hi, if_pos (by omega), if_pos g0, if_pos (by omega), if_pos (by omega), if_pos (by omega), hw]
      show impl_netOf.l0 k l l.length (i + 1) ((m.set a.toNat (put (rd m a) b)).set b.toNat (put (rd (m.set a.toNat (put (rd m a) b)) b) a)) = _
      rw [← hm1, ← hm2]
theorem net_ev (s : Int) (l : List S71) (hl : l.length ≤ 1048576) (hg : Good s l) : ∃ r, Masks s r ∧ (∀ u v : Int, 0 ≤ u → u < s → 0 ≤ v → v < 8 → bit (rd r u) v = near l u v) ∧ Ev (fun k => impl_netOf.f k s l) r := by
  have hg' := hg
  obtain ⟨h0, h8, _⟩ := hg'
  have hz : Masks s (List.replicate s.toNat 0) := by
    refine ⟨by simp; omega, fun u hu0 hu1 => ?_⟩
    have : rd (List.replicate s.toNat 0) u = 0 := by
      unfold rd
      rw [List.getD_eq_getElem?_getD, List.getElem?_replicate, if_pos (by omega)]
      rfl
    rw [this]
    omega
  obtain ⟨r, hr, hb, K, hK⟩ := net_loop s l hl hg l.length 0 _ (by omega) (by omega) hz
  dsimp only at hK
  refine ⟨r, hr, fun u v hu0 hu1 hv0 hv1 => ?_, K, fun k hk => ?_⟩
  · rw [hb u v hu0 hu1 hv0 hv1]
    have : rd (List.replicate s.toNat 0) u = 0 := by
      unfold rd
      rw [List.getD_eq_getElem?_getD, List.getElem?_replicate, if_pos (by omega)]
      rfl
    rw [this, bit_zero v hv0 hv1, Bool.false_or]
    rfl
  · dsimp only
    unfold impl_netOf.f
    rw [if_pos h0, if_pos (by omega)]
    exact hK k hk
end Go.Proofs.Ytcjddikalgnhpaa.Gr
namespace Go.Proofs.Ytcjddikalgnhpaa.Gr
open Go.RowKit Go.Proofs.Ytcjddikalgnhpaa.P Go.Proofs.YtcjddikalgnhpaaW.PrintWords Go.Proofs.YtcjddikalgnhpaaW.PrintLast
def rowF (h : Int → Int → Bool) (x : Int) : Nat → Int → List S71
  | 0, _ => []
  | d + 1, y => (if h x y = true then [⟨x, y⟩] else []) ++ rowF h x d (y + 1)
def allF (h : Int → Int → Bool) : Nat → Int → List S71
  | 0, _ => []
  | d + 1, x => rowF h x d (x + 1) ++ allF h d (x + 1)
/-- The pairs x < y below n for which h says yes, in order. -/
def pairs (h : Int → Int → Bool) (n : Int) : List S71 := allF h n.toNat 0
end Go.Proofs.Ytcjddikalgnhpaa.Gr
namespace Go.Proofs.Ytcjddikalgnhpaa.Gr
open Go.RowKit Go.Proofs.Ytcjddikalgnhpaa.P Go.Proofs.YtcjddikalgnhpaaW.PrintWords Go.Proofs.YtcjddikalgnhpaaW.PrintLast Go.Proofs.YtcjddikalgnhpaaW.PrintMore
theorem rdT_eq (l : List S71) (i : Nat) (h : i < l.length) : rd_T71 l i = l[i] := by
  unfold rd_T71
  rw [List.getD_eq_getElem?_getD, Int.toNat_natCast, List.getElem?_eq_getElem h]
  rfl
theorem rdT_mem (l : List S71) (i : Int) (h0 : 0 ≤ i) (h1 : i < l.length) : rd_T71 l i ∈ l := by
  have := rdT_eq l i.toNat (by omega)
  rw [Int.toNat_of_nonneg h0] at this
  rw [this]
  exact List.getElem_mem _
theorem mem_rdT {l : List S71} {x : S71} (h : x ∈ l) : ∃ i : Int, 0 ≤ i ∧ i < l.length ∧ rd_T71 l i = x := by
  obtain ⟨j, hj, rfl⟩ := List.mem_iff_getElem.1 h
  exact ⟨j, by omega, by omega, rdT_eq l j hj⟩
theorem good_mem {s : Int} {l : List S71} (h : Good s l) {e : S71} (he : e ∈ l) : 0 ≤ e.f0 ∧ e.f0 < e.f1 ∧ e.f1 < s := by
  obtain ⟨i, h0, h1, rfl⟩ := mem_rdT he
  exact h.2.2 i h0 h1
theorem nearF_iff (l : List S71) (u v : Int) : ∀ (d : Nat) (i : Int), 0 ≤ i → (l.length : Int) - i = d → (nearF l u v d i = true ↔ ∃ j : Int, i ≤ j ∧ j < l.length ∧ (rd_T71 l j = ⟨u, v⟩ ∨ rd_T71 l j = ⟨v, u⟩)) := by
  intro d
  induction d with
  | zero =>
    intro i h0 hd
    constructor
    · intro h; cases h
    · rintro ⟨j, h1, h2, _⟩; omega
  | succ d ih =>
    intro i h0 hd
    unfold nearF
    rw [Bool.or_eq_true, Bool.or_eq_true, ih (i + 1) (by omega) (by omega), Bool.and_eq_true, Bool.and_eq_true, beq_iff_eq, beq_iff_eq, beq_iff_eq, beq_iff_eq]
    have ex : ∀ a b : Int, (rd_T71 l i).f0 = a ∧ (rd_T71 l i).f1 = b ↔ rd_T71 l i = ⟨a, b⟩ := fun a b => ⟨fun ⟨h1, h2⟩ => by rw [← h1, ← h2], fun h => by rw [h]; exact ⟨rfl, rfl⟩⟩
    rw [ex, ex]
    constructor
    · rintro ((h | h) | ⟨j, h1, h2, h3⟩)
      · exact ⟨i, by omega, by omega, .inl h⟩
      · exact ⟨i, by omega, by omega, .inr h⟩
      · exact ⟨j, by omega, h2, h3⟩
    · rintro ⟨j, h1, h2, h3⟩
      by_cases e : j = i
      · subst e
        exact .inl h3
      · exact .inr ⟨j, by omega, h2, h3⟩
theorem near_iff (l : List S71) (u v : Int) : near l u v = true ↔ (⟨u, v⟩ : S71) ∈ l ∨ (⟨v, u⟩ : S71) ∈ l := by
  unfold near
  rw [nearF_iff l u v l.length 0 (by omega) (by omega)]
  constructor
  · rintro ⟨j, h1, h2, h3 | h3⟩
    · exact .inl (h3 ▸ rdT_mem l j h1 h2)
    · exact .inr (h3 ▸ rdT_mem l j h1 h2)
  · rintro (h | h)
    · obtain ⟨j, h0, h1, h2⟩ := mem_rdT h
      exact ⟨j, h0, h1, .inl h2⟩
    · obtain ⟨j, h0, h1, h2⟩ := mem_rdT h
      exact ⟨j, h0, h1, .inr h2⟩
theorem near_in {s : Int} {l : List S71} (h : Good s l) {u v : Int} (hn : near l u v = true) : (0 ≤ u ∧ u < s) ∧ (0 ≤ v ∧ v < s) ∧ u ≠ v := by
  rcases (near_iff l u v).1 hn with e | e
  · have := good_mem h e
    dsimp only at this
    omega
  · have := good_mem h e
    dsimp only at this
    omega
theorem l1Put_cm (l : List Int) (e : Int) (hl : l.length ≤ 1048577) (hu : Up l) (he : e ∉ l) : Cm (fun k => spec_l1Put.f k l e) (fun r => Up r ∧ (∀ x, x ∈ r ↔ x = e ∨ x ∈ l) ∧ r.length = l.length + 1) := by
  unfold spec_l1Put.f
  have fin : ∀ i : Int, 0 ≤ i → i ≤ l.length → (∀ x ∈ l.take i.toNat, x < e) → (∀ x ∈ l.drop i.toNat, e < x) → Up (l.take i.toNat ++ [e] ++ l.drop i.toNat) ∧ (∀ x, x ∈ l.take i.toNat ++ [e] ++ l.drop i.toNat ↔ x = e ∨ x ∈ l) ∧ (l.take i.toNat ++ [e] ++ l.drop i.toNat).length = l.length + 1 := by
    intro i h0 h1 ht hd
    have hs : l.take i.toNat ++ l.drop i.toNat = l := List.take_append_drop _ _
    have hu' := hu
    rw [← hs] at hu'
    have hp := List.pairwise_append.1 hu'
    refine ⟨?_, fun x => ?_, ?_⟩
    · refine List.pairwise_append.2 ⟨List.pairwise_append.2 ⟨hp.1, List.pairwise_singleton _ _, fun a ha b hb => ?_⟩, hp.2.1, fun a ha b hb => ?_⟩
      · rw [List.mem_singleton] at hb
        subst hb
        exact ht a ha
      · rcases List.mem_append.1 ha with ha | ha
        · exact hp.2.2 a ha b hb
        · rw [List.mem_singleton] at ha
          subst ha
          exact hd b hb
    · rw [List.mem_append, List.mem_append, List.mem_singleton]
      constructor
      · rintro ((h | h) | h)
        · exact .inr (List.mem_of_mem_take h)
        · exact .inl h
        · exact .inr (List.mem_of_mem_drop h)
      · rintro (h | h)
        · exact .inl (.inr h)
        · rw [← hs] at h
          rcases List.mem_append.1 h with h | h
          · exact .inl (.inl h)
          · exact .inr h
    · rw [List.length_append, List.length_append, List.length_take, List.length_drop, List.length_singleton]
      omega
  refine Cm.up (fun k i (_ : Unit) => spec_l1Put.l0 k l e i) l.length (fun i _ => 0 ≤ i ∧ ∀ x ∈ l.take i.toNat, x < e) _ ?_ 0 () (by omega) ⟨by omega, fun x hx => by cases hx⟩
  rintro i _ hi ⟨h0, ht⟩ ih
  by_cases h : i < l.length
  · have hne : rd l i ≠ e := fun e' => he (e' ▸ rd_mem l i h0 h)
    by_cases hb : rd l i < e
    · refine Cm.step (fun k => by simp (disch := omega) only [spec_l1Put.l0, w64 (i + 1), if_pos]; try rfl) (ih () h ⟨by omega, ?_⟩)
      rw [take_rd l i h0 h]
      intro x hx
      rcases List.mem_append.1 hx with hx | hx
      · exact ht x hx
      · rw [List.mem_singleton] at hx
        subst hx
        exact hb
    · have hd : ∀ x ∈ l.drop i.toNat, e < x := by
        intro x hx
        obtain ⟨j, hj, rfl⟩ := List.mem_iff_getElem.1 hx
        rw [List.getElem_drop]
        have hr := rd_eq l i.toNat (by omega)
        rw [Int.toNat_of_nonneg h0] at hr
        by_cases hj0 : j = 0
        · subst hj0
          simp only [Nat.add_zero]
          rw [← hr]
          omega
        · rw [List.length_drop] at hj
          have := List.pairwise_iff_getElem.1 hu i.toNat (i.toNat + j) (by omega) (by omega) (by omega)
          rw [← hr] at this
          omega
      have hF := fin i h0 (by omega) ht hd
      refine Cm.step (fun k => by simp (disch := omega) only [spec_l1Put.l0, if_pos h, if_pos h0, if_neg hb, if_neg hne, Option.bind_some, List.nil_append, List.length_nil, Nat.zero_add, List.length_append, List.length_take, List.length_drop, List.length_singleton, if_pos]; try rfl) (Cm.now hF)
  · have e1 : l.take i.toNat = l := take_all l i (by omega)
    have hd : ∀ x ∈ l.drop i.toNat, e < x := by
      rw [List.drop_eq_nil_of_le (by omega)]
      intro x hx
      cases hx
    have hF := fin i h0 (by omega) ht hd
    refine Cm.step (fun k => by simp (disch := omega) only [spec_l1Put.l0, Option.bind_some, if_neg h, if_pos h0, List.nil_append, List.length_nil, Nat.zero_add, List.length_append, List.length_take, List.length_drop, List.length_singleton, if_pos]; try rfl) (Cm.now hF)
theorem nbs_ev' (s : Int) (l : List S71) (hl : l.length ≤ 1048576) (h8 : s ≤ 8) (h0 : 0 ≤ s) (u : Int) : Ev (fun k => spec_l2Neighbors.f k s l u) ((V s).filter (near l u)) := by
  refine Cm.ev ?_
  unfold spec_l2Neighbors.f
  refine Cm.up (fun k i a => spec_l2Neighbors.l0 k u a i s l) s (fun i a => 0 ≤ i ∧ a = (V i).filter (near l u)) _ ?_ 0 [] (by omega) ⟨by omega, rfl⟩
  rintro i a hi ⟨i0, rfl⟩ ih
  have hlen : ((V i).filter (near l u)).length ≤ i.toNat := VF_len
  by_cases h : i < s
  · refine Cm.step (fun k => by simp (disch := omega) only [spec_l2Neighbors.l0, if_pos h, w64 (i + 1)]; try rfl) ?_
    refine Cm.bindE (near_ev s l u i hl) (Cm.ite (fun e => Cm.pos (by omega) (ih _ h ⟨by omega, ?_⟩)) (fun e => ih _ h ⟨by omega, ?_⟩))
    · rw [VF_succ i0, if_pos e]
    · rw [VF_succ i0, if_neg e, List.append_nil]
  · refine Cm.step (fun k => by simp only [spec_l2Neighbors.l0, if_neg h]; try rfl) (Cm.now ?_)
    rw [show i = s by omega]
/-- Near, or the same. -/
def cl (l : List S71) (u v : Int) : Bool := near l u v || u == v
theorem cl_self (l : List S71) (u : Int) : cl l u u = true := by unfold cl; simp
theorem cl_out {s : Int} {l : List S71} (hG : Gr.Good s l) {u v : Int} (hu : 0 ≤ u ∧ u < s) (h : cl l u v = true) : 0 ≤ v ∧ v < s := by
  unfold cl at h
  rw [Bool.or_eq_true, beq_iff_eq] at h
  rcases h with h | h
  · exact (near_in hG h).2.1
  · exact h ▸ hu
theorem ball_ev (s : Int) (l : List S71) (hl : l.length ≤ 1048576) (hG : Gr.Good s l) (u : Int) (hu : 0 ≤ u ∧ u < s) : Ev (fun k => spec_l2Ball.f k s l u) ((V s).filter (cl l u)) := by
  refine Cm.ev ?_
  unfold spec_l2Ball.f
  have hlen : ((V s).filter (near l u)).length ≤ s.toNat := VF_len
  have h8 := hG.2.1
  refine Cm.bindE (nbs_ev' s l hl h8 hG.1 u) (Cm.bind (l1Put_cm _ u (by omega) (filter_up (V_up _) _) (fun hm => ?_)) (fun r hr => Cm.now ?_))
  · exact (near_in hG (mem_VF.1 hm).2).2.2 rfl
  · refine up_ext hr.1 (filter_up (V_up _) _) (fun x => ?_)
    rw [hr.2.1, mem_VF, mem_VF]
    unfold cl
    rw [Bool.or_eq_true, beq_iff_eq]
    constructor
    · rintro (e | h)
      · rw [e]; exact ⟨hu, .inr rfl⟩
      · exact ⟨h.1, .inl h.2⟩
    · rintro ⟨h1, h2 | h2⟩
      · exact .inr ⟨h1, h2⟩
      · exact .inl h2.symm
/-- The masks of the net of a graph. -/
def Net (s : Int) (l : List S71) (m : List Int) : Prop := Masks s m ∧ ∀ u v : Int, 0 ≤ u → u < s → 0 ≤ v → v < 8 → bit (rd m u) v = near l u v
theorem closed_eq {s : Int} {l : List S71} {m : List Int} (h : Net s l m) (h8 : s ≤ 8) (x : Int) (hx : 0 ≤ x ∧ x < s) : ∃ c, impl_net_closed.f m x = some c ∧ M8 c ∧ ∀ v : Int, 0 ≤ v → v < 8 → bit c v = cl l x v := by
  have h1 := one_ok x hx.1 (by omega)
  have h2 := or_ok (rd m x) _ (h.1.2 x hx.1 hx.2) h1.1
  have hlen := h.1.1
  refine ⟨Go.bits .or .i64 (rd m x) (shl .i64 1 x), ?_, h2.1, fun v v0 v1 => ?_⟩
  · unfold impl_net_closed.f
    rw [if_pos hx.1, if_pos (by omega)]
  · rw [h2.2 v v0 (by omega), h1.2 v v0 (by omega), h.2 x v hx.1 hx.2 v0 v1]
    unfold cl
    congr 1
    rw [Bool.eq_iff_iff, beq_iff_eq, beq_iff_eq]
    exact eq_comm
theorem within_eq' (a lo hi : Int) : impl_within.f a lo hi = some (decide (lo ≤ a ∧ a ≤ hi)) := by
  unfold impl_within.f
  by_cases h : a ≥ lo
  · rw [if_pos h]
    simp [show lo ≤ a from h]
  · rw [if_neg h]
    simp [show ¬ lo ≤ a from h]
theorem allIn_ev (L : List Int) (lo hi : Int) (hl : L.length ≤ 1048576) : Cm (fun k => impl_allWithin.f k L lo hi) (fun b => b = true ↔ ∀ x ∈ L, lo ≤ x ∧ x ≤ hi) := by
  unfold impl_allWithin.f
  refine Cm.up (fun k i (_ : Unit) => impl_allWithin.l0 k lo hi L L.length i) L.length (fun i _ => 0 ≤ i ∧ ∀ x ∈ L.take i.toNat, lo ≤ x ∧ x ≤ hi) _ ?_ 0 () (by omega) ⟨by omega, by simp⟩
  rintro i _ hi' ⟨h0, ht⟩ ih
  by_cases h : i < L.length
  · by_cases e : lo ≤ rd L i ∧ rd L i ≤ hi
    · refine Cm.step (fun k => by simp (disch := omega) only [impl_allWithin.l0, if_pos h, if_pos h0, within_eq', Option.bind_some, decide_eq_true e, if_true, w64 (i + 1)]; try rfl) (ih () h ⟨by omega, ?_⟩)
      rw [take_rd L i h0 h]
      intro x hx
      rcases List.mem_append.1 hx with hx | hx
      · exact ht x hx
      · rw [List.mem_singleton] at hx
        rw [hx]
        exact e
    · refine Cm.step (fun k => by simp only [impl_allWithin.l0, if_pos h, if_pos h0, within_eq', Option.bind_some, decide_eq_false e, Bool.false_eq_true, if_false]; try rfl) (Cm.now ⟨fun h => Bool.noConfusion h, fun hA => (e (hA _ (rd_mem L i h0 h))).elim⟩)
  · refine Cm.step (fun k => by simp only [impl_allWithin.l0, if_neg h]; try rfl) (Cm.now ⟨fun _ => ?_, fun _ => rfl⟩)
    rw [take_all L i (by omega)] at ht
    exact ht
end Go.Proofs.Ytcjddikalgnhpaa.Gr
namespace Go.Proofs.Ytcjddikalgnhpaa.Gr
open Go.RowKit Go.Proofs.Ytcjddikalgnhpaa.P Go.Proofs.YtcjddikalgnhpaaW.PrintWords Go.Proofs.YtcjddikalgnhpaaW.PrintLast
theorem node_eq (s : Int) (l : List S71) (v : Int) (hG : Good s l) : spec_l2Node.f s l v = some (decide (0 ≤ v ∧ v < s)) := by
  have h8 := hG.2.1
  have h0 := hG.1
  have hw : wrap64 (s - 1) = s - 1 := by unfold wrap64; omega
  have e : decide (0 ≤ v ∧ v < s) = decide (0 ≤ v ∧ v ≤ s - 1) := by rw [decide_eq_decide]; omega
  unfold spec_l2Node.f
  rw [l1In_eq, hw, e]
  rfl
end Go.Proofs.Ytcjddikalgnhpaa.Gr
namespace Go.Proofs.Ytcjddikalgnhpaa.Gr
open Go.RowKit Go.Proofs.Ytcjddikalgnhpaa.P Go.Proofs.YtcjddikalgnhpaaW.PrintWords Go.Proofs.YtcjddikalgnhpaaW.PrintLast Go.Proofs.YtcjddikalgnhpaaW.PrintMore
/-- The nodes to which one can move. -/
def Bc (s : Int) (l : List S71) (x : Int) : List Int := (V s).filter (cl l x)
theorem bc_len {s : Int} {l : List S71} {x : Int} : (Bc s l x).length ≤ s.toNat := VF_len
theorem bc_self {s : Int} {l : List S71} {x : Int} (hx : 0 ≤ x ∧ x < s) : x ∈ Bc s l x := mem_VF.2 ⟨hx, cl_self l x⟩
theorem setof_bc {s : Int} {l : List S71} {m : List Int} (hG : Gr.Good s l) (hN : Net s l m) (x : Int) (hx : 0 ≤ x ∧ x < s) : ∃ c, impl_net_closed.f m x = some c ∧ Ev (fun k => impl_setOf.f k c) (Bc s l x) := by
  have h8 := hG.2.1
  obtain ⟨c, h1, h2, h3⟩ := closed_eq hN h8 x hx
  refine ⟨c, h1, setP_ev c h2 s h8 (cl l x) (fun v v0 v1 => ?_)⟩
  rw [h3 v v0 v1, Bool.eq_iff_iff, Bool.and_eq_true, decide_eq_true_eq]
  exact ⟨fun h => ⟨(cl_out hG hx h).2, h⟩, fun h => h.2⟩
/-- Lists in order, none twice. -/
def Str (r : List (List Int)) : Prop := r.Pairwise fun a b => cmpL a b < 0
theorem ltm_of_le_ne {a b : List Int} (h : ¬ cmpL b a < 0) (hn : a ≠ b) : cmpL a b < 0 := Decidable.byContradiction fun h' => hn (cmpL_eq a b h' h)
theorem ltm_of_le_lt {a b c : List Int} (h : ¬ cmpL b a < 0) (h' : cmpL b c < 0) : cmpL a c < 0 := Decidable.byContradiction fun k => cmpL_ntrans b a c h k h'
theorem notm_lt_lt {a b : List Int} (h : cmpL a b < 0) : ¬ cmpL b a < 0 := fun h' => absurd (cmpL_trans a b a h h') (by rw [cmpL_self]; decide)
theorem str_ext {a b : List (List Int)} (ha : Str a) (hb : Str b) (h : ∀ x, x ∈ a ↔ x ∈ b) : a = b := by
  have nd : ∀ {r}, Str r → r.Nodup := fun hr => hr.imp (fun {x y} h e => by rw [e, cmpL_self] at h; exact absurd h (by decide))
  exact List.Perm.eq_of_pairwise (le := fun a b => cmpL a b < 0) (fun x y _ _ h1 h2 => absurd h2 (notm_lt_lt h1)) ha hb ((List.perm_ext_iff_of_nodup (nd ha) (nd hb)).2 h)
theorem comp_mem (ys : List (List Int)) (y : List Int) : y ∈ compL ys ↔ y ∈ ys := by
  have hX : ∀ i, i < ys.length → ys.getD i [] ∈ ys := fun i hi => by
    rw [List.getD_eq_getElem?_getD, List.getElem?_eq_getElem hi]
    exact List.getElem_mem hi
  unfold compL
  rw [List.mem_map]
  constructor
  · rintro ⟨i, hi, rfl⟩
    exact hX i (kap_lt _ _ i hi)
  · intro hy
    obtain ⟨j, hj, rfl⟩ := List.mem_iff_getElem.1 hy
    have key : ∀ j, j < ys.length → ∃ i, i ∈ kap (fun i => ys.getD i []) ys.length ∧ ys.getD i [] = ys.getD j [] := by
      intro j
      induction j with
      | zero => intro h; exact ⟨0, List.mem_filter.2 ⟨List.mem_range.2 h, by simp⟩, rfl⟩
      | succ j ih =>
        intro h
        by_cases e : ys.getD (j + 1) [] = ys.getD j []
        · obtain ⟨i, h1, h2⟩ := ih (by omega)
          exact ⟨i, h1, h2.trans e.symm⟩
        · refine ⟨j + 1, List.mem_filter.2 ⟨List.mem_range.2 h, ?_⟩, rfl⟩
          show (decide (j + 1 = 0) || !decide (ys.getD (j + 1) [] = ys.getD (j + 1 - 1) [])) = true
          rw [Nat.add_sub_cancel, decide_eq_false e]
          simp
    obtain ⟨i, h1, h2⟩ := key j hj
    refine ⟨i, h1, h2.trans ?_⟩
    rw [List.getD_eq_getElem?_getD, List.getElem?_eq_getElem hj]
    rfl
theorem comp_str {ys : List (List Int)} (h : ys.Pairwise (fun a b => ¬ cmpL b a < 0)) : Str (compL ys) := by
  unfold compL Str
  rw [List.pairwise_map]
  have hle : ∀ i j, i ≤ j → j < ys.length → ¬ cmpL (ys.getD j []) (ys.getD i []) < 0 := fun i j hij hj => by
    rcases Nat.lt_or_ge i j with hlt | hge
    · have := List.pairwise_iff_getElem.1 h i j (by omega) hj hlt
      rw [List.getD_eq_getElem?_getD, List.getD_eq_getElem?_getD, List.getElem?_eq_getElem hj, List.getElem?_eq_getElem (show i < ys.length by omega)]
      exact this
    · have : i = j := by omega
      subst this
      rw [cmpL_self]
      decide
  have hk : (kap (fun i => ys.getD i []) ys.length).Pairwise (fun i j => i < j) := List.Pairwise.sublist List.filter_sublist List.pairwise_lt_range
  refine (List.Pairwise.and_mem.1 hk).imp (fun {i j} hij => ?_)
  obtain ⟨_, hj, hlt⟩ := hij
  have hjl := kap_lt _ _ j hj
  have hne := (List.mem_filter.1 hj).2
  have hne : ys.getD j [] ≠ ys.getD (j - 1) [] := by
    intro e
    have hne : (decide (j = 0) || !decide (ys.getD j [] = ys.getD (j - 1) [])) = true := hne
    rw [decide_eq_true e, decide_eq_false (show ¬ j = 0 by omega)] at hne
    cases hne
  exact ltm_of_le_lt (hle i (j - 1) (by omega) (by omega)) (ltm_of_le_ne (hle (j - 1) j (by omega) hjl) (fun e => hne e.symm))
theorem comp_len (ys : List (List Int)) : (compL ys).length ≤ ys.length := by
  unfold compL
  rw [List.length_map]
  exact kap_len _ _
theorem merge_pw (xs : List (List Int)) : (xs.mergeSort leL).Pairwise (fun a b => ¬ cmpL b a < 0) := by
  refine (List.pairwise_mergeSort (le := leL) (fun a b c h1 h2 => ?_) (fun a b => ?_) xs).imp (fun h => ?_)
  · simp only [leL, Bool.not_eq_true', decide_eq_false_iff_not] at *
    exact cmpL_ntrans c b a h2 h1
  · simp only [leL, Bool.or_eq_true, Bool.not_eq_true', decide_eq_false_iff_not]
    by_cases h : cmpL b a < 0
    · exact Or.inr (notm_lt_lt h)
    · exact Or.inl h
  · simpa [leL] using h
theorem tail_str (xs : List (List Int)) : Str (tailL xs) ∧ (∀ y, y ∈ tailL xs ↔ y ∈ xs.map sortL) ∧ (tailL xs).length ≤ xs.length := by
  refine ⟨comp_str (merge_pw _), fun y => (comp_mem _ y).trans (List.mergeSort_perm _ _).mem_iff, Nat.le_trans (comp_len _) ?_⟩
  rw [List.length_mergeSort, List.length_map]
  exact Nat.le_refl _
theorem less4_ev (x y : List Int) (hxy : x.length = y.length) (hl : x.length ≤ 1048576) : Ev (fun k => spec_l4Less.f k x y) (decide (cmpL x y < 0)) := by
  refine Cm.ev ?_
  unfold spec_l4Less.f
  refine Cm.up (fun k i (_ : Unit) => spec_l4Less.l0 k x y i) x.length (fun i _ => 0 ≤ i ∧ cmpL x y = cmpL (x.drop i.toNat) (y.drop i.toNat)) _ ?_ 0 () (by omega) ⟨by omega, by simp⟩
  rintro i _ hi ⟨h0, ht⟩ ih
  by_cases h : i < x.length
  · have hx : i.toNat < x.length := by omega
    have hy : i.toNat < y.length := by omega
    have e1 : rd x i = x[i.toNat] := by simp [rd, List.getD_eq_getElem?_getD, List.getElem?_eq_getElem hx]
    have e2 : rd y i = y[i.toNat] := by simp [rd, List.getD_eq_getElem?_getD, List.getElem?_eq_getElem hy]
    rw [List.drop_eq_getElem_cons hx, List.drop_eq_getElem_cons hy, ← e1, ← e2] at ht
    simp only [cmpL] at ht
    by_cases e : rd x i = rd y i
    · refine Cm.step (fun k => by simp (disch := omega) only [spec_l4Less.l0, if_pos h, if_pos h0, if_pos (show i < (y.length : Int) by omega), if_pos e, w64 (i + 1)]; try rfl) (ih () h ⟨by omega, ?_⟩)
      rw [if_neg (by omega), if_neg (by omega)] at ht
      rw [ht, show (i + 1).toNat = i.toNat + 1 by omega]
    · refine Cm.step (fun k => by simp only [spec_l4Less.l0, if_pos h, if_pos h0, if_pos (show i < (y.length : Int) by omega), if_neg e]; try rfl) (Cm.now ?_)
      rw [ht]
      by_cases c : rd x i < rd y i
      · rw [if_pos c]
        simp [c]
      · rw [if_neg c, if_pos (by omega)]
        simp [c]
  · refine Cm.step (fun k => by simp only [spec_l4Less.l0, if_neg h]; try rfl) (Cm.now ?_)
    rw [ht, List.drop_of_length_le (by omega), List.drop_of_length_le (by omega)]
    rfl
theorem same4_ev (x y : List Int) (hxy : x.length = y.length) (hl : x.length ≤ 1048576) : Ev (fun k => spec_l1Same.f k x y) (decide (x = y)) := by
  refine Cm.ev ?_
  unfold spec_l1Same.f
  refine Cm.pos (by omega) ?_
  refine Cm.up (fun k i (_ : Unit) => spec_l1Same.l0 k x y i) x.length (fun i _ => 0 ≤ i ∧ (x = y ↔ x.drop i.toNat = y.drop i.toNat)) _ ?_ 0 () (by omega) ⟨by omega, by simp⟩
  rintro i _ hi ⟨h0, ht⟩ ih
  by_cases h : i < x.length
  · have hx : i.toNat < x.length := by omega
    have hy : i.toNat < y.length := by omega
    have e1 : rd x i = x[i.toNat] := by simp [rd, List.getD_eq_getElem?_getD, List.getElem?_eq_getElem hx]
    have e2 : rd y i = y[i.toNat] := by simp [rd, List.getD_eq_getElem?_getD, List.getElem?_eq_getElem hy]
    rw [List.drop_eq_getElem_cons hx, List.drop_eq_getElem_cons hy, ← e1, ← e2, List.cons.injEq] at ht
    by_cases e : rd x i = rd y i
    · refine Cm.step (fun k => by simp (disch := omega) only [spec_l1Same.l0, if_pos h, if_pos h0, if_pos (show i < (y.length : Int) by omega), if_pos e, w64 (i + 1)]; try rfl) (ih () h ⟨by omega, ?_⟩)
      rw [ht, show (i + 1).toNat = i.toNat + 1 by omega]
      exact ⟨fun h => h.2, fun h => ⟨e, h⟩⟩
    · refine Cm.step (fun k => by simp only [spec_l1Same.l0, if_pos h, if_pos h0, if_pos (show i < (y.length : Int) by omega), if_neg e]; try rfl) (Cm.now ?_)
      rw [decide_eq_false (fun h => e (ht.1 h).1)]
  · refine Cm.step (fun k => by simp only [spec_l1Same.l0, if_neg h]; try rfl) (Cm.now ?_)
    rw [decide_eq_true (ht.2 (by rw [List.drop_of_length_le (by omega), List.drop_of_length_le (by omega)]))]
theorem sortm_is {z out : List Int} (hp : out.Perm z) (hs : out.Pairwise (fun a b => a ≤ b)) : out = sortL z := by
  have hm : (sortL z).Pairwise (fun a b => a ≤ b) := (List.pairwise_mergeSort (le := fun x y : Int => decide (x ≤ y)) (fun a b c h1 h2 => by simp only [decide_eq_true_eq] at *; omega) (fun a b => by simp only [Bool.or_eq_true, decide_eq_true_eq]; omega) z).imp (fun h => by simpa using h)
  exact List.Perm.eq_of_pairwise (le := fun a b : Int => a ≤ b) (fun a b _ _ h1 h2 => by omega) hs hm (hp.trans (List.mergeSort_perm z _).symm)
theorem insm_perm (out : List Int) (x : Int) (n : Nat) : ((([] ++ out.take n) ++ [x]) ++ out.drop n).Perm (out ++ [x]) := by
  rw [List.nil_append]
  refine List.Perm.trans ?_ (List.perm_append_comm.symm)
  rw [List.append_assoc]
  refine List.Perm.trans List.perm_append_comm ?_
  rw [List.append_assoc]
  show (x :: (out.drop n ++ out.take n)).Perm (x :: out)
  refine List.Perm.cons x (List.perm_append_comm.trans ?_)
  rw [List.take_append_drop]
theorem insm_asc {out : List Int} {x : Int} {n : Nat} (h : out.Pairwise (fun a b => a ≤ b)) (h1 : ∀ y ∈ out.take n, y ≤ x) (h2 : ∀ y ∈ out.drop n, x ≤ y) : ((([] ++ out.take n) ++ [x]) ++ out.drop n).Pairwise (fun a b => a ≤ b) := by
  rw [List.nil_append]
  have hh := h
  rw [← List.take_append_drop n out] at hh
  obtain ⟨ha, hb, hab⟩ := List.pairwise_append.1 hh
  refine List.pairwise_append.2 ⟨List.pairwise_append.2 ⟨ha, List.pairwise_singleton _ _, fun a ha' b hb' => ?_⟩, hb, fun a ha' b hb' => ?_⟩
  · rw [List.mem_singleton.1 hb']
    exact h1 a ha'
  · rcases List.mem_append.1 ha' with h | h
    · exact hab a h b hb'
    · rw [List.mem_singleton.1 h]
      exact h2 b hb'
theorem rdm_get (l : List Int) (i : Int) (h0 : 0 ≤ i) (h1 : i < l.length) : rd l i = l[i.toNat]'(by omega) := by
  have h : i.toNat < l.length := by omega
  simp [rd, List.getD_eq_getElem?_getD, List.getElem?_eq_getElem h]
theorem sorted4_ev (z : List Int) (hl : z.length ≤ 1048576) : Ev (fun k => spec_l4Sorted.f k z) (sortL z) := by
  refine Cm.ev ?_
  unfold spec_l4Sorted.f
  refine Cm.up (fun k i out => spec_l4Sorted.l0 k z out i) z.length (fun i out => 0 ≤ i ∧ out.Perm (z.take i.toNat) ∧ out.Pairwise (fun a b => a ≤ b)) _ ?_ 0 [] (by omega) ⟨by omega, by simp, List.Pairwise.nil⟩
  rintro i out hi ⟨h0, hp, hs⟩ ih
  have hlen : out.length = i.toNat := by rw [hp.length_eq, List.length_take]; omega
  by_cases h : i < z.length
  · refine Cm.step (fun k => by simp only [spec_l4Sorted.l0, if_pos h]; try rfl) ?_
    have fin : ∀ n : Nat, n ≤ out.length → (∀ y ∈ out.take n, y ≤ rd z i) → (∀ y ∈ out.drop n, rd z i ≤ y) → Cm (fun k => spec_l4Sorted.l0 k z ((([] ++ out.take n) ++ [rd z i]) ++ out.drop n) (i + 1)) (fun r => r = sortL z) := fun n hn h1 h2 => by
      refine ih _ h ⟨by omega, ?_, insm_asc hs h1 h2⟩
      rw [take_rd z i h0 h]
      exact (insm_perm out (rd z i) n).trans (hp.append_right _)
    refine Cm.up (fun k j (_ : Unit) => spec_l4Sorted.l1 k z out i j) out.length (fun j _ => 0 ≤ j ∧ ∀ y ∈ out.take j.toNat, y ≤ rd z i) _ ?_ 0 () (by omega) ⟨by omega, by simp⟩
    rintro j _ hj ⟨j0, ht⟩ ihj
    have g1 : (([] : List Int) ++ out.take j.toNat).length < 17592186044416 := by simp; omega
    have g0 : ([] : List Int).length + (out.take j.toNat).length < 17592186044416 := by simp; omega
    have g2 : (([] : List Int) ++ out.take j.toNat).length + [rd z i].length < 17592186044416 := by simp; omega
    have g3 : ((([] : List Int) ++ out.take j.toNat) ++ [rd z i]).length + (out.drop j.toNat).length < 17592186044416 := by simp; omega
    by_cases hjl : j < out.length
    · by_cases e : rd out j ≤ rd z i
      · refine Cm.step (fun k => by simp (disch := omega) only [spec_l4Sorted.l1, if_pos hjl, if_pos j0, if_pos h0, if_pos h, if_pos e, w64 (j + 1)]; try rfl) (ihj () hjl ⟨by omega, ?_⟩)
        rw [take_rd out j j0 hjl]
        intro y hy
        rcases List.mem_append.1 hy with hy | hy
        · exact ht y hy
        · rw [List.mem_singleton.1 hy]
          exact e
      · refine Cm.step (fun k => by simp (disch := omega) only [spec_l4Sorted.l1, if_pos hjl, if_pos j0, if_pos h0, if_pos h, if_neg e, Option.bind_some, if_pos (show j ≤ (out.length : Int) by omega), if_pos g0, if_pos g2, if_pos g3, w64 (i + 1)]; try rfl) (fin j.toNat (by omega) ht ?_)
        intro y hy
        rw [List.drop_eq_getElem_cons (show j.toNat < out.length by omega)] at hy
        have hd := hs
        rw [← List.take_append_drop j.toNat out, List.drop_eq_getElem_cons (show j.toNat < out.length by omega)] at hd
        have hc := (List.pairwise_append.1 hd).2.1
        rw [rdm_get out j j0 hjl] at e
        rcases List.mem_cons.1 hy with hy | hy
        · rw [hy]
          omega
        · have := (List.pairwise_cons.1 hc).1 y hy
          omega
    · have ej : j.toNat = out.length := by omega
      refine Cm.step (fun k => by simp (disch := omega) only [spec_l4Sorted.l1, if_neg hjl, if_pos j0, if_pos h0, if_pos h, Option.bind_some, if_pos (show j ≤ (out.length : Int) by omega), if_pos g0, if_pos g2, if_pos g3, w64 (i + 1)]; try rfl) (fin j.toNat (by omega) ht ?_)
      rw [ej, List.drop_length]
      intro y hy
      cases hy
  · refine Cm.step (fun k => by simp only [spec_l4Sorted.l0, if_neg h]; try rfl) (Cm.now ?_)
    rw [take_all z i (by omega)] at hp
    exact sortm_is hp hs
theorem takem_rd2 (l : List (List Int)) (i : Int) (h0 : 0 ≤ i) (h1 : i < l.length) : l.take (i + 1).toNat = l.take i.toNat ++ [rd_L2 l i] := by
  have h : i.toNat < l.length := by omega
  rw [show (i + 1).toNat = i.toNat + 1 by omega, List.take_succ_eq_append_getElem h]
  simp [rd_L2, List.getD_eq_getElem?_getD, List.getElem?_eq_getElem h]
theorem rdm_get2 (l : List (List Int)) (i : Int) (h0 : 0 ≤ i) (h1 : i < l.length) : rd_L2 l i = l[i.toNat]'(by omega) := by
  have h : i.toNat < l.length := by omega
  simp [rd_L2, List.getD_eq_getElem?_getD, List.getElem?_eq_getElem h]
theorem rdm_mem2 (l : List (List Int)) (i : Int) (h0 : 0 ≤ i) (h1 : i < l.length) : rd_L2 l i ∈ l := by
  rw [rdm_get2 l i h0 h1]
  exact List.getElem_mem _
/-- A list put to its place, once. -/
theorem put4_cm (ls : List (List Int)) (x : List Int) (m : Nat) (hm : m ≤ 1048576) (hl : ls.length ≤ 1048576) (hx : x.length = m) (hls : ∀ y ∈ ls, y.length = m) (hs : Str ls) : Cm (fun k => spec_l4Put.f k ls x) (fun r => Str r ∧ (∀ y, y ∈ r ↔ y = x ∨ y ∈ ls) ∧ r.length ≤ ls.length + 1) := by
  unfold spec_l4Put.f
  refine Cm.up (fun k i (_ : Unit) => spec_l4Put.l0 k ls x i) ls.length (fun i _ => 0 ≤ i ∧ ∀ y ∈ ls.take i.toNat, cmpL y x < 0) _ ?_ 0 () (by omega) ⟨by omega, by simp⟩
  rintro i _ hi ⟨h0, ht⟩ ih
  have g0 : ([] : List (List Int)).length + (ls.take i.toNat).length < 5864062014805 := by simp; omega
  have g2 : (([] : List (List Int)) ++ ls.take i.toNat).length + [x].length < 5864062014805 := by simp; omega
  have g3 : ((([] : List (List Int)) ++ ls.take i.toNat) ++ [x]).length + (ls.drop i.toNat).length < 5864062014805 := by simp; omega
  have fin : (∀ y ∈ ls.drop i.toNat, cmpL x y < 0) → Str ((([] ++ ls.take i.toNat) ++ [x]) ++ ls.drop i.toNat) ∧ (∀ y, y ∈ (([] ++ ls.take i.toNat) ++ [x]) ++ ls.drop i.toNat ↔ y = x ∨ y ∈ ls) ∧ ((([] ++ ls.take i.toNat) ++ [x]) ++ ls.drop i.toNat).length ≤ ls.length + 1 := fun h2 => by
    rw [List.nil_append]
    have hh := hs
    rw [Str, ← List.take_append_drop i.toNat ls] at hh
    obtain ⟨ha, hb, hab⟩ := List.pairwise_append.1 hh
    refine ⟨List.pairwise_append.2 ⟨List.pairwise_append.2 ⟨ha, List.pairwise_singleton _ _, fun a ha' b hb' => ?_⟩, hb, fun a ha' b hb' => ?_⟩, fun y => ?_, by simp; omega⟩
    · rw [List.mem_singleton.1 hb']
      exact ht a ha'
    · rcases List.mem_append.1 ha' with h | h
      · exact hab a h b hb'
      · rw [List.mem_singleton.1 h]
        exact h2 b hb'
    · have hy : y ∈ ls ↔ y ∈ ls.take i.toNat ∨ y ∈ ls.drop i.toNat := by rw [← List.mem_append, List.take_append_drop]
      rw [hy, List.mem_append, List.mem_append, List.mem_singleton]
      exact ⟨fun h => h.elim (fun h => h.elim (fun h => .inr (.inl h)) .inl) (fun h => .inr (.inr h)), fun h => h.elim (fun h => .inl (.inr h)) (fun h => h.elim (fun h => .inl (.inl h)) .inr)⟩
  by_cases h : i < ls.length
  · have hrl : (rd_L2 ls i).length = m := hls _ (rdm_mem2 ls i h0 h)
    refine Cm.step (fun k => by simp only [spec_l4Put.l0, if_pos h, if_pos h0]; try rfl) (Cm.bindE (less4_ev (rd_L2 ls i) x (by omega) (by omega)) ?_)
    refine Cm.ite (fun e => ?_) (fun e => Cm.bindE (same4_ev (rd_L2 ls i) x (by omega) (by omega)) (Cm.ite (fun e2 => Cm.now ?_) (fun e2 => ?_)))
    · rw [w64 (i + 1) (by omega) (by omega)]
      refine ih () h ⟨by omega, ?_⟩
      rw [takem_rd2 ls i h0 h]
      intro y hy
      rcases List.mem_append.1 hy with hy | hy
      · exact ht y hy
      · rw [List.mem_singleton.1 hy]
        exact of_decide_eq_true e
    · have e2 := of_decide_eq_true e2
      exact ⟨hs, fun y => ⟨.inr, fun h' => h'.elim (fun h' => h' ▸ e2 ▸ rdm_mem2 ls i h0 h) id⟩, by omega⟩
    · refine Cm.congr (fun k => by simp (disch := omega) only [Option.bind_some, if_pos (show i ≤ (ls.length : Int) by omega), if_pos g0, if_pos g2, if_pos g3]; try rfl) (Cm.now (fin ?_))
      rw [decide_eq_true_eq] at e e2
      intro y hy
      have hd := hs
      rw [Str, ← List.take_append_drop i.toNat ls, List.drop_eq_getElem_cons (show i.toNat < ls.length by omega)] at hd
      have hc := (List.pairwise_append.1 hd).2.1
      rw [List.drop_eq_getElem_cons (show i.toNat < ls.length by omega)] at hy
      rw [rdm_get2 ls i h0 h] at e e2
      have hlt : cmpL x (ls[i.toNat]'(by omega)) < 0 := ltm_of_le_ne e (fun e' => e2 e'.symm)
      rcases List.mem_cons.1 hy with hy | hy
      · rw [hy]
        exact hlt
      · exact cmpL_trans _ _ _ hlt ((List.pairwise_cons.1 hc).1 y hy)
  · refine Cm.step (fun k => by simp (disch := omega) only [spec_l4Put.l0, if_neg h, Option.bind_some, if_pos h0, if_pos (show i ≤ (ls.length : Int) by omega), if_pos g0, if_pos g2, if_pos g3]; try rfl) (Cm.now (fin ?_))
    rw [List.drop_of_length_le (by omega)]
    intro y hy
    cases hy
/-- Each list, with each node behind it. -/
def stp (now : List (List Int)) (ball : List Int) : List (List Int) := now.flatMap fun z => ball.map fun x => z ++ [x]
def rw4 (s : Int) (l : List S71) (L : List Int) : List (List Int) := L.foldl (fun now c => stp now (Bc s l c)) [[]]
theorem stp_len (now : List (List Int)) (ball : List Int) : (stp now ball).length = now.length * ball.length := by
  induction now with
  | nil => simp [stp]
  | cons z now ih =>
    have : stp (z :: now) ball = (ball.map fun x => z ++ [x]) ++ stp now ball := rfl
    rw [this, List.length_append, ih, List.length_map, List.length_cons, Nat.succ_mul]
    omega
theorem rw4_snoc (s : Int) (l : List S71) (L : List Int) (c : Int) : rw4 s l (L ++ [c]) = stp (rw4 s l L) (Bc s l c) := by
  unfold rw4
  rw [List.foldl_append]
  rfl
theorem rw4_facts (s : Int) (l : List S71) (h8 : s ≤ 8) (L : List Int) : (∀ n, n ≤ L.length → (rw4 s l (L.take n)).length ≤ 8 ^ n ∧ (∀ z ∈ rw4 s l (L.take n), z.length = n) ∧ ((∀ x ∈ L, 0 ≤ x ∧ x < s) → 0 < (rw4 s l (L.take n)).length)) := by
  intro n
  induction n with
  | zero => exact fun _ => ⟨by simp [rw4], by simp [rw4], fun _ => by simp [rw4]⟩
  | succ n ih =>
    intro hn
    obtain ⟨h1, h2, h3⟩ := ih (by omega)
    have e : L.take (n + 1) = L.take n ++ [L[n]'(by omega)] := List.take_succ_eq_append_getElem (by omega)
    rw [e, rw4_snoc]
    have hb : (Bc s l (L[n]'(by omega))).length ≤ 8 := by have := bc_len (s := s) (l := l) (x := L[n]'(by omega)); omega
    refine ⟨?_, fun z hz => ?_, fun hm => ?_⟩
    · rw [stp_len, Nat.pow_succ]
      exact Nat.mul_le_mul h1 hb
    · obtain ⟨y, hy, hz⟩ := List.mem_flatMap.1 hz
      obtain ⟨x, _, rfl⟩ := List.mem_map.1 hz
      rw [List.length_append, h2 y hy]
      rfl
    · rw [stp_len]
      exact Nat.mul_pos (h3 hm) (List.length_pos_of_mem (bc_self (hm _ (List.getElem_mem (show n < L.length by omega)))))
theorem sp2 {s : Int} {l : List S71} {L : List Int} (x5 : List (List Int)) (i : Int) (ball : List Int) (j : Int) (pre : List (List Int)) (Q : List (List Int) → Prop) (j0 : 0 ≤ j) (jl : j < x5.length) (hz : (rd_L2 x5 j).length ≤ 1000) (hp : pre.length ≤ 100000) (hb : ball.length ≤ 100) (hx : x5.length ≤ 100000)
    (H : Cm (fun n => spec_l4Moves.l1 n L x5 i (pre ++ ball.map fun x => rd_L2 x5 j ++ [x]) ball (j + 1) s l) Q) : Cm (fun n => spec_l4Moves.l2 n L x5 i pre ball j 0 s l) Q := by
  obtain ⟨z, hzz⟩ : ∃ z, z = rd_L2 x5 j := ⟨_, rfl⟩
  rw [← hzz] at hz H
  refine Cm.up (fun n k acc => spec_l4Moves.l2 n L x5 i acc ball j k s l) ball.length (fun k acc => 0 ≤ k ∧ acc = pre ++ (ball.take k.toNat).map fun x => z ++ [x]) _ ?_ 0 pre (by omega) ⟨by omega, by simp⟩
  rintro k acc hk ⟨k0, rfl⟩ ih
  by_cases h : k < ball.length
  · have ho : spec_l1Own.f z = some z := by
      unfold spec_l1Own.f
      simp only [Option.bind_some, List.length_nil, Nat.zero_add, List.nil_append]
      rw [if_pos (by omega)]
    have g1 : z.length + [rd ball k].length < 17592186044416 := by simp; omega
    have g2 : (pre ++ (ball.take k.toNat).map fun x => z ++ [x]).length + [z ++ [rd ball k]].length < 5864062014805 := by simp; omega
    refine Cm.step (fun n => by simp (disch := omega) only [spec_l4Moves.l2, if_pos h, if_pos j0, if_pos jl, ← hzz, ho, Option.bind_some, if_pos k0, if_pos g1, if_pos g2, w64 (k + 1)]; try rfl) (ih _ h ⟨by omega, ?_⟩)
    rw [take_rd ball k k0 h, List.map_append, List.append_assoc]
    rfl
  · refine Cm.step (fun n => by simp (disch := omega) only [spec_l4Moves.l2, if_neg h, w64 (j + 1)]; try rfl) ?_
    rw [take_all ball k (by omega)]
    exact H
theorem sp1 {s : Int} {l : List S71} {L : List Int} (x5 : List (List Int)) (i : Int) (ball : List Int) (Q : List (List Int) → Prop) (hz : ∀ z ∈ x5, z.length ≤ 1000) (hb : ball.length ≤ 100) (hx : x5.length ≤ 1000) (hi : 0 ≤ i ∧ i ≤ 1000)
    (H : Cm (fun n => spec_l4Moves.l0 n L (stp x5 ball) (i + 1) s l) Q) : Cm (fun n => spec_l4Moves.l1 n L x5 i [] ball 0 s l) Q := by
  refine Cm.up (fun n j acc => spec_l4Moves.l1 n L x5 i acc ball j s l) x5.length (fun j acc => 0 ≤ j ∧ acc = stp (x5.take j.toNat) ball) _ ?_ 0 [] (by omega) ⟨by omega, by simp [stp]⟩
  rintro j acc hj ⟨j0, rfl⟩ ih
  by_cases h : j < x5.length
  · have hlen : (stp (x5.take j.toNat) ball).length ≤ 100000 := by
      rw [stp_len, List.length_take]
      exact Nat.mul_le_mul (show min j.toNat x5.length ≤ 1000 by omega) hb
    refine Cm.step (fun n => by simp only [spec_l4Moves.l1, if_pos h]; try rfl) (sp2 x5 i ball j _ Q j0 h (hz _ (rdm_mem2 x5 j j0 h)) hlen hb (by omega) (ih _ h ⟨by omega, ?_⟩))
    rw [takem_rd2 x5 j j0 h]
    unfold stp
    rw [List.flatMap_append]
    simp
  · refine Cm.step (fun n => by simp (disch := omega) only [spec_l4Moves.l1, if_neg h, w64 (i + 1)]; try rfl) ?_
    rw [List.take_of_length_le (show x5.length ≤ j.toNat by omega)]
    exact H
theorem sp0 {s : Int} {l : List S71} {L : List Int} (hl : l.length ≤ 1048576) (hG : Gr.Good s l) (hL : L.length ≤ 3) (hm : ∀ x ∈ L, 0 ≤ x ∧ x < s) (Q : List (List Int) → Prop)
    (H : Cm (fun n => spec_l4Moves.l3 n (rw4 s l L) [] 0) Q) : Cm (fun n => spec_l4Moves.f n s l L) Q := by
  unfold spec_l4Moves.f
  refine Cm.up (fun n i x5 => spec_l4Moves.l0 n L x5 i s l) L.length (fun i x5 => 0 ≤ i ∧ x5 = rw4 s l (L.take i.toNat)) _ ?_ 0 [[]] (by omega) ⟨by omega, by simp [rw4]⟩
  rintro i x5 hi ⟨i0, rfl⟩ ih
  have h8 := hG.2.1
  obtain ⟨f1, f2, _⟩ := rw4_facts s l h8 L i.toNat (by omega)
  by_cases h : i < L.length
  · have f3 : (rw4 s l (L.take i.toNat)).length ≤ 64 := Nat.le_trans f1 (by
      have : i.toNat ≤ 2 := by omega
      exact Nat.pow_le_pow_right (n := 8) (by decide) this)
    have hb := bc_len (s := s) (l := l) (x := rd L i)
    refine Cm.step (fun n => by simp only [spec_l4Moves.l0, if_pos h, if_pos i0]; try rfl) (Cm.bindE (ball_ev s l hl hG (rd L i) (hm _ (rd_mem L i i0 h))) (sp1 (rw4 s l (L.take i.toNat)) i (Bc s l (rd L i)) Q (fun z hz => by rw [f2 z hz]; omega) (by omega) (by omega) (by omega) (ih _ h ⟨by omega, ?_⟩)))
    rw [take_rd L i i0 h, rw4_snoc]
  · refine Cm.step (fun n => by simp only [spec_l4Moves.l0, if_neg h]; try rfl) ?_
    rw [take_all L i (by omega)]
    exact H
/-- What the specification makes of the lists. -/
theorem sp3 (xs : List (List Int)) (m : Nat) (hm : m ≤ 1048576) (hx : xs.length ≤ 1048576) (hz : ∀ z ∈ xs, z.length = m) : Cm (fun n => spec_l4Moves.l3 n xs [] 0) (fun r => Str r ∧ (∀ y, y ∈ r ↔ y ∈ xs.map sortL)) := by
  refine Cm.up (fun n i acc => spec_l4Moves.l3 n xs acc i) xs.length (fun i acc => 0 ≤ i ∧ Str acc ∧ (∀ y, y ∈ acc ↔ y ∈ (xs.take i.toNat).map sortL) ∧ acc.length ≤ i.toNat) _ ?_ 0 [] (by omega) ⟨by omega, List.Pairwise.nil, by simp, by simp⟩
  rintro i acc hi ⟨i0, hs, hme, hle⟩ ih
  by_cases h : i < xs.length
  · have hzl := hz _ (rdm_mem2 xs i i0 h)
    have hacc : ∀ y ∈ acc, y.length = m := fun y hy => by
      obtain ⟨w, hw, rfl⟩ := List.mem_map.1 ((hme y).1 hy)
      rw [sortL_length, hz w (List.mem_of_mem_take hw)]
    refine Cm.step (fun n => by simp only [spec_l4Moves.l3, if_pos h, if_pos i0]; try rfl) (Cm.bindE (sorted4_ev (rd_L2 xs i) (by omega)) (Cm.bind (put4_cm acc (sortL (rd_L2 xs i)) m hm (by omega) (by rw [sortL_length, hzl]) hacc hs) ?_))
    rintro r ⟨r1, r2, r3⟩
    rw [w64 (i + 1) (by omega) (by omega)]
    refine ih r h ⟨by omega, r1, fun y => ?_, by omega⟩
    rw [r2 y, hme y, takem_rd2 xs i i0 h, List.map_append, List.mem_append]
    simp only [List.map_cons, List.map_nil, List.mem_singleton]
    exact Or.comm
  · refine Cm.step (fun n => by simp only [spec_l4Moves.l3, if_neg h]; try rfl) (Cm.now ⟨hs, fun y => ?_⟩)
    rw [hme y, List.take_of_length_le (by omega)]
theorem im2 {net L : List Int} (c : Int) (z : List Int) (N : Int) (x5 : List (List Int)) (len i : Int) (ball : List Int) (j : Int) (pre : List (List Int)) (Q : List (List Int) → Prop) (hz : z.length ≤ 1000) (hp : pre.length ≤ 100000) (hb : ball.length ≤ 100) (hj : 0 ≤ j ∧ j ≤ 100000)
    (H : Cm (fun n => impl_net_copRaw.l1 n c (pre ++ ball.map fun x => z ++ [x]) L N i x5 len (j + 1) net) Q) : Cm (fun n => impl_net_copRaw.l2 n c pre z L N i x5 len j ball ball.length 0 net) Q := by
  refine Cm.up (fun n k acc => impl_net_copRaw.l2 n c acc z L N i x5 len j ball ball.length k net) ball.length (fun k acc => 0 ≤ k ∧ acc = pre ++ (ball.take k.toNat).map fun x => z ++ [x]) _ ?_ 0 pre (by omega) ⟨by omega, by simp⟩
  rintro k acc hk ⟨k0, rfl⟩ ih
  by_cases h : k < ball.length
  · have ho : slices_Clone_int_int.f z = some z := by
      unfold slices_Clone_int_int.f
      rw [if_pos (by omega)]
    have g1 : z.length < 17592186044416 := by omega
    have g2 : (pre ++ (ball.take k.toNat).map fun x => z ++ [x]).length < 5864062014805 := by simp; omega
    refine Cm.step (fun n => by simp (disch := omega) only [impl_net_copRaw.l2, if_pos h, if_pos k0, ho, Option.bind_some, if_pos g1, if_pos g2, w64 (k + 1)]; try rfl) (ih _ h ⟨by omega, ?_⟩)
    rw [take_rd ball k k0 h, List.map_append, List.append_assoc]
    rfl
  · refine Cm.step (fun n => by simp (disch := omega) only [impl_net_copRaw.l2, if_neg h, w64 (j + 1)]; try rfl) ?_
    rw [take_all ball k (by omega)]
    exact H
theorem im1 {s : Int} {l : List S71} {net L : List Int} (hG : Gr.Good s l) (hN : Net s l net) (c : Int) (hc : 0 ≤ c ∧ c < s) (N : Int) (x5 : List (List Int)) (i : Int) (Q : List (List Int) → Prop) (hz : ∀ z ∈ x5, z.length ≤ 1000) (hx : x5.length ≤ 1000) (hi : 0 ≤ i ∧ i ≤ 1000)
    (H : Cm (fun n => impl_net_copRaw.l0 n (stp x5 (Bc s l c)) L N (i + 1) net) Q) : Cm (fun n => impl_net_copRaw.l1 n c [] L N i x5 x5.length 0 net) Q := by
  have h8 := hG.2.1
  have hb := bc_len (s := s) (l := l) (x := c)
  obtain ⟨q, hq, hS⟩ := setof_bc hG hN c hc
  refine Cm.up (fun n j acc => impl_net_copRaw.l1 n c acc L N i x5 x5.length j net) x5.length (fun j acc => 0 ≤ j ∧ acc = stp (x5.take j.toNat) (Bc s l c)) _ ?_ 0 [] (by omega) ⟨by omega, by simp [stp]⟩
  rintro j acc hj ⟨j0, rfl⟩ ih
  by_cases h : j < x5.length
  · have hlen : (stp (x5.take j.toNat) (Bc s l c)).length ≤ 100000 := by
      rw [stp_len, List.length_take]
      exact Nat.mul_le_mul (show min j.toNat x5.length ≤ 1000 by omega) (show (Bc s l c).length ≤ 100 by omega)
    refine Cm.step (fun n => by simp only [impl_net_copRaw.l1, if_pos h, if_pos j0, hq, Option.bind_some]; try rfl) (Cm.bindE hS (im2 (net := net) (L := L) c (rd_L2 x5 j) N x5 x5.length i (Bc s l c) j _ Q (hz _ (rdm_mem2 x5 j j0 h)) hlen (by omega) (by omega) (ih _ h ⟨by omega, ?_⟩)))
    rw [takem_rd2 x5 j j0 h]
    unfold stp
    rw [List.flatMap_append]
    simp
  · refine Cm.step (fun n => by simp (disch := omega) only [impl_net_copRaw.l1, if_neg h, w64 (i + 1)]; try rfl) ?_
    rw [List.take_of_length_le (show x5.length ≤ j.toNat by omega)]
    exact H
theorem im0 {s : Int} {l : List S71} {net L : List Int} (hG : Gr.Good s l) (hN : Net s l net) (hL : L.length ≤ 3) (hm : ∀ x ∈ L, 0 ≤ x ∧ x < s) : Ev (fun n => impl_net_copRaw.f n net L) (rw4 s l L) := by
  refine Cm.ev ?_
  unfold impl_net_copRaw.f
  refine Cm.up (fun n i x5 => impl_net_copRaw.l0 n x5 L L.length i net) L.length (fun i x5 => 0 ≤ i ∧ x5 = rw4 s l (L.take i.toNat)) _ ?_ 0 [[]] (by omega) ⟨by omega, by simp [rw4]⟩
  rintro i x5 hi ⟨i0, rfl⟩ ih
  have h8 := hG.2.1
  obtain ⟨f1, f2, _⟩ := rw4_facts s l h8 L i.toNat (by omega)
  by_cases h : i < L.length
  · have f3 : (rw4 s l (L.take i.toNat)).length ≤ 64 := Nat.le_trans f1 (by
      have : i.toNat ≤ 2 := by omega
      exact Nat.pow_le_pow_right (n := 8) (by decide) this)
    refine Cm.step (fun n => by simp only [impl_net_copRaw.l0, if_pos h, if_pos i0]; try rfl) (im1 hG hN (rd L i) (hm _ (rd_mem L i i0 h)) L.length (rw4 s l (L.take i.toNat)) i _ (fun z hz => by rw [f2 z hz]; omega) (by omega) (by omega) (ih _ h ⟨by omega, ?_⟩))
    rw [take_rd L i i0 h, rw4_snoc]
  · refine Cm.step (fun n => by simp only [impl_net_copRaw.l0, if_neg h]; try rfl) (Cm.now ?_)
    rw [take_all L i (by omega)]
/-- Both make the same list of lists. -/
theorem moves_both (s : Int) (l : List S71) (net L : List Int) (hl : l.length ≤ 1048576) (hG : Gr.Good s l) (hN : Net s l net) (hL : L.length ≤ 3) (hL1 : 1 ≤ L.length) (hm : ∀ x ∈ L, 0 ≤ x ∧ x < s) : ∃ es : List (List Int), es.length ≤ 1024 ∧ (∀ x ∈ es, List.length x ≤ 1024) ∧ Ev (fun k => spec_l4Moves.f k s l L) es ∧ Ev (fun k => impl_net_copMoves.f k net L) es := by
  have h8 := hG.2.1
  obtain ⟨f1, f2, f3⟩ := rw4_facts s l h8 L L.length (Nat.le_refl _)
  rw [List.take_length] at f1 f2 f3
  have f4 : (rw4 s l L).length ≤ 512 := Nat.le_trans f1 (Nat.pow_le_pow_right (n := 8) (by decide) hL)
  obtain ⟨t1, t2, t3⟩ := tail_str (rw4 s l L)
  refine ⟨tailL (rw4 s l L), by omega, fun x hx => ?_, Cm.ev ?_, Cm.ev ?_⟩
  · obtain ⟨w, hw, rfl⟩ := List.mem_map.1 ((t2 x).1 hx)
    rw [sortL_length, f2 w hw]
    omega
  · refine (sp0 hl hG hL hm _ (sp3 (rw4 s l L) L.length (by omega) (by omega) f2)).mono (fun r hr => str_ext hr.1 t1 (fun y => (hr.2 y).trans (t2 y).symm))
  · refine Cm.bindE (im0 hG hN hL hm) ?_
    have ht : tailF (rw4 s l L) = some (tailL (rw4 s l L)) := by
      unfold tailF
      rw [if_pos ⟨by omega, f3 hm, fun x hx => by rw [f2 x hx]; omega⟩]
    rw [ht]
    exact Cm.now rfl
end Go.Proofs.Ytcjddikalgnhpaa.Gr
namespace Go.Proofs.Ytcjddikalgnhpaa.Gr
open Go.RowKit Go.Proofs.Ytcjddikalgnhpaa.P Go.Proofs.YtcjddikalgnhpaaW.PrintWords Go.Proofs.YtcjddikalgnhpaaW.PrintLast
theorem eqI_loop (l : List Int) (hl : l.length ≤ 1048576) : ∀ (d : Nat) (i : Int), 0 ≤ i → (l.length : Int) - i = d → Ev (fun k => laws_eqIntS.l0 k l l i) true := by
  intro d
  induction d with
  | zero =>
    intro i hi hd
    refine Ev.step (f := fun _ => some true) (fun k => ?_) (Ev.now true)
    simp only [laws_eqIntS.l0]
    rw [if_neg (by omega)]
  | succ d ih =>
    intro i hi hd
    have hp : i < (l.length : Int) := by omega
    have hw : wrap64 (i + 1) = i + 1 := by unfold wrap64; omega
    refine Ev.step (fun k => ?_) (ih (i + 1) (by omega) (by omega))
    simp only [laws_eqIntS.l0, if_pos hp, if_pos hi, hw, if_true]
theorem eqI_ev (l : List Int) (hl : l.length ≤ 1048576) : Ev (fun k => laws_eqIntS.f k l l) true := by
  obtain ⟨K, hK⟩ := eqI_loop l hl l.length 0 (by omega) (by omega)
  dsimp only at hK
  refine ⟨K, fun k hk => ?_⟩
  dsimp only
  unfold laws_eqIntS.f
  rw [if_pos rfl, hK k hk]
theorem markI_loop : ∀ (d : Nat) (x : List Int) (m i : Int), x.length ≤ 1048576 → 0 ≤ i → (x.length : Int) - i = d → 0 ≤ m → m + d ≤ 4294967296 →
    ∃ r : List Int, r.length = x.length ∧ (∀ j : Int, 0 ≤ j → j < i → rd r j = rd x j) ∧ (∀ j : Int, i ≤ j → j < x.length → rd r j = m + (j - i)) ∧ Ev (fun k => laws_markIntS.l0 k x m i) (m + d, r) := by
  intro d
  induction d with
  | zero =>
    intro x m i hx hi hd hm hb
    refine ⟨x, rfl, fun _ _ _ => rfl, fun j h1 h2 => by omega, Ev.step (f := fun _ => some (m + (0 : Nat), x)) (fun k => ?_) (Ev.now _)⟩
    simp only [laws_markIntS.l0]
    rw [if_neg (by omega)]
    simp
  | succ d ih =>
    intro x m i hx hi hd hm hb
    have hw1 : wrap64 (m + 1) = m + 1 := by unfold wrap64; omega
    have hwi : wrap64 (i + 1) = i + 1 := by unfold wrap64; omega
    obtain ⟨r, hl, he, hr, hv⟩ := ih (x.set i.toNat m) (m + 1) (i + 1) (by simpa using hx) (by omega) (by simp; omega) (by omega) (by omega)
    rw [List.length_set] at hl hr
    refine ⟨r, hl, ?_, ?_, ?_⟩
    · intro j h0 h1
      rw [he j h0 (by omega)]
      unfold rd
      rw [List.getD_eq_getElem?_getD, List.getD_eq_getElem?_getD, List.getElem?_set_ne (by omega)]
    · intro j h1 h2
      by_cases hj : j = i
      · subst hj
        rw [he j hi (by omega)]
        unfold rd
        rw [List.getD_eq_getElem?_getD, List.getElem?_set_self (by omega)]
        simp
      · rw [hr j (by omega) h2]
        omega
    · have e : m + ((d + 1 : Nat) : Int) = m + 1 + (d : Int) := by omega
      rw [e]
      refine Ev.step (fun k => ?_) hv
      simp only [laws_markIntS.l0]
      rw [if_pos (by omega), if_pos hi, hw1, hwi]
theorem heldI_loop : ∀ (d : Nat) (x : List Int) (m i : Int), x.length ≤ 1048576 → 0 ≤ i → (x.length : Int) - i = d → 0 ≤ m → m + d ≤ 4294967296 →
    (∀ j : Int, i ≤ j → j < x.length → rd x j = m + (j - i)) → Ev (fun k => laws_heldIntS.l0 k x m i) (m + d) := by
  intro d
  induction d with
  | zero =>
    intro x m i hx hi hd hm hb hr
    refine Ev.step (f := fun _ => some (m + (0 : Nat))) (fun k => ?_) (Ev.now _)
    simp only [laws_heldIntS.l0]
    rw [if_neg (by omega)]
    simp
  | succ d ih =>
    intro x m i hx hi hd hm hb hr
    have hw1 : wrap64 (m + 1) = m + 1 := by unfold wrap64; omega
    have hwi : wrap64 (i + 1) = i + 1 := by unfold wrap64; omega
    have h0 := hr i (by omega) (by omega)
    have hn := ih x (m + 1) (i + 1) hx (by omega) (by omega) (by omega) (by omega) (fun j h1 h2 => by
      rw [hr j (by omega) h2]
      omega)
    have e : m + ((d + 1 : Nat) : Int) = m + 1 + (d : Int) := by omega
    rw [e]
    refine Ev.step (fun k => ?_) hn
    simp only [laws_heldIntS.l0]
    rw [h0, if_pos (by omega), if_pos hi, if_pos (by omega), hw1, hwi]
theorem mark_heldIm (l : List Int) (m : Int) (hl : l.length ≤ 1048576) (h0 : 0 ≤ m) (hb : m + l.length ≤ 4294967296) : ∃ r : List Int, r.length = l.length ∧ Ev (fun k => laws_markIntS.f k l m) (m + (l.length : Int), r) ∧ Ev (fun k => laws_heldIntS.f k r m) (m + (l.length : Int)) := by
  obtain ⟨r, h1, _, h3, K, hK⟩ := markI_loop l.length l m 0 hl (by omega) (by omega) (by omega) (by omega)
  obtain ⟨K2, hK2⟩ := heldI_loop l.length r m 0 (by omega) (by omega) (by omega) (by omega) (by omega) (fun j a b => h3 j a (by omega))
  exact ⟨r, h1, ⟨K, hK⟩, ⟨K2, hK2⟩⟩
theorem eqSS_loop (l : List (List Int)) (hl : l.length ≤ 1048576) (hr : ∀ x ∈ l, x.length ≤ 1024) : ∀ (d : Nat) (i : Int), 0 ≤ i → (l.length : Int) - i = d → Cm (fun k => laws_eqIntSS.l0 k l l i) (fun z => z = true) := by
  intro d
  induction d with
  | zero =>
    intro i hi hd
    exact Cm.step (fun k => by simp only [laws_eqIntSS.l0, if_neg (show ¬ i < (l.length : Int) by omega)]; try rfl) (Cm.now rfl)
  | succ d ih =>
    intro i hi hd
    have hp : i < (l.length : Int) := by omega
    have hw : wrap64 (i + 1) = i + 1 := by unfold wrap64; omega
    have hx : (rd_L2 l i).length ≤ 1024 := by
      unfold rd_L2
      rw [List.getD_eq_getElem?_getD, List.getElem?_eq_getElem (by omega)]
      exact hr _ (List.getElem_mem _)
    refine Cm.step (fun k => by simp only [laws_eqIntSS.l0, if_pos hp, if_pos hi, hw]; try rfl) ?_
    exact Cm.bindE (eqI_ev (rd_L2 l i) (by omega)) (Cm.pos rfl (ih (i + 1) (by omega) (by omega)))
theorem eqSS_ev (l : List (List Int)) (hl : l.length ≤ 1048576) (hr : ∀ x ∈ l, x.length ≤ 1024) : Ev (fun k => laws_eqIntSS.f k l l) true := by
  refine Cm.ev ?_
  unfold laws_eqIntSS.f
  exact Cm.pos rfl (eqSS_loop l hl hr l.length 0 (by omega) (by omega))
theorem rowAt {l : List (List Int)} {i : Int} (hi : 0 ≤ i) (hp : i < (l.length : Int)) (hr : ∀ x ∈ l, x.length ≤ 1024) : (l.getD i.toNat []).length ≤ 1024 := by
  rw [List.getD_eq_getElem?_getD, List.getElem?_eq_getElem (by omega)]
  exact hr _ (List.getElem_mem _)
theorem markSS_loop : ∀ (d : Nat) (xs : List (List Int)) (m i : Int), xs.length ≤ 1048576 → (∀ x ∈ xs, x.length ≤ 1024) → 0 ≤ i → (xs.length : Int) - i = d → 0 ≤ m → m + d * 1024 ≤ 4294967296 →
    ∃ (r : List (List Int)) (t : Nat), r.length = xs.length ∧ (∀ j : Nat, (j : Int) < i → r[j]? = xs[j]?) ∧ Cm (fun k => laws_markIntSS.l0 k xs i m) (fun z => z = (m + (t : Int), r)) ∧ Cm (fun k => laws_heldIntSS.l0 k r m i) (fun z => z = m + (t : Int)) := by
  intro d
  induction d with
  | zero =>
    intro xs m i hx hr hi hd hm hb
    have hn : ¬ i < (xs.length : Int) := by omega
    refine ⟨xs, 0, rfl, fun _ _ => rfl, Cm.step (fun k => by simp only [laws_markIntSS.l0, if_neg hn]; try rfl) (Cm.now (by simp)), Cm.step (fun k => by simp only [laws_heldIntSS.l0, if_neg hn]; try rfl) (Cm.now (by simp))⟩
  | succ d ih =>
    intro xs m i hx hr hi hd hm hb
    have hp : i < (xs.length : Int) := by omega
    have hw : wrap64 (i + 1) = i + 1 := by unfold wrap64; omega
    have hr0 := rowAt hi hp hr
    obtain ⟨row, h1, e1, e2⟩ := mark_heldIm (xs.getD i.toNat []) m (by omega) hm (by omega)
    obtain ⟨r, t, hl, hs, g1, g2⟩ := ih (xs.set i.toNat row) (m + ((xs.getD i.toNat []).length : Int)) (i + 1) (by rw [List.length_set]; exact hx) (fun x hx2 => by
      rcases List.mem_or_eq_of_mem_set hx2 with h | h
      · exact hr x h
      · rw [h, h1]; exact hr0) (by omega) (by rw [List.length_set]; omega) (by omega) (by omega)
    rw [List.length_set] at hl
    have hat : rd_L2 r i = row := by
      unfold rd_L2
      rw [List.getD_eq_getElem?_getD, hs i.toNat (by omega), List.getElem?_set_self (by omega)]
      rfl
    have hm2 : m + (((xs.getD i.toNat []).length + t : Nat) : Int) = m + ((xs.getD i.toNat []).length : Int) + (t : Int) := by omega
    refine ⟨r, (xs.getD i.toNat []).length + t, hl, fun j hj => by rw [hs j (by omega), List.getElem?_set_ne (by omega)], ?_, ?_⟩
    · refine Cm.step (fun k => by simp only [laws_markIntSS.l0, if_pos hp, hw]; try rfl) ?_
      rw [hm2]
      exact Cm.bindE e1 g1
    · refine Cm.step (fun k => by simp only [laws_heldIntSS.l0, if_pos (show i < (r.length : Int) by omega), if_pos hi, hat, hw]; try rfl) ?_
      rw [hm2]
      exact Cm.bindE e2 (Cm.neg (by omega) g2)
theorem mark_heldSS (l : List (List Int)) (hl : l.length ≤ 1048576) (hr : ∀ x ∈ l, x.length ≤ 1024) : ∃ (r : List (List Int)) (t : Nat), Ev (fun k => laws_markIntSS.f k l 1) (1 + (t : Int), r) ∧ Ev (fun k => laws_heldIntSS.f k r 1) (1 + (t : Int)) := by
  obtain ⟨r, t, _, _, g1, g2⟩ := markSS_loop l.length l 1 0 hl hr (by omega) (by omega) (by omega) (by omega)
  refine ⟨r, t, Cm.ev ?_, Cm.ev g2⟩
  unfold laws_markIntSS.f
  exact Cm.pos hl g1
theorem mark_ev : ∀ (d : Nat) (x : List S71) (m i : Int), x.length ≤ 1048576 → 0 ≤ i → (x.length : Int) - i = d → 0 ≤ m → m + 2 * d ≤ 4294967296 →
    ∃ r : List S71, r.length = x.length ∧ (∀ j : Int, 0 ≤ j → j < i → rd_T71 r j = rd_T71 x j) ∧ (∀ j : Int, i ≤ j → j < x.length → rd_T71 r j = ⟨m + 2 * (j - i), m + 2 * (j - i) + 1⟩) ∧ Ev (fun k => laws_markIntA2S.l0 k x m i) (m + 2 * d, r) := by
  intro d
  induction d with
  | zero =>
    intro x m i hx hi hd hm hb
    refine ⟨x, rfl, fun _ _ _ => rfl, fun j h1 h2 => by omega, Ev.step (f := fun _ => some (m + 2 * (0 : Nat), x)) (fun k => ?_) (Ev.now _)⟩
    simp only [laws_markIntA2S.l0]
    rw [if_neg (by omega)]
    simp
  | succ d ih =>
    intro x m i hx hi hd hm hb
    have hw1 : wrap64 (m + 1) = m + 1 := by unfold wrap64; omega
    have hw2 : wrap64 (m + 1 + 1) = m + 1 + 1 := by unfold wrap64; omega
    have hwi : wrap64 (i + 1) = i + 1 := by unfold wrap64; omega
    obtain ⟨r, hl, he, hr, hv⟩ := ih (x.set i.toNat ⟨m, m + 1⟩) (m + 2) (i + 1) (by simpa using hx) (by omega) (by simp; omega) (by omega) (by omega)
    rw [List.length_set] at hl hr
    refine ⟨r, hl, ?_, ?_, ?_⟩
    · intro j h0 h1
      rw [he j h0 (by omega)]
      unfold rd_T71
      rw [List.getD_eq_getElem?_getD, List.getD_eq_getElem?_getD, List.getElem?_set_ne (by omega)]
    · intro j h1 h2
      by_cases hj : j = i
      · subst hj
        rw [he j hi (by omega)]
        unfold rd_T71
        rw [List.getD_eq_getElem?_getD, List.getElem?_set_self (by omega)]
        simp
      · rw [hr j (by omega) h2]
        congr 1 <;> omega
    · have e : m + 2 * ((d + 1 : Nat) : Int) = m + 2 + 2 * (d : Int) := by omega
      rw [e]
      refine Ev.step (fun k => ?_) hv
      simp only [laws_markIntA2S.l0, Option.bind_some]
      rw [if_pos (by omega), if_pos hi, hw1, hw2, hwi, List.set_set]
      have e1 : (rd_T71 (x.set i.toNat ⟨m, (rd_T71 x i).f1⟩) i).f0 = m := by
        unfold rd_T71
        rw [List.getD_eq_getElem?_getD, List.getElem?_set_self (by omega)]
        rfl
      rw [e1, show m + 1 + 1 = m + 2 by omega]
theorem mark_at (s : Int) (l : List S71) (m : Int) (hl : l.length ≤ 1048576) (h0 : 0 ≤ m) (h1 : m + 2 * (l.length : Int) ≤ 4294967296) : ∃ r : List S71, Ev (fun k => laws_markGraph.f k s l m) (m + 2 * (l.length : Int), r) := by
  obtain ⟨r, _, _, _, K, hK⟩ := mark_ev l.length l m 0 hl (by omega) (by omega) h0 h1
  dsimp only at hK
  refine ⟨r, K, fun k hk => ?_⟩
  dsimp only
  unfold laws_markGraph.f laws_markIntA2S.f
  rw [hK k hk]
  rfl
end Go.Proofs.Ytcjddikalgnhpaa.Gr
namespace Go.Proofs.Ytcjddikalgnhpaa.Gr
open Go.RowKit Go.Proofs.Ytcjddikalgnhpaa.P Go.Proofs.YtcjddikalgnhpaaW.PrintWords Go.Proofs.YtcjddikalgnhpaaW.PrintLast Go.Proofs.YtcjddikalgnhpaaW.PrintMore
end Go.Proofs.Ytcjddikalgnhpaa.Gr
namespace Go.Proofs.Ytcjddikalgnhpaa.Gr
open Go.RowKit Go.Proofs.Ytcjddikalgnhpaa.P Go.Proofs.YtcjddikalgnhpaaW.PrintWords Go.Proofs.YtcjddikalgnhpaaW.PrintLast
theorem rd_ltI (l : List Int) (i : Int) (h0 : 0 ≤ i) (h1 : i < l.length) : l[i.toNat]? = some (rd l i) := by
  unfold rd
  rw [List.getD_eq_getElem?_getD, List.getElem?_eq_getElem (by omega)]
  rfl
theorem toI_loop (l : List Int) (hl : l.length ≤ 1048576) : ∀ (d : Nat) (m : List Int) (i : Int), 0 ≤ i → (l.length : Int) - i = d → m.length = l.length →
    (∀ j : Nat, (j : Int) < i → m[j]? = l[j]?) → Ev (fun k => laws_toIntS.l0 k l m i) l := by
  intro d
  induction d with
  | zero =>
    intro m i hi hd hm he
    have e : m = l := by
      apply List.ext_getElem?
      intro j
      by_cases hj : j < l.length
      · exact he j (by omega)
      · rw [List.getElem?_eq_none (by omega), List.getElem?_eq_none (by omega)]
    refine Ev.step (f := fun _ => some l) (fun k => ?_) (Ev.now l)
    simp only [laws_toIntS.l0]
    rw [if_neg (by omega), e]
  | succ d ih =>
    intro m i hi hd hm he
    have hp : i < (l.length : Int) := by omega
    have hw : wrap64 (i + 1) = i + 1 := by unfold wrap64; omega
    have h := ih (m.set i.toNat (rd l i)) (i + 1) (by omega) (by omega) (by simp [hm]) (fun j hj => by
      by_cases hji : j = i.toNat
      · subst hji
        rw [List.getElem?_set_self (by omega)]
        exact (rd_ltI l i hi hp).symm
      · rw [List.getElem?_set_ne (fun e => hji e.symm)]
        exact he j (by omega))
    refine Ev.step (fun k => ?_) h
    simp only [laws_toIntS.l0]
    rw [if_pos hp, if_pos hi, if_pos (by omega), hw]
theorem toI_ev (l : List Int) (hl : l.length ≤ 1048576) : Ev (fun k => laws_toIntS.f k l) l := by
  obtain ⟨K, hK⟩ := toI_loop l hl l.length (List.replicate l.length 0) 0 (by omega) (by omega) (by simp) (fun j hj => by omega)
  refine ⟨K, fun k hk => ?_⟩
  show laws_toIntS.f k l = _
  unfold laws_toIntS.f
  rw [if_pos (by omega), if_pos (by omega)]
  exact hK k hk
theorem markI_at (l : List Int) (m : Int) (hl : l.length ≤ 1048576) (h0 : 0 ≤ m) (h1 : m + (l.length : Int) ≤ 4294967296) : ∃ r : List Int, Ev (fun k => laws_markIntS.f k l m) (m + (l.length : Int), r) := by
  obtain ⟨r, _, _, _, K, hK⟩ := markI_loop l.length l m 0 hl (by omega) (by omega) h0 h1
  exact ⟨r, K, hK⟩
end Go.Proofs.Ytcjddikalgnhpaa.Gr
namespace Go.Proofs.Ytcjddikalgnhpaa.Pure
open Go.RowKit Go.Proofs.Ytcjddikalgnhpaa.P Go.Proofs.YtcjddikalgnhpaaW.PrintWords Go.Proofs.YtcjddikalgnhpaaW.PrintLast Go.Proofs.YtcjddikalgnhpaaW.PrintMore Go.Proofs.Ytcjddikalgnhpaa.Gr
/-- A list of cops: none is less than the one ahead of it. -/
def Asc (L : List Int) : Prop := ∀ i : Int, 0 < i → i < L.length → rd L (i - 1) ≤ rd L i
theorem less_eq (a b : Int) : cmp_Less_int.f a b = some (decide (a < b)) := by
  unfold cmp_Less_int.f cmp_isNaN_int.f
  simp
theorem sorted_cm (L : List Int) (hl : L.length ≤ 1048576) : Cm (fun k => slices_IsSorted_int_int.f k L) (fun b => b = true ↔ Asc L) := by
  unfold slices_IsSorted_int_int.f
  rw [w64 _ (by omega) (by omega)]
  refine Cm.meas (fun k i => slices_IsSorted_int_int.l0 k L i) (fun i : Int => i.toNat) (fun i => i < L.length ∧ ∀ j : Int, i < j → 0 < j → j < L.length → rd L (j - 1) ≤ rd L j) (fun _ b => b = true ↔ Asc L) ?_ _ ⟨by omega, fun j h1 h2 h3 => by omega⟩
  rintro i ⟨hi, hj⟩ ih
  by_cases h : i > 0
  · refine Cm.step (fun k => by simp (disch := omega) only [slices_IsSorted_int_int.l0, if_pos h, w64 (i - 1), less_eq, Option.bind_some]; try rfl) (Cm.pos (by omega) (Cm.pos hi (Cm.pos (by omega) (Cm.pos (by omega) (Cm.ite (fun e => Cm.now ?_) (fun e => ih (i - 1) ⟨by omega, fun j h1 h2 h3 => ?_⟩ (by omega)))))))
    · rw [decide_eq_true_eq] at e
      refine ⟨fun h => Bool.noConfusion h, fun hA => ?_⟩
      have := hA i (by omega) hi
      omega
    · by_cases e' : j = i
      · subst e'
        rw [decide_eq_true_eq] at e
        omega
      · exact hj j (by omega) h2 h3
  · refine Cm.step (fun k => by simp only [slices_IsSorted_int_int.l0, if_neg h]; try rfl) (Cm.now ⟨fun _ j h1 h2 => hj j (by omega) h1 h2, fun _ => rfl⟩)
theorem cops_cm (s : Int) (l : List S71) (L : List Int) (hL : L.length ≤ 1048576) (hG : Gr.Good s l) : Cm (fun k => spec_l4Cops.f k s l L) (fun b => b = true ↔ (∀ x ∈ L, 0 ≤ x ∧ x < s) ∧ Asc L) := by
  unfold spec_l4Cops.f
  refine Cm.up (fun k i (_ : Unit) => spec_l4Cops.l0 k L i s l) L.length (fun i _ => 0 ≤ i ∧ (∀ x ∈ L.take i.toNat, 0 ≤ x ∧ x < s) ∧ ∀ j : Int, 0 < j → j < i → rd L (j - 1) ≤ rd L j) _ ?_ 0 () (by omega) ⟨by omega, by simp, fun j h1 h2 => by omega⟩
  rintro i _ hi ⟨i0, hm, hj⟩ ih
  by_cases h : i < L.length
  · refine Cm.step (fun k => by simp (disch := omega) only [spec_l4Cops.l0, if_pos h, if_pos i0, w64 (i + 1), node_eq s l _ hG, Option.bind_some]; try rfl) ?_
    refine Cm.ite (fun e => ?_) (fun e => Cm.now ⟨fun h => Bool.noConfusion h, fun hA => (e (decide_eq_true (hA.1 _ (rd_mem L i i0 h)))).elim⟩)
    rw [decide_eq_true_eq] at e
    have hm' : ∀ x ∈ L.take (i + 1).toNat, 0 ≤ x ∧ x < s := by
      rw [take_rd L i i0 h]
      intro x hx
      rcases List.mem_append.1 hx with hx | hx
      · exact hm x hx
      · rw [List.mem_singleton] at hx
        subst hx
        exact e
    refine Cm.ite (fun hp => ?_) (fun hp => ih () h ⟨by omega, hm', fun j h1 h2 => by omega⟩)
    rw [w64 (i - 1) (by omega) (by omega)]
    refine Cm.pos (by omega) (Cm.pos (by omega) (Cm.ite (fun hg => Cm.now ⟨fun h => Bool.noConfusion h, fun hA => ?_⟩) (fun hg => ih () h ⟨by omega, hm', fun j h1 h2 => ?_⟩)))
    · have := hA.2 i hp h
      omega
    · by_cases e' : j = i
      · subst e'
        omega
      · exact hj j h1 (by omega)
  · refine Cm.step (fun k => by simp only [spec_l4Cops.l0, if_neg h]; try rfl) (Cm.now ⟨fun _ => ⟨?_, fun j h1 h2 => hj j h1 (by omega)⟩, fun _ => rfl⟩)
    rw [take_all L i (by omega)] at hm
    exact hm
theorem inC (a : Int) : impl_within.f a 1 3 = some (decide (1 ≤ a ∧ a ≤ 3)) := by
  unfold impl_within.f
  by_cases h : a ≥ 1
  · rw [if_pos h]
    simp [show 1 ≤ a from h]
  · rw [if_neg h]
    simp [show ¬ 1 ≤ a from h]
theorem both (s : Int) (l : List S71) (L : List Int) (hl : l.length ≤ 1048576) (hL : L.length ≤ 1048576) : ∃ (es : List (List Int)) (b : Bool), es.length ≤ 1048576 ∧ (∀ x ∈ es, List.length x ≤ 1024) ∧ Ev (fun k => spec_CopMoves.f k s l L) (es, b) ∧ Ev (fun k => impl_CopMoves.f k s l L) (es, b) := by
  obtain ⟨b, hb, hS, hI⟩ := isGraph_full s l hl
  obtain ⟨x, hx⟩ : ∃ x : Int, x = (L.length : Int) := ⟨_, rfl⟩
  have e : spec_l1In.f x 1 3 = some (decide (1 ≤ x ∧ x ≤ 3)) := l1In_eq x 1 3
  have fS : Ev (fun k => spec_l4Field.f k s l x) (b && (decide (s > 0) && decide (1 ≤ x ∧ x ≤ 3))) := by
    refine Cm.ev (Cm.bindE hS ?_)
    cases b with
    | false => exact Cm.neg (by decide) (Cm.now rfl)
    | true =>
      refine Cm.pos rfl (Cm.ite (fun h => ?_) (fun h => Cm.now (by rw [decide_eq_false h]; rfl)))
      rw [e]
      exact Cm.bindE (Ev.now _) (Cm.now (by rw [decide_eq_true h]; rfl))
  have fI : Ev (fun k => impl_isCopGame.f k s l x) (b && (decide (s > 0) && decide (1 ≤ x ∧ x ≤ 3))) := by
    refine Cm.ev (Cm.bindE hI ?_)
    cases b with
    | false => exact Cm.neg (by decide) (Cm.now rfl)
    | true =>
      refine Cm.pos rfl (Cm.ite (fun h => ?_) (fun h => Cm.now (by rw [decide_eq_false h]; rfl)))
      rw [inC]
      exact Cm.bindE (Ev.now _) (Cm.now (by rw [decide_eq_true h]; rfl))
  have sN : Ev (fun k => spec_l4Field.f k s l x) false → Ev (fun k => spec_CopMoves.f k s l L) (([] : List (List Int)), false) := fun h => by
    rw [hx] at h
    exact Cm.ev (Cm.bindE h (Cm.neg (by decide) (Cm.now rfl)))
  have iN : Ev (fun k => impl_areCops.f k s l L) false → Ev (fun k => impl_CopMoves.f k s l L) (([] : List (List Int)), false) := fun h => Cm.ev (Cm.bindE h (Cm.neg (by decide) (Cm.now rfl)))
  cases hq : (b && (decide (s > 0) && decide (1 ≤ x ∧ x ≤ 3))) with
  | false =>
    rw [hq] at fS fI
    refine ⟨[], false, by simp, by simp, sN fS, iN (Cm.ev ?_)⟩
    rw [hx] at fI
    exact Cm.bindE fI (Cm.neg (by decide) (Cm.now rfl))
  | true =>
    rw [hq] at fS fI
    rw [Bool.and_eq_true, Bool.and_eq_true, decide_eq_true_eq, decide_eq_true_eq] at hq
    obtain ⟨hb1, h0, h1, h3⟩ := hq
    subst hb1
    obtain ⟨hG, _⟩ := hb rfl
    have h8 := hG.2.1
    rw [hx] at fS fI
    have hw : wrap64 (s - 1) = s - 1 := w64 _ (by omega) (by omega)
    by_cases hA : (∀ x ∈ L, 0 ≤ x ∧ x < s) ∧ Asc L
    · obtain ⟨r, hr1, hr2, hrN⟩ := net_ev s l hl hG
      obtain ⟨es, he1, he2, hs, hi⟩ := moves_both s l r L hl hG ⟨hr1, hr2⟩ (by omega) (by omega) hA.1
      refine ⟨es, true, by omega, he2, Cm.ev ?_, Cm.ev ?_⟩
      · refine Cm.bindE fS (Cm.pos rfl (Cm.bind (cops_cm s l L hL hG) ?_))
        intro q hq
        rw [hq.2 hA]
        exact Cm.pos rfl (Cm.bindE hs (Cm.now rfl))
      · have hc : Ev (fun k => impl_areCops.f k s l L) true := by
          refine Cm.ev (Cm.bindE fI (Cm.pos rfl ?_))
          refine Cm.bind (P := fun z => z = true) ?_ ?_
          · refine Cm.bindE hI (Cm.pos rfl (Cm.bind (allIn_ev L 0 (wrap64 (s - 1)) hL) ?_))
            intro q hq
            rw [hw] at hq
            exact Cm.now (hq.2 (fun x hx => ⟨(hA.1 x hx).1, by have := (hA.1 x hx).2; omega⟩))
          · rintro _ rfl
            refine Cm.pos rfl (Cm.bind (sorted_cm L hL) ?_)
            intro q hq
            exact Cm.now (hq.2 hA.2)
        exact Cm.bindE hc (Cm.pos rfl (Cm.bindE hrN (Cm.bindE hi (Cm.now rfl))))
    · refine ⟨[], false, by simp, by simp, Cm.ev ?_, iN (Cm.ev ?_)⟩
      · refine Cm.bindE fS (Cm.pos rfl (Cm.bind (cops_cm s l L hL hG) ?_))
        intro q hq
        have : q = false := by cases q with | false => rfl | true => exact (hA (hq.1 rfl)).elim
        rw [this]
        exact Cm.neg (by decide) (Cm.now rfl)
      · refine Cm.bindE fI (Cm.pos rfl ?_)
        refine Cm.bind (P := fun z => z = true → ∀ x ∈ L, 0 ≤ x ∧ x < s) ?_ ?_
        · refine Cm.bindE hI (Cm.pos rfl (Cm.bind (allIn_ev L 0 (wrap64 (s - 1)) hL) ?_))
          intro q hq
          rw [hw] at hq
          exact Cm.now (fun h x hx => by have := hq.1 h x hx; omega)
        · intro q hq
          refine Cm.ite (fun h => Cm.bind (sorted_cm L hL) ?_) (fun _ => Cm.now rfl)
          intro q2 hq2
          refine Cm.now ?_
          cases q2 with
          | false => rfl
          | true => exact (hA ⟨hq h, hq2.1 rfl⟩).elim
theorem FnExactCopMoves : laws_FnExactCopMoves.Pure := by
  intro s0 l0 L1 hs0 hl0 hx0 hm1 hw1
  refine Ev.rounds (Cm.ev ?_)
  unfold laws_FnExactCopMoves.f
  refine Cm.ite (fun _ => Cm.now rfl) (fun cL1 => ?_)
  by_cases c0 : (1048576 : Int) - l0.length < 0
  · exact Cm.bindE (sz_ev (sz_big s0 l0 hl0 c0)) (Cm.pos (by decide) (Cm.now rfl))
  refine Cm.bindE (sz_ev (sz_small s0 l0 (by omega))) (Cm.neg c0 ?_)
  obtain ⟨es, b, he, hr, E1, E2⟩ := both s0 l0 L1 (by omega) (by omega)
  obtain ⟨r0, M0⟩ := mark_at s0 l0 ((1 : Int)) (by omega) (by omega) (by omega)
  obtain ⟨r1, M1⟩ := markI_at L1 ((1 : Int) + 2 * (l0.length : Int)) (by omega) (by omega) (by omega)
  obtain ⟨re, te, E3, E4⟩ := mark_heldSS es (by omega) hr
  have a_b : ¬ (b != b) = true := by cases b <;> decide
  repeat first
    | with_reducible exact Cm.now rfl
    | refine Cm.bindE (toGraph_ev s0 l0 (by omega)) ?_
    | refine Cm.bindE (toI_ev L1 (by omega)) ?_
    | refine Cm.bindE E1 ?_
    | refine Cm.bindE E2 ?_
    | refine Cm.bindE (eqSS_ev es (by omega) hr) (Cm.pos rfl ?_)
    | refine Cm.bindE (eqGraph_ev s0 l0 (by omega)) (Cm.pos rfl ?_)
    | refine Cm.bindE (eqI_ev L1 (by omega)) (Cm.pos rfl ?_)
    | refine Cm.bindE M0 ?_
    | refine Cm.bindE M1 ?_
    | refine Cm.bindE E3 ?_
    | refine Cm.bindE E4 ?_
    | refine Cm.neg a_b ?_
    | refine Cm.neg (by omega) ?_
    | refine Cm.pos (by omega) ?_
    | refine Cm.pos rfl ?_
    | dsimp only
end Go.Proofs.Ytcjddikalgnhpaa.Pure
