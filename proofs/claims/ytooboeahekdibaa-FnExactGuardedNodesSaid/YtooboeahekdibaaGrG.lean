/- Good graphs, as both tests find them, and who is near whom; no conditions beyond those that each theorem names. -/
import Derived.Test.YtooboeahekdibaaGrA
import Derived.Test.YtooboeahekdibaaPxImplA
import Derived.Test.YtooboeahekdibaaPxSpecA
import Derived.Test.YtooboeahekdibaaPxSpecL2Good
namespace Go.Proofs.Ytooboeahekdibaa.Gr
open Go.RowKit Go.Proofs.Ytooboeahekdibaa.P Go.Proofs.YtooboeahekdibaaW.PrintWords Go.Proofs.YtooboeahekdibaaW.PrintLast

theorem pcmp_iff (a b : S59) : 0 ≤ pcmp a b ↔ ¬ (a.f0 < b.f0 ∨ (a.f0 = b.f0 ∧ a.f1 < b.f1)) := by
  unfold pcmp
  by_cases c1 : a.f0 < b.f0
  · simp [c1]
  · by_cases c2 : a.f0 > b.f0
    · have h : ¬ a.f0 = b.f0 := by omega
      simp [c1, c2, h]
    · have h : a.f0 = b.f0 := by omega
      by_cases c3 : a.f1 < b.f1
      · simp [c3, h]
      · by_cases c4 : a.f1 > b.f1
        · simp [c3, c4, h]
        · simp [c3, c4, h]

theorem before_eq (a b c d : Int) : spec_l2Before.f a b c d = some (decide (a < c ∨ (a = c ∧ b < d))) := by
  unfold spec_l2Before.f
  by_cases c1 : a < c
  · simp [c1]
  · by_cases c2 : a = c
    · subst c2
      simp
    · simp [c1, c2]

theorem good_both (l : List S59) (s : Int) (h0 : 0 ≤ s) (h8 : s ≤ 8) (hl : l.length ≤ 1048576) : ∀ (d : Nat) (i : Int), 0 ≤ i → (l.length : Int) - i = d →
    ∃ b, (b = true → ∀ j : Int, i ≤ j → j < l.length → 0 ≤ (rd_T59 l j).f0 ∧ (rd_T59 l j).f0 < (rd_T59 l j).f1 ∧ (rd_T59 l j).f1 < s ∧ (0 < j → (rd_T59 l (j - 1)).f0 < (rd_T59 l j).f0 ∨ ((rd_T59 l (j - 1)).f0 = (rd_T59 l j).f0 ∧ (rd_T59 l (j - 1)).f1 < (rd_T59 l j).f1))) ∧ Ev (fun k => spec_l2Good.l0 k i s l) b ∧ Ev (fun k => impl_IsGraph.l0 k l s i) b := by
  intro d
  induction d with
  | zero =>
    intro i hi hd
    have hn : ¬ i < (l.length : Int) := by omega
    refine ⟨true, fun _ j h1 h2 => by omega, Ev.step (f := fun _ => some true) (fun k => ?_) (Ev.now true), Ev.step (f := fun _ => some true) (fun k => ?_) (Ev.now true)⟩
    · simp only [spec_l2Good.l0]
      rw [if_neg hn, l1In_eq, Option.bind_some, decide_eq_true ⟨h0, h8⟩]
    · simp only [impl_IsGraph.l0]
      rw [if_neg hn]
  | succ d ih =>
    intro i hi hd
    have hp : i < (l.length : Int) := by omega
    obtain ⟨b, hg, hs, hm⟩ := ih (i + 1) (by omega) (by omega)
    have hw : wrap64 (i + 1) = i + 1 := by unfold wrap64; omega
    have hw1 : wrap64 (i - 1) = i - 1 := by unfold wrap64; omega
    have hw2 : wrap64 (s - 1) = s - 1 := by unfold wrap64; omega
    have no : ∀ k, (0 ≤ (rd_T59 l i).f0 ∧ (rd_T59 l i).f0 < (rd_T59 l i).f1 ∧ (rd_T59 l i).f1 < s ∧ (0 < i → (rd_T59 l (i - 1)).f0 < (rd_T59 l i).f0 ∨ ((rd_T59 l (i - 1)).f0 = (rd_T59 l i).f0 ∧ (rd_T59 l (i - 1)).f1 < (rd_T59 l i).f1))) ∨
        (spec_l2Good.l0 (k + 1) i s l = some false ∧ impl_IsGraph.l0 (k + 1) l s i = some false) := by
      intro k
      simp only [spec_l2Good.l0, impl_IsGraph.l0, l1In_eq, before_eq, hw, hw1, hw2, pcmp_iff, if_pos hp, if_pos hi, Option.bind_some, decide_eq_true_eq]
      by_cases c1 : 0 ≤ (rd_T59 l i).f0
      · by_cases c2 : (rd_T59 l i).f0 < (rd_T59 l i).f1
        · by_cases c3 : (rd_T59 l i).f1 < s
          · by_cases c4 : 0 < i
            · by_cases c5 : (rd_T59 l (i - 1)).f0 < (rd_T59 l i).f0 ∨ ((rd_T59 l (i - 1)).f0 = (rd_T59 l i).f0 ∧ (rd_T59 l (i - 1)).f1 < (rd_T59 l i).f1)
              · exact .inl ⟨c1, c2, c3, fun _ => c5⟩
              · right
                rw [if_pos ⟨c1, by omega⟩, if_pos ⟨by omega, by omega⟩, if_neg (by omega), if_pos c4, if_pos (by omega), if_pos (by omega), if_neg c5, if_neg (by omega), if_neg (by omega), if_neg (by omega), if_pos c4, if_pos c5]
                exact ⟨rfl, rfl⟩
            · exact .inl ⟨c1, c2, c3, fun h => absurd h c4⟩
          · right
            refine ⟨?_, ?_⟩
            · by_cases c6 : 0 ≤ (rd_T59 l i).f0 ∧ (rd_T59 l i).f0 ≤ s - 1
              · rw [if_pos c6, if_neg (by omega)]
              · rw [if_neg c6]
            · rw [if_neg (by omega), if_neg (by omega), if_pos (by omega)]
        · right
          refine ⟨?_, ?_⟩
          · by_cases c6 : 0 ≤ (rd_T59 l i).f0 ∧ (rd_T59 l i).f0 ≤ s - 1
            · rw [if_pos c6]
              by_cases c7 : 0 ≤ (rd_T59 l i).f1 ∧ (rd_T59 l i).f1 ≤ s - 1
              · rw [if_pos c7, if_pos (by omega)]
              · rw [if_neg c7]
            · rw [if_neg c6]
          · rw [if_neg (by omega), if_pos (by omega)]
      · right
        rw [if_neg (by omega), if_pos (by omega)]
        exact ⟨rfl, rfl⟩
    by_cases hc : 0 ≤ (rd_T59 l i).f0 ∧ (rd_T59 l i).f0 < (rd_T59 l i).f1 ∧ (rd_T59 l i).f1 < s ∧ (0 < i → (rd_T59 l (i - 1)).f0 < (rd_T59 l i).f0 ∨ ((rd_T59 l (i - 1)).f0 = (rd_T59 l i).f0 ∧ (rd_T59 l (i - 1)).f1 < (rd_T59 l i).f1))
    · obtain ⟨c1, c2, c3, c5⟩ := hc
      refine ⟨b, fun hb j h1 h2 => ?_, Ev.step (fun k => ?_) hs, Ev.step (fun k => ?_) hm⟩
      · by_cases hj : j = i
        · subst hj
          exact ⟨c1, c2, c3, c5⟩
        · exact hg hb j (by omega) h2
      · simp only [spec_l2Good.l0, l1In_eq, before_eq, hw, hw1, hw2, if_pos hp, if_pos hi, Option.bind_some, decide_eq_true_eq]
        rw [if_pos ⟨c1, by omega⟩, if_pos ⟨by omega, by omega⟩, if_neg (by omega)]
        by_cases c4 : i > 0
        · rw [if_pos c4, if_pos (by omega), if_pos (by omega), if_pos (c5 c4)]
        · rw [if_neg c4]
      · simp only [impl_IsGraph.l0, hw, hw1, pcmp_iff, if_pos hp, if_pos hi]
        rw [if_neg (by omega), if_neg (by omega), if_neg (by omega)]
        by_cases c4 : i > 0
        · rw [if_pos c4, if_neg (fun h => h (c5 c4))]
        · rw [if_neg c4]
    · refine ⟨false, fun h => (by cases h), Ev.step (f := fun _ => some false) (fun k => ?_) (Ev.now false), Ev.step (f := fun _ => some false) (fun k => ?_) (Ev.now false)⟩
      · rcases no k with h | h
        · exact absurd h hc
        · exact h.1
      · rcases no k with h | h
        · exact absurd h hc
        · exact h.2

theorem good_not (l : List S59) (s : Int) (h8 : ¬ (0 ≤ s ∧ s ≤ 8)) (hl : l.length ≤ 1048576) : ∀ (d : Nat) (i : Int), 0 ≤ i → (l.length : Int) - i = d →
    Ev (fun k => spec_l2Good.l0 k i s l) false := by
  intro d
  induction d with
  | zero =>
    intro i hi hd
    have hn : ¬ i < (l.length : Int) := by omega
    refine Ev.step (f := fun _ => some false) (fun k => ?_) (Ev.now false)
    simp only [spec_l2Good.l0]
    rw [if_neg hn, l1In_eq, Option.bind_some, decide_eq_false h8]
  | succ d ih =>
    intro i hi hd
    have hp : i < (l.length : Int) := by omega
    have hw : wrap64 (i + 1) = i + 1 := by unfold wrap64; omega
    have hw1 : wrap64 (i - 1) = i - 1 := by unfold wrap64; omega
    have hr := ih (i + 1) (by omega) (by omega)
    have one : ∀ k, spec_l2Good.l0 (k + 1) i s l = some false ∨ spec_l2Good.l0 (k + 1) i s l = spec_l2Good.l0 k (i + 1) s l := by
      intro k
      simp only [spec_l2Good.l0, l1In_eq, before_eq, hw, hw1, if_pos hp, if_pos hi, Option.bind_some, decide_eq_true_eq]
      repeat' split
      all_goals first | exact .inl rfl | exact .inr rfl | (exfalso; omega)
    obtain ⟨K, hK⟩ := hr
    refine ⟨K + 1, fun k hk => ?_⟩
    obtain ⟨k, rfl⟩ : ∃ m, k = m + 1 := ⟨k - 1, by omega⟩
    rcases one k with h | h
    · exact h
    · exact h.trans (hK k (by omega))

/-- A good graph: at most eight nodes, each edge from a lower node to a higher one. -/
def Good (s : Int) (l : List S59) : Prop := 0 ≤ s ∧ s ≤ 8 ∧ ∀ j : Int, 0 ≤ j → j < l.length → 0 ≤ (rd_T59 l j).f0 ∧ (rd_T59 l j).f0 < (rd_T59 l j).f1 ∧ (rd_T59 l j).f1 < s

/-- Its pairs stand in order. -/
def Sorted (l : List S59) : Prop := ∀ j : Int, 0 < j → j < l.length → (rd_T59 l (j - 1)).f0 < (rd_T59 l j).f0 ∨ ((rd_T59 l (j - 1)).f0 = (rd_T59 l j).f0 ∧ (rd_T59 l (j - 1)).f1 < (rd_T59 l j).f1)

theorem isGraph_full (s : Int) (l : List S59) (hlen : l.length ≤ 1048576) : ∃ b, (b = true → Good s l ∧ Sorted l) ∧ Ev (fun k => spec_l2Good.f k s l) b ∧ Ev (fun k => impl_IsGraph.f k s l) b := by
  by_cases h8 : 0 ≤ s ∧ s ≤ 8
  · obtain ⟨b, hg, hA, hB⟩ := good_both l s h8.1 h8.2 hlen l.length 0 (by omega) (by omega)
    refine ⟨b, fun h => ⟨⟨h8.1, h8.2, fun j h0 h1 => ⟨(hg h j h0 h1).1, (hg h j h0 h1).2.1, (hg h j h0 h1).2.2.1⟩⟩, fun j h0 h1 => (hg h j (by omega) h1).2.2.2 h0⟩, ?_, ?_⟩
    · obtain ⟨K, hK⟩ := hA
      dsimp only at hK
      exact ⟨K, fun k hk => by dsimp only; unfold spec_l2Good.f; exact hK k hk⟩
    · obtain ⟨K, hK⟩ := hB
      dsimp only at hK
      exact ⟨K, fun k hk => by dsimp only; unfold impl_IsGraph.f; rw [if_pos h8]; exact hK k hk⟩
  · refine ⟨false, fun h => (by cases h), ?_, ⟨0, fun k _ => by dsimp only; unfold impl_IsGraph.f; rw [if_neg h8]⟩⟩
    obtain ⟨K, hK⟩ := good_not l s h8 hlen l.length 0 (by omega) (by omega)
    dsimp only at hK
    exact ⟨K, fun k hk => by dsimp only; unfold spec_l2Good.f; exact hK k hk⟩
theorem isGraph_both (s : Int) (l : List S59) (hlen : l.length ≤ 1048576) : ∃ b, (b = true → Good s l) ∧ Ev (fun k => spec_l2Good.f k s l) b ∧ Ev (fun k => impl_IsGraph.f k s l) b := by
  obtain ⟨b, h1, h2, h3⟩ := isGraph_full s l hlen
  exact ⟨b, fun h => (h1 h).1, h2, h3⟩

end Go.Proofs.Ytooboeahekdibaa.Gr
