/- The pure law FnExactIsGraph: the copy is the list itself, and both tests go the same way through it. -/
import Derived.Test.YtooeemiljeeoaaaPx15
import Derived.Test.YtooeemiljeeoaaaGrA
namespace Go.Proofs.Ytooeemiljeeoaaa.Pure
open Go.RowKit Go.Proofs.Ytooeemiljeeoaaa.P Go.Proofs.YtooeemiljeeoaaaW.PrintWords Go.Proofs.YtooeemiljeeoaaaW.PrintLast Go.Proofs.Ytooeemiljeeoaaa.Gr

theorem pcmp_iff (a b : S57) : 0 ≤ pcmp a b ↔ ¬ (a.f0 < b.f0 ∨ (a.f0 = b.f0 ∧ a.f1 < b.f1)) := by
  unfold pcmp
  by_cases c1 : a.f0 < b.f0
  · simp [c1]
  · by_cases c2 : a.f0 > b.f0
    · have h : ¬ a.f0 = b.f0 := by omega
      simp [c1, c2, h]
    · have h : a.f0 = b.f0 := by omega
      by_cases c3 : a.f1 < b.f1
      · simp [c3, h]
      · by_cases c4 : a.f1 > b.f1
        · simp [c3, c4, h]
        · simp [c3, c4, h]

theorem before_eq (a b c d : Int) : spec_l2Before.f a b c d = some (decide (a < c ∨ (a = c ∧ b < d))) := by
  unfold spec_l2Before.f
  by_cases c1 : a < c
  · simp [c1]
  · by_cases c2 : a = c
    · subst c2
      simp
    · simp [c1, c2]

theorem good_both (l : List S57) (s : Int) (h0 : 0 ≤ s) (h8 : s ≤ 8) (hl : l.length ≤ 1048576) : ∀ (d : Nat) (i : Int), 0 ≤ i → (l.length : Int) - i = d →
    ∃ b, Ev (fun k => spec_l2Good.l0 k i s l) b ∧ Ev (fun k => impl_IsGraph.l0 k l s i) b := by
  intro d
  induction d with
  | zero =>
    intro i hi hd
    have hn : ¬ i < (l.length : Int) := by omega
    refine ⟨true, Ev.step (f := fun _ => some true) (fun k => ?_) (Ev.now true), Ev.step (f := fun _ => some true) (fun k => ?_) (Ev.now true)⟩
    · simp only [spec_l2Good.l0]
      rw [if_neg hn, l1In_eq, Option.bind_some, decide_eq_true ⟨h0, h8⟩]
    · simp only [impl_IsGraph.l0]
      rw [if_neg hn]
  | succ d ih =>
    intro i hi hd
    have hp : i < (l.length : Int) := by omega
    obtain ⟨b, hs, hm⟩ := ih (i + 1) (by omega) (by omega)
    have hw : wrap64 (i + 1) = i + 1 := by unfold wrap64; omega
    have hw1 : wrap64 (i - 1) = i - 1 := by unfold wrap64; omega
    have hw2 : wrap64 (s - 1) = s - 1 := by unfold wrap64; omega
    have no : ∀ k, (0 ≤ (rd_T57 l i).f0 ∧ (rd_T57 l i).f0 < (rd_T57 l i).f1 ∧ (rd_T57 l i).f1 < s ∧ (0 < i → (rd_T57 l (i - 1)).f0 < (rd_T57 l i).f0 ∨ ((rd_T57 l (i - 1)).f0 = (rd_T57 l i).f0 ∧ (rd_T57 l (i - 1)).f1 < (rd_T57 l i).f1))) ∨
        (spec_l2Good.l0 (k + 1) i s l = some false ∧ impl_IsGraph.l0 (k + 1) l s i = some false) := by
      intro k
      simp only [spec_l2Good.l0, impl_IsGraph.l0, l1In_eq, before_eq, hw, hw1, hw2, pcmp_iff, if_pos hp, if_pos hi, Option.bind_some, decide_eq_true_eq]
      by_cases c1 : 0 ≤ (rd_T57 l i).f0
      · by_cases c2 : (rd_T57 l i).f0 < (rd_T57 l i).f1
        · by_cases c3 : (rd_T57 l i).f1 < s
          · by_cases c4 : 0 < i
            · by_cases c5 : (rd_T57 l (i - 1)).f0 < (rd_T57 l i).f0 ∨ ((rd_T57 l (i - 1)).f0 = (rd_T57 l i).f0 ∧ (rd_T57 l (i - 1)).f1 < (rd_T57 l i).f1)
              · exact .inl ⟨c1, c2, c3, fun _ => c5⟩
              · right
                rw [if_pos ⟨c1, by omega⟩, if_pos ⟨by omega, by omega⟩, if_neg (by omega), if_pos c4, if_pos (by omega), if_pos (by omega), if_neg c5, if_neg (by omega), if_neg (by omega), if_neg (by omega), if_pos c4, if_pos c5]
                exact ⟨rfl, rfl⟩
            · exact .inl ⟨c1, c2, c3, fun h => absurd h c4⟩
          · right
            refine ⟨?_, ?_⟩
            · by_cases c6 : 0 ≤ (rd_T57 l i).f0 ∧ (rd_T57 l i).f0 ≤ s - 1
              · rw [if_pos c6, if_neg (by omega)]
              · rw [if_neg c6]
            · rw [if_neg (by omega), if_neg (by omega), if_pos (by omega)]
        · right
          refine ⟨?_, ?_⟩
          · by_cases c6 : 0 ≤ (rd_T57 l i).f0 ∧ (rd_T57 l i).f0 ≤ s - 1
            · rw [if_pos c6]
              by_cases c7 : 0 ≤ (rd_T57 l i).f1 ∧ (rd_T57 l i).f1 ≤ s - 1
              · rw [if_pos c7, if_pos (by omega)]
              · rw [if_neg c7]
            · rw [if_neg c6]
          · rw [if_neg (by omega), if_pos (by omega)]
      · right
        rw [if_neg (by omega), if_pos (by omega)]
        exact ⟨rfl, rfl⟩
    by_cases hc : 0 ≤ (rd_T57 l i).f0 ∧ (rd_T57 l i).f0 < (rd_T57 l i).f1 ∧ (rd_T57 l i).f1 < s ∧ (0 < i → (rd_T57 l (i - 1)).f0 < (rd_T57 l i).f0 ∨ ((rd_T57 l (i - 1)).f0 = (rd_T57 l i).f0 ∧ (rd_T57 l (i - 1)).f1 < (rd_T57 l i).f1))
    · obtain ⟨c1, c2, c3, c5⟩ := hc
      refine ⟨b, Ev.step (fun k => ?_) hs, Ev.step (fun k => ?_) hm⟩
      · simp only [spec_l2Good.l0, l1In_eq, before_eq, hw, hw1, hw2, if_pos hp, if_pos hi, Option.bind_some, decide_eq_true_eq]
        rw [if_pos ⟨c1, by omega⟩, if_pos ⟨by omega, by omega⟩, if_neg (by omega)]
        by_cases c4 : i > 0
        · rw [if_pos c4, if_pos (by omega), if_pos (by omega), if_pos (c5 c4)]
        · rw [if_neg c4]
      · simp only [impl_IsGraph.l0, hw, hw1, pcmp_iff, if_pos hp, if_pos hi]
        rw [if_neg (by omega), if_neg (by omega), if_neg (by omega)]
        by_cases c4 : i > 0
        · rw [if_pos c4, if_neg (fun h => h (c5 c4))]
        · rw [if_neg c4]
    · refine ⟨false, Ev.step (f := fun _ => some false) (fun k => ?_) (Ev.now false), Ev.step (f := fun _ => some false) (fun k => ?_) (Ev.now false)⟩
      · rcases no k with h | h
        · exact absurd h hc
        · exact h.1
      · rcases no k with h | h
        · exact absurd h hc
        · exact h.2

theorem good_not (l : List S57) (s : Int) (h8 : ¬ (0 ≤ s ∧ s ≤ 8)) (hl : l.length ≤ 1048576) : ∀ (d : Nat) (i : Int), 0 ≤ i → (l.length : Int) - i = d →
    Ev (fun k => spec_l2Good.l0 k i s l) false := by
  intro d
  induction d with
  | zero =>
    intro i hi hd
    have hn : ¬ i < (l.length : Int) := by omega
    refine Ev.step (f := fun _ => some false) (fun k => ?_) (Ev.now false)
    simp only [spec_l2Good.l0]
    rw [if_neg hn, l1In_eq, Option.bind_some, decide_eq_false h8]
  | succ d ih =>
    intro i hi hd
    have hp : i < (l.length : Int) := by omega
    have hw : wrap64 (i + 1) = i + 1 := by unfold wrap64; omega
    have hw1 : wrap64 (i - 1) = i - 1 := by unfold wrap64; omega
    have hr := ih (i + 1) (by omega) (by omega)
    have one : ∀ k, spec_l2Good.l0 (k + 1) i s l = some false ∨ spec_l2Good.l0 (k + 1) i s l = spec_l2Good.l0 k (i + 1) s l := by
      intro k
      simp only [spec_l2Good.l0, l1In_eq, before_eq, hw, hw1, if_pos hp, if_pos hi, Option.bind_some, decide_eq_true_eq]
      repeat' split
      all_goals first | exact .inl rfl | exact .inr rfl | (exfalso; omega)
    obtain ⟨K, hK⟩ := hr
    refine ⟨K + 1, fun k hk => ?_⟩
    obtain ⟨k, rfl⟩ : ∃ m, k = m + 1 := ⟨k - 1, by omega⟩
    rcases one k with h | h
    · exact h
    · exact h.trans (hK k (by omega))

theorem FnExactIsGraph : laws_FnExactIsGraph.Pure := by
  intro s l hs hl hx
  by_cases hbig : (1048576 : Int) - l.length < 0
  · refine ⟨0, ?_⟩
    unfold laws_FnExactIsGraph.f
    rw [sz_big s l hl hbig]
    rfl
  have hlen : l.length ≤ 1048576 := by omega
  obtain ⟨K1, h1⟩ := toGraph_ev s l hlen
  obtain ⟨K2, h2⟩ := eqGraph_ev s l hlen
  have hb : ∃ b, Ev (fun k => spec_IsGraph.f k s l) b ∧ Ev (fun k => impl_IsGraph.f k s l) b := by
    by_cases h8 : 0 ≤ s ∧ s ≤ 8
    · obtain ⟨b, hA, hB⟩ := good_both l s h8.1 h8.2 hlen l.length 0 (by omega) (by omega)
      refine ⟨b, ?_, ?_⟩
      · obtain ⟨K, hK⟩ := hA
        dsimp only at hK
        exact ⟨K, fun k hk => by dsimp only; unfold spec_IsGraph.f spec_l2Good.f; rw [hK k hk]; rfl⟩
      · obtain ⟨K, hK⟩ := hB
        dsimp only at hK
        exact ⟨K, fun k hk => by dsimp only; unfold impl_IsGraph.f; rw [if_pos h8]; exact hK k hk⟩
    · refine ⟨false, ?_, ⟨0, fun k _ => by dsimp only; unfold impl_IsGraph.f; rw [if_neg h8]⟩⟩
      obtain ⟨K, hK⟩ := good_not l s h8 hlen l.length 0 (by omega) (by omega)
      dsimp only at hK
      exact ⟨K, fun k hk => by dsimp only; unfold spec_IsGraph.f spec_l2Good.f; rw [hK k hk]; rfl⟩
  obtain ⟨b, ⟨K3, h3⟩, ⟨K4, h4⟩⟩ := hb
  dsimp only at h1 h2 h3 h4
  refine ⟨K1 + K2 + K3 + K4, ?_⟩
  unfold laws_FnExactIsGraph.f
  rw [sz_small s l hlen, Option.bind_some, if_neg (by omega), h1 _ (by omega), Option.bind_some]
  show ((spec_IsGraph.f (K1 + K2 + K3 + K4) s l).bind _) = _
  rw [h3 _ (by omega), Option.bind_some, Option.bind_some]
  show ((impl_IsGraph.f (K1 + K2 + K3 + K4) s l).bind _) = _
  rw [h4 _ (by omega), Option.bind_some, if_neg (by simp), Option.bind_some]
  show ((laws_eqGraph.f (K1 + K2 + K3 + K4) s l s l).bind _) = _
  rw [h2 _ (by omega)]
  rfl

end Go.Proofs.Ytooeemiljeeoaaa.Pure
