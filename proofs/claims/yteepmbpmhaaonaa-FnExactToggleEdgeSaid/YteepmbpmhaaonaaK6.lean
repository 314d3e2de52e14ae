/- Functions of the program as Lean functions, that each call comes to what they say, and what holds of them; part 6 of 6; no conditions beyond those that each theorem names. -/
import Derived.KernelRfl
import Derived.Laws.BitsLemmas
import Derived.Test.YteepmbpmhaaonaaK1
import Derived.Test.YteepmbpmhaaonaaK2
import Derived.Test.YteepmbpmhaaonaaK3
import Derived.Test.YteepmbpmhaaonaaK4
import Derived.Test.YteepmbpmhaaonaaK5
namespace Go.Proofs.Yteepmbpmhaaonaa.Gr
open Go.RowKit Go.Proofs.Yteepmbpmhaaonaa.P Go.Proofs.YteepmbpmhaaonaaW.PrintWords Go.Proofs.YteepmbpmhaaonaaW.PrintLast
theorem l1In_eq (a lo hi : Int) : spec_l1In.f a lo hi = some (decide (lo ≤ a ∧ a ≤ hi)) := by
  unfold spec_l1In.f
  by_cases h : a ≥ lo
  · rw [if_pos h]
    simp [show lo ≤ a from h]
  · rw [if_neg h]
    simp [show ¬ lo ≤ a from h]
theorem sz_big (s : Int) (l : List S65) (hl : l.length ≤ maxLen) (h : (1048576 : Int) - l.length < 0) : laws_szGraph.f s l 1048576 = some (-1) := by
  have hm : (l.length : Int) ≤ 9223372036854775807 := by have : maxLen ≤ 9223372036854775807 := by decide
                                                         omega
  have hw : wrap64 (1048576 - (l.length : Int)) = 1048576 - (l.length : Int) := by unfold wrap64; omega
  unfold laws_szGraph.f laws_szIntA2S.f
  rw [hw, if_pos h]
  rfl
theorem sz_small (s : Int) (l : List S65) (h : l.length ≤ 1048576) : laws_szGraph.f s l 1048576 = some (1048576 - (l.length : Int)) := by
  have hw : wrap64 (1048576 - (l.length : Int)) = 1048576 - (l.length : Int) := by unfold wrap64; omega
  unfold laws_szGraph.f laws_szIntA2S.f
  rw [hw, if_neg (by omega), Option.bind_some, if_neg (by omega)]
theorem sz_bigR (s : Int) (l : List S65) (left : Int) (hl : l.length ≤ maxLen) (h0 : 0 ≤ left) (h2 : left ≤ 1048576) (h : left - l.length < 0) : laws_szGraph.f s l left = some (-1) := by
  have hm : (l.length : Int) ≤ 9223372036854775807 := by have : maxLen ≤ 9223372036854775807 := by decide
                                                         omega
  have hw : wrap64 (left - (l.length : Int)) = left - (l.length : Int) := by unfold wrap64; omega
  unfold laws_szGraph.f laws_szIntA2S.f
  rw [hw, if_pos h]
  rfl
theorem sz_smallR (s : Int) (l : List S65) (left : Int) (h2 : left ≤ 1048576) (h : ¬ left - l.length < 0) : laws_szGraph.f s l left = some (left - (l.length : Int)) := by
  have hw : wrap64 (left - (l.length : Int)) = left - (l.length : Int) := by unfold wrap64; omega
  unfold laws_szGraph.f laws_szIntA2S.f
  rw [hw, if_neg h, Option.bind_some, if_neg h]
theorem sz_ev {a : Option Int} {r : Int} (h : a = some r) : Ev (fun _ => a) r := ⟨0, fun _ _ => h⟩
theorem rd_lt (l : List S65) (i : Int) (h0 : 0 ≤ i) (h1 : i < l.length) : l[i.toNat]? = some (rd_T65 l i) := by
  unfold rd_T65
  rw [List.getD_eq_getElem?_getD, List.getElem?_eq_getElem (by omega)]
  rfl
theorem to_ev (l : List S65) (hl : l.length ≤ 1048576) : ∀ (d : Nat) (m : List S65) (i : Int), 0 ≤ i → (l.length : Int) - i = d → m.length = l.length →
    (∀ j : Nat, (j : Int) < i → m[j]? = l[j]?) → Ev (fun k => laws_toIntA2S.l0 k l m i) l := by
  intro d
  induction d with
  | zero =>
    intro m i hi hd hm he
    have hn : ¬ i < (l.length : Int) := by omega
    have e : m = l := by
      apply List.ext_getElem?
      intro j
      by_cases hj : j < l.length
      · exact he j (by omega)
      · rw [List.getElem?_eq_none (by omega), List.getElem?_eq_none (by omega)]
    refine Ev.step (f := fun _ => some l) (fun k => ?_) (Ev.now l)
    simp only [laws_toIntA2S.l0]
    rw [if_neg hn, e]
  | succ d ih =>
    intro m i hi hd hm he
    have hp : i < (l.length : Int) := by omega
    have hw : wrap64 (i + 1) = i + 1 := by unfold wrap64; omega
    have h := ih (m.set i.toNat (rd_T65 l i)) (i + 1) (by omega) (by omega) (by simp [hm]) (fun j hj => by
      by_cases hji : j = i.toNat
      · subst hji
        rw [List.getElem?_set_self (by omega)]
        exact (rd_lt l i hi hp).symm
      · rw [List.getElem?_set_ne (fun e => hji e.symm)]
        exact he j (by omega))
    refine Ev.step (fun k => ?_) h
    simp only [laws_toIntA2S.l0, laws_toIntA2.f, Option.bind_some]
    rw [if_pos hp, if_pos hi, if_pos (by omega), hw]
theorem toPairs_ev (l : List S65) (hl : l.length ≤ 1048576) : Ev (fun k => laws_toIntA2S.f k l) l := by
  obtain ⟨K, hK⟩ := to_ev l hl l.length (List.replicate l.length z65) 0 (by omega) (by omega) (by simp) (fun j hj => by omega)
  refine ⟨K, fun k hk => ?_⟩
  show laws_toIntA2S.f k l = _
  unfold laws_toIntA2S.f
  rw [if_pos (by omega), if_pos (by omega)]
  exact hK k hk
theorem toGraph_ev (s : Int) (l : List S65) (hl : l.length ≤ 1048576) : Ev (fun k => laws_toGraph.f k s l) (s, l) := by
  obtain ⟨K, hK⟩ := toPairs_ev l hl
  dsimp only at hK
  exact ⟨K, fun k hk => by show laws_toGraph.f k s l = _; unfold laws_toGraph.f; rw [hK k hk]; rfl⟩
theorem eq_ev (l : List S65) (hl : l.length ≤ 1048576) : ∀ (d : Nat) (i : Int), 0 ≤ i → (l.length : Int) - i = d → Ev (fun k => laws_eqIntA2S.l0 k l l i) true := by
  intro d
  induction d with
  | zero =>
    intro i hi hd
    refine Ev.step (f := fun _ => some true) (fun k => ?_) (Ev.now true)
    simp only [laws_eqIntA2S.l0]
    rw [if_neg (by omega)]
  | succ d ih =>
    intro i hi hd
    have hp : i < (l.length : Int) := by omega
    have hw : wrap64 (i + 1) = i + 1 := by unfold wrap64; omega
    refine Ev.step (fun k => ?_) (ih (i + 1) (by omega) (by omega))
    simp only [laws_eqIntA2S.l0, laws_eqIntA2.f, if_pos hp, if_pos hi, hw, if_true, Option.bind_some]
theorem eqGraph_ev (s : Int) (l : List S65) (hl : l.length ≤ 1048576) : Ev (fun k => laws_eqGraph.f k s l s l) true := by
  obtain ⟨K, hK⟩ := eq_ev l hl l.length 0 (by omega) (by omega)
  dsimp only at hK
  refine ⟨K, fun k hk => ?_⟩
  show laws_eqGraph.f k s l s l = _
  unfold laws_eqGraph.f laws_eqIntA2S.f
  rw [if_pos rfl, if_pos rfl, hK k hk]
  rfl
theorem pcmp_iff (a b : S65) : 0 ≤ pcmp a b ↔ ¬ (a.f0 < b.f0 ∨ (a.f0 = b.f0 ∧ a.f1 < b.f1)) := by
  unfold pcmp
  by_cases c1 : a.f0 < b.f0
  · simp [c1]
  · by_cases c2 : a.f0 > b.f0
    · have h : ¬ a.f0 = b.f0 := by omega
      simp [c1, c2, h]
    · have h : a.f0 = b.f0 := by omega
      by_cases c3 : a.f1 < b.f1
      · simp [c3, h]
      · by_cases c4 : a.f1 > b.f1
        · simp [c3, c4, h]
        · simp [c3, c4, h]
theorem before_eq (a b c d : Int) : spec_l2Before.f a b c d = some (decide (a < c ∨ (a = c ∧ b < d))) := by
  unfold spec_l2Before.f
  by_cases c1 : a < c
  · simp [c1]
  · by_cases c2 : a = c
    · subst c2
      simp
    · simp [c1, c2]
theorem good_both (l : List S65) (s : Int) (h0 : 0 ≤ s) (h8 : s ≤ 8) (hl : l.length ≤ 1048576) : ∀ (d : Nat) (i : Int), 0 ≤ i → (l.length : Int) - i = d →
    ∃ b, (b = true → ∀ j : Int, i ≤ j → j < l.length → 0 ≤ (rd_T65 l j).f0 ∧ (rd_T65 l j).f0 < (rd_T65 l j).f1 ∧ (rd_T65 l j).f1 < s ∧ (0 < j → (rd_T65 l (j - 1)).f0 < (rd_T65 l j).f0 ∨ ((rd_T65 l (j - 1)).f0 = (rd_T65 l j).f0 ∧ (rd_T65 l (j - 1)).f1 < (rd_T65 l j).f1))) ∧ Ev (fun k => spec_l2Good.l0 k i s l) b ∧ Ev (fun k => impl_IsGraph.l0 k l s i) b := by
  intro d
  induction d with
  | zero =>
    intro i hi hd
    have hn : ¬ i < (l.length : Int) := by omega
    refine ⟨true, fun _ j h1 h2 => by omega, Ev.step (f := fun _ => some true) (fun k => ?_) (Ev.now true), Ev.step (f := fun _ => some true) (fun k => ?_) (Ev.now true)⟩
    · simp only [spec_l2Good.l0]
      rw [if_neg hn, l1In_eq, Option.bind_some, decide_eq_true ⟨h0, h8⟩]
    · simp only [impl_IsGraph.l0]
      rw [if_neg hn]
  | succ d ih =>
    intro i hi hd
    have hp : i < (l.length : Int) := by omega
    obtain ⟨b, hg, hs, hm⟩ := ih (i + 1) (by omega) (by omega)
    have hw : wrap64 (i + 1) = i + 1 := by unfold wrap64; omega
    have hw1 : wrap64 (i - 1) = i - 1 := by unfold wrap64; omega
    have hw2 : wrap64 (s - 1) = s - 1 := by unfold wrap64; omega
    have no : ∀ k, (0 ≤ (rd_T65 l i).f0 ∧ (rd_T65 l i).f0 < (rd_T65 l i).f1 ∧ (rd_T65 l i).f1 < s ∧ (0 < i → (rd_T65 l (i - 1)).f0 < (rd_T65 l i).f0 ∨ ((rd_T65 l (i - 1)).f0 = (rd_T65 l i).f0 ∧ (rd_T65 l (i - 1)).f1 < (rd_T65 l i).f1))) ∨
        (spec_l2Good.l0 (k + 1) i s l = some false ∧ impl_IsGraph.l0 (k + 1) l s i = some false) := by
      intro k
      simp only [spec_l2Good.l0, impl_IsGraph.l0, l1In_eq, before_eq, hw, hw1, hw2, pcmp_iff, if_pos hp, if_pos hi, Option.bind_some, decide_eq_true_eq]
      by_cases c1 : 0 ≤ (rd_T65 l i).f0
      · by_cases c2 : (rd_T65 l i).f0 < (rd_T65 l i).f1
        · by_cases c3 : (rd_T65 l i).f1 < s
          · by_cases c4 : 0 < i
            · by_cases c5 : (rd_T65 l (i - 1)).f0 < (rd_T65 l i).f0 ∨ ((rd_T65 l (i - 1)).f0 = (rd_T65 l i).f0 ∧ (rd_T65 l (i - 1)).f1 < (rd_T65 l i).f1)
              · exact .inl ⟨c1, c2, c3, fun _ => c5⟩
              · right
                rw [if_pos ⟨c1, by omega⟩, if_pos ⟨by omega, by omega⟩, if_neg (by omega), if_pos c4, if_pos (by omega), if_pos (by omega), if_neg c5, if_neg (by omega), if_neg (by omega), if_neg (by omega), if_pos c4, if_pos c5]
                exact ⟨rfl, rfl⟩
            · exact .inl ⟨c1, c2, c3, fun h => absurd h c4⟩
          · right
            refine ⟨?_, ?_⟩
            · by_cases c6 : 0 ≤ (rd_T65 l i).f0 ∧ (rd_T65 l i).f0 ≤ s - 1
              · rw [if_pos c6, if_neg (by omega)]
              · rw [if_neg c6]
            · rw [if_neg (by omega), if_neg (by omega), if_pos (by omega)]
        · right
          refine ⟨?_, ?_⟩
          · by_cases c6 : 0 ≤ (rd_T65 l i).f0 ∧ (rd_T65 l i).f0 ≤ s - 1
            · rw [if_pos c6]
              by_cases c7 : 0 ≤ (rd_T65 l i).f1 ∧ (rd_T65 l i).f1 ≤ s - 1
              · rw [if_pos c7, if_pos (by omega)]
              · rw [if_neg c7]
            · rw [if_neg c6]
          · rw [if_neg (by omega), if_pos (by omega)]
      · right
        rw [if_neg (by omega), if_pos (by omega)]
        exact ⟨rfl, rfl⟩
    by_cases hc : 0 ≤ (rd_T65 l i).f0 ∧ (rd_T65 l i).f0 < (rd_T65 l i).f1 ∧ (rd_T65 l i).f1 < s ∧ (0 < i → (rd_T65 l (i - 1)).f0 < (rd_T65 l i).f0 ∨ ((rd_T65 l (i - 1)).f0 = (rd_T65 l i).f0 ∧ (rd_T65 l (i - 1)).f1 < (rd_T65 l i).f1))
    · obtain ⟨c1, c2, c3, c5⟩ := hc
      refine ⟨b, fun hb j h1 h2 => ?_, Ev.step (fun k => ?_) hs, Ev.step (fun k => ?_) hm⟩
      · by_cases hj : j = i
        · subst hj
          exact ⟨c1, c2, c3, c5⟩
        · exact hg hb j (by omega) h2
      · simp only [spec_l2Good.l0, l1In_eq, before_eq, hw, hw1, hw2, if_pos hp, if_pos hi, Option.bind_some, decide_eq_true_eq]
        rw [if_pos ⟨c1, by omega⟩, if_pos ⟨by omega, by omega⟩, if_neg (by omega)]
        by_cases c4 : i > 0
        · rw [if_pos c4, if_pos (by omega), if_pos (by omega), if_pos (c5 c4)]
        · rw [if_neg c4]
      · simp only [impl_IsGraph.l0, hw, hw1, pcmp_iff, if_pos hp, if_pos hi]
        rw [if_neg (by omega), if_neg (by omega), if_neg (by omega)]
        by_cases c4 : i > 0
        · rw [if_pos c4, if_neg (fun h => h (c5 c4))]
        · rw [if_neg c4]
    · refine ⟨false, fun h => (by cases h), Ev.step (f := fun _ => some false) (fun k => ?_) (Ev.now false), Ev.step (f := fun _ => some false) (fun k => ?_) (Ev.now false)⟩
      · rcases no k with h | h
        · exact absurd h hc
        · exact h.1
      · rcases no k with h | h
        · exact absurd h hc
        · exact h.2
theorem good_not (l : List S65) (s : Int) (h8 : ¬ (0 ≤ s ∧ s ≤ 8)) (hl : l.length ≤ 1048576) : ∀ (d : Nat) (i : Int), 0 ≤ i → (l.length : Int) - i = d →
    Ev (fun k => spec_l2Good.l0 k i s l) false := by
  intro d
  induction d with
  | zero =>
    intro i hi hd
    have hn : ¬ i < (l.length : Int) := by omega
    refine Ev.step (f := fun _ => some false) (fun k => ?_) (Ev.now false)
    simp only [spec_l2Good.l0]
    rw [if_neg hn, l1In_eq, Option.bind_some, decide_eq_false h8]
  | succ d ih =>
    intro i hi hd
    have hp : i < (l.length : Int) := by omega
    have hw : wrap64 (i + 1) = i + 1 := by unfold wrap64; omega
    have hw1 : wrap64 (i - 1) = i - 1 := by unfold wrap64; omega
    have hr := ih (i + 1) (by omega) (by omega)
    have one : ∀ k, spec_l2Good.l0 (k + 1) i s l = some false ∨ spec_l2Good.l0 (k + 1) i s l = spec_l2Good.l0 k (i + 1) s l := by
      intro k
      simp only [spec_l2Good.l0, l1In_eq, before_eq, hw, hw1, if_pos hp, if_pos hi, Option.bind_some, decide_eq_true_eq]
      repeat' split
      all_goals first | exact .inl rfl | exact .inr rfl | (exfalso; omega)
    obtain ⟨K, hK⟩ := hr
    refine ⟨K + 1, fun k hk => ?_⟩
    obtain ⟨k, rfl⟩ : ∃ m, k = m + 1 := ⟨k - 1, by omega⟩
    rcases one k with h | h
    · exact h
    · exact h.trans (hK k (by omega))
/-- A good graph: at most eight nodes, each edge from a lower node to a higher one. -/
def Good (s : Int) (l : List S65) : Prop := 0 ≤ s ∧ s ≤ 8 ∧ ∀ j : Int, 0 ≤ j → j < l.length → 0 ≤ (rd_T65 l j).f0 ∧ (rd_T65 l j).f0 < (rd_T65 l j).f1 ∧ (rd_T65 l j).f1 < s
/-- Its pairs stand in order. -/
def Sorted (l : List S65) : Prop := ∀ j : Int, 0 < j → j < l.length → (rd_T65 l (j - 1)).f0 < (rd_T65 l j).f0 ∨ ((rd_T65 l (j - 1)).f0 = (rd_T65 l j).f0 ∧ (rd_T65 l (j - 1)).f1 < (rd_T65 l j).f1)
theorem isGraph_full (s : Int) (l : List S65) (hlen : l.length ≤ 1048576) : ∃ b, (b = true → Good s l ∧ Sorted l) ∧ Ev (fun k => spec_l2Good.f k s l) b ∧ Ev (fun k => impl_IsGraph.f k s l) b := by
  by_cases h8 : 0 ≤ s ∧ s ≤ 8
  · obtain ⟨b, hg, hA, hB⟩ := good_both l s h8.1 h8.2 hlen l.length 0 (by omega) (by omega)
    refine ⟨b, fun h => ⟨⟨h8.1, h8.2, fun j h0 h1 => ⟨(hg h j h0 h1).1, (hg h j h0 h1).2.1, (hg h j h0 h1).2.2.1⟩⟩, fun j h0 h1 => (hg h j (by omega) h1).2.2.2 h0⟩, ?_, ?_⟩
    · obtain ⟨K, hK⟩ := hA
      dsimp only at hK
      exact ⟨K, fun k hk => by dsimp only; unfold spec_l2Good.f; exact hK k hk⟩
    · obtain ⟨K, hK⟩ := hB
      dsimp only at hK
      exact ⟨K, fun k hk => by dsimp only; unfold impl_IsGraph.f; rw [if_pos h8]; exact hK k hk⟩
  · refine ⟨false, fun h => (by cases h), ?_, ⟨0, fun k _ => by dsimp only; unfold impl_IsGraph.f; rw [if_neg h8]⟩⟩
    obtain ⟨K, hK⟩ := good_not l s h8 hlen l.length 0 (by omega) (by omega)
    dsimp only at hK
    exact ⟨K, fun k hk => by dsimp only; unfold spec_l2Good.f; exact hK k hk⟩
theorem isGraph_both (s : Int) (l : List S65) (hlen : l.length ≤ 1048576) : ∃ b, (b = true → Good s l) ∧ Ev (fun k => spec_l2Good.f k s l) b ∧ Ev (fun k => impl_IsGraph.f k s l) b := by
  obtain ⟨b, h1, h2, h3⟩ := isGraph_full s l hlen
  exact ⟨b, fun h => (h1 h).1, h2, h3⟩
end Go.Proofs.Yteepmbpmhaaonaa.Gr
namespace Go.Proofs.Yteepmbpmhaaonaa.Gr
open Go.RowKit Go.Proofs.Yteepmbpmhaaonaa.P Go.Proofs.YteepmbpmhaaonaaW.PrintWords Go.Proofs.YteepmbpmhaaonaaW.PrintLast Go.Proofs.YteepmbpmhaaonaaW.PrintMore
/-- Is the edge u, v among the first d pairs from i on? -/
def nearF (l : List S65) (u v : Int) : Nat → Int → Bool
  | 0, _ => false
  | d + 1, i => ((rd_T65 l i).f0 == u && (rd_T65 l i).f1 == v) || ((rd_T65 l i).f0 == v && (rd_T65 l i).f1 == u) || nearF l u v d (i + 1)
def near (l : List S65) (u v : Int) : Bool := nearF l u v l.length 0
/-- A node's bit in a mask. -/
def bit (m v : Int) : Bool := Go.bits .and .i64 (shr .i64 m v) 1 == 1
def put (m v : Int) : Int := Go.bits .or .i64 m (shl .i64 1 v)
theorem put_all : ((List.range 256).all fun m => (List.range 8).all fun w => (decide (0 ≤ put m w) && decide (put m w < 256)) && (List.range 8).all fun v => bit (put m w) v == (bit m v || v == w)) = true := by kernel_rfl
theorem zero_all : ((List.range 8).all fun v => bit 0 v == false) = true := by kernel_rfl
theorem put_ok (m w : Int) (h0 : 0 ≤ m) (h1 : m < 256) (h2 : 0 ≤ w) (h3 : w < 8) : 0 ≤ put m w ∧ put m w < 256 ∧ ∀ v : Int, 0 ≤ v → v < 8 → bit (put m w) v = (bit m v || v == w) := by
  have h := List.all_eq_true.1 put_all m.toNat (List.mem_range.2 (by omega))
  have h' := List.all_eq_true.1 h w.toNat (List.mem_range.2 (by omega))
  rw [Int.toNat_of_nonneg h0, Int.toNat_of_nonneg h2, Bool.and_eq_true, Bool.and_eq_true, decide_eq_true_eq, decide_eq_true_eq] at h'
  refine ⟨h'.1.1, h'.1.2, fun v hv0 hv1 => ?_⟩
  have h'' := List.all_eq_true.1 h'.2 v.toNat (List.mem_range.2 (by omega))
  rw [Int.toNat_of_nonneg hv0, beq_iff_eq] at h''
  rw [h'']
  congr 1
  rw [Bool.eq_iff_iff, beq_iff_eq, beq_iff_eq]
  omega
theorem bit_zero (v : Int) (h0 : 0 ≤ v) (h1 : v < 8) : bit 0 v = false := by
  have h := List.all_eq_true.1 zero_all v.toNat (List.mem_range.2 (by omega))
  rw [Int.toNat_of_nonneg h0, beq_iff_eq] at h
  exact h
theorem rd_set (m : List Int) (i j x : Int) (h0 : 0 ≤ i) (h1 : i < m.length) (h2 : 0 ≤ j) : rd (m.set i.toNat x) j = if i = j then x else rd m j := by
  unfold rd
  rw [List.getD_eq_getElem?_getD, List.getD_eq_getElem?_getD]
  by_cases h : i = j
  · subst h
    rw [List.getElem?_set_self (by omega), if_pos rfl]
    rfl
  · rw [List.getElem?_set_ne (by omega), if_neg h]
/-- Masks of n nodes. -/
def Masks (s : Int) (m : List Int) : Prop := (m.length : Int) = s ∧ ∀ u : Int, 0 ≤ u → u < s → 0 ≤ rd m u ∧ rd m u < 256
theorem net_loop (s : Int) (l : List S65) (hl : l.length ≤ 1048576) (hg : Good s l) : ∀ (d : Nat) (i : Int) (m : List Int), 0 ≤ i → (l.length : Int) - i = d → Masks s m →
    ∃ r, Masks s r ∧ (∀ u v : Int, 0 ≤ u → u < s → 0 ≤ v → v < 8 → bit (rd r u) v = (bit (rd m u) v || nearF l u v d i)) ∧ Ev (fun k => impl_netOf.l0 k l l.length i m) r := by
  intro d
  induction d with
  | zero =>
    intro i m hi hd hm
    refine ⟨m, hm, fun u v _ _ _ _ => by simp [nearF], Ev.step (f := fun _ => some m) (fun k => ?_) (Ev.now m)⟩
    simp only [impl_netOf.l0]
    rw [if_neg (by omega)]
  | succ d ih =>
    intro i m hi hd hm
    obtain ⟨hs0, hs8, hgood⟩ := hg
    obtain ⟨g0, g1, g2⟩ := hgood i hi (by omega)
    have hw : wrap64 (i + 1) = i + 1 := by unfold wrap64; omega
    have hlen := hm.1
    obtain ⟨a, ha⟩ : ∃ a, a = (rd_T65 l i).f0 := ⟨_, rfl⟩
    obtain ⟨b, hb⟩ : ∃ b, b = (rd_T65 l i).f1 := ⟨_, rfl⟩
    rw [← ha] at g0 g1
    rw [← hb] at g1 g2
    obtain ⟨pa0, pa1, pa⟩ := put_ok (rd m a) b (hm.2 a g0 (by omega)).1 (hm.2 a g0 (by omega)).2 (by omega) (by omega)
    obtain ⟨pb0, pb1, pb⟩ := put_ok (rd m b) a (hm.2 b (by omega) g2).1 (hm.2 b (by omega) g2).2 g0 (by omega)
    obtain ⟨m1, hm1⟩ : ∃ m1, m1 = m.set a.toNat (put (rd m a) b) := ⟨_, rfl⟩
    obtain ⟨m2, hm2⟩ : ∃ m2, m2 = m1.set b.toNat (put (rd m1 b) a) := ⟨_, rfl⟩
    have l1 : m1.length = m.length := by rw [hm1, List.length_set]
    have l2 : m2.length = m.length := by rw [hm2, List.length_set, l1]
    have r1 : ∀ u : Int, 0 ≤ u → rd m1 u = if a = u then put (rd m a) b else rd m u := fun u hu => by rw [hm1]; exact rd_set m a u _ g0 (by omega) hu
    have r1b : rd m1 b = rd m b := by rw [r1 b (by omega), if_neg (by omega)]
    have r2 : ∀ u : Int, 0 ≤ u → rd m2 u = if b = u then put (rd m b) a else if a = u then put (rd m a) b else rd m u := fun u hu => by
      rw [hm2, rd_set m1 b u _ (by omega) (by omega) hu, r1b]
      by_cases h : b = u
      · rw [if_pos h, if_pos h]
      · rw [if_neg h, if_neg h, r1 u hu]
    have hm' : Masks s m2 := by
      refine ⟨by rw [l2]; exact hm.1, fun u hu0 hu1 => ?_⟩
      rw [r2 u hu0]
      by_cases h : b = u
      · rw [if_pos h]; exact ⟨pb0, pb1⟩
      · rw [if_neg h]
        by_cases h' : a = u
        · rw [if_pos h']; exact ⟨pa0, pa1⟩
        · rw [if_neg h']; exact hm.2 u hu0 hu1
    obtain ⟨r, hr, hbit, hev⟩ := ih (i + 1) m2 (by omega) (by omega) hm'
    refine ⟨r, hr, fun u v hu0 hu1 hv0 hv1 => ?_, Ev.step (fun k => ?_) hev⟩
    · rw [hbit u v hu0 hu1 hv0 hv1, r2 u hu0]
      conv => rhs; unfold nearF
      rw [← ha, ← hb]
      by_cases h : b = u
      · subst h
        rw [if_pos rfl, pb v hv0 hv1]
        have e1 : (a == b) = false := by simp; omega
        have e2 : (v == a) = (a == v) := by rw [Bool.eq_iff_iff]; simp; omega
        have e3 : (b == b) = true := by simp
        rw [e1, e2, e3]
        cases bit (rd m b) v <;> cases (a == v) <;> simp
      · rw [if_neg h]
        have e0 : (b == u) = false := by simpa using h
        by_cases h' : a = u
        · subst h'
          rw [if_pos rfl, pa v hv0 hv1]
          have e2 : (v == b) = (b == v) := by rw [Bool.eq_iff_iff]; simp; omega
          have e3 : (a == a) = true := by simp
          rw [e0, e2, e3]
          cases bit (rd m a) v <;> cases (b == v) <;> simp
        · rw [if_neg h']
          have e1 : (a == u) = false := by simpa using h'
          rw [e0, e1]
          simp
    · simp only [impl_netOf.l0, Option.bind_some]
      rw [← ha, ← hb]
      rw [if_pos (by omega), if_pos hi, if_pos (by omega), if_pos g0, if_pos (by omega), if_pos (by omega), if_pos (by omega), hw]
      show impl_netOf.l0 k l l.length (i + 1) ((m.set a.toNat (put (rd m a) b)).set b.toNat (put (rd (m.set a.toNat (put (rd m a) b)) b) a)) = _
      rw [← hm1, ← hm2]
theorem net_ev (s : Int) (l : List S65) (hl : l.length ≤ 1048576) (hg : Good s l) : ∃ r, Masks s r ∧ (∀ u v : Int, 0 ≤ u → u < s → 0 ≤ v → v < 8 → bit (rd r u) v = near l u v) ∧ Ev (fun k => impl_netOf.f k s l) r := by
  have hg' := hg
  obtain ⟨h0, h8, _⟩ := hg'
  have hz : Masks s (List.replicate s.toNat 0) := by
    refine ⟨by simp; omega, fun u hu0 hu1 => ?_⟩
    have : rd (List.replicate s.toNat 0) u = 0 := by
      unfold rd
      rw [List.getD_eq_getElem?_getD, List.getElem?_replicate, if_pos (by omega)]
      rfl
    rw [this]
    omega
  obtain ⟨r, hr, hb, K, hK⟩ := net_loop s l hl hg l.length 0 _ (by omega) (by omega) hz
  dsimp only at hK
  refine ⟨r, hr, fun u v hu0 hu1 hv0 hv1 => ?_, K, fun k hk => ?_⟩
  · rw [hb u v hu0 hu1 hv0 hv1]
    have : rd (List.replicate s.toNat 0) u = 0 := by
      unfold rd
      rw [List.getD_eq_getElem?_getD, List.getElem?_replicate, if_pos (by omega)]
      rfl
    rw [this, bit_zero v hv0 hv1, Bool.false_or]
    rfl
  · dsimp only
    unfold impl_netOf.f
    rw [if_pos h0, if_pos (by omega)]
    exact hK k hk
theorem near_out_loop (s : Int) (l : List S65) (hg : Good s l) (u v : Int) (hv : s ≤ v) : ∀ (d : Nat) (i : Int), 0 ≤ i → (l.length : Int) - i = d → nearF l u v d i = false := by
  intro d
  induction d with
  | zero => intro i _ _; rfl
  | succ d ih =>
    intro i hi hd
    obtain ⟨g0, g1, g2⟩ := hg.2.2 i hi (by omega)
    unfold nearF
    rw [ih (i + 1) (by omega) (by omega)]
    have e1 : ((rd_T65 l i).f1 == v) = false := by simp; omega
    have e2 : ((rd_T65 l i).f0 == v) = false := by simp; omega
    rw [e1, e2]
    simp
theorem near_out (s : Int) (l : List S65) (hg : Good s l) (u v : Int) (hv : s ≤ v) : near l u v = false := near_out_loop s l hg u v hv l.length 0 (by omega) (by omega)
theorem has_eq (s : Int) (m : List Int) (u v : Int) (hm : Masks s m) (hu0 : 0 ≤ u) (hu1 : u < s) (hv0 : 0 ≤ v) : impl_net_has.f m u v = some (bit (rd m u) v) := by
  unfold impl_net_has.f
  rw [if_pos hu0, if_pos (by rw [hm.1]; exact hu1), if_pos hv0]
  rfl
end Go.Proofs.Yteepmbpmhaaonaa.Gr
namespace Go.Proofs.Yteepmbpmhaaonaa.Gr
open Go.RowKit Go.Proofs.Yteepmbpmhaaonaa.P Go.Proofs.YteepmbpmhaaonaaW.PrintWords Go.Proofs.YteepmbpmhaaonaaW.PrintLast
def rowF (h : Int → Int → Bool) (x : Int) : Nat → Int → List S65
  | 0, _ => []
  | d + 1, y => (if h x y = true then [⟨x, y⟩] else []) ++ rowF h x d (y + 1)
def allF (h : Int → Int → Bool) : Nat → Int → List S65
  | 0, _ => []
  | d + 1, x => rowF h x d (x + 1) ++ allF h d (x + 1)
/-- The pairs x < y below n for which h says yes, in order. -/
def pairs (h : Int → Int → Bool) (n : Int) : List S65 := allF h n.toNat 0
theorem rowF_len (h : Int → Int → Bool) (x : Int) : ∀ d y, (rowF h x d y).length ≤ d
  | 0, _ => Nat.le_refl _
  | d + 1, y => by
    have := rowF_len h x d (y + 1)
    unfold rowF
    rw [List.length_append]
    split <;> simp <;> omega
theorem allF_len (h : Int → Int → Bool) (N : Nat) : ∀ d x, d ≤ N → (allF h d x).length ≤ d * N
  | 0, _, _ => by simp [allF]
  | d + 1, x, hd => by
    have h1 := rowF_len h x d (x + 1)
    have h2 := allF_len h N d (x + 1) (by omega)
    unfold allF
    rw [List.length_append, Nat.succ_mul]
    omega
theorem pairs_len (h : Int → Int → Bool) (n : Int) (hn : n ≤ 1000) : (pairs h n).length ≤ 1000000 := by
  have h1 := allF_len h 1000 n.toNat 0 (by omega)
  unfold pairs
  omega
theorem rowF_congr (h h' : Int → Int → Bool) (x : Int) : ∀ (d : Nat) (y : Int), (∀ z : Int, y ≤ z → z < y + (d : Int) → h x z = h' x z) → rowF h x d y = rowF h' x d y
  | 0, _, _ => rfl
  | d + 1, y, e => by
    unfold rowF
    rw [e y (by omega) (by omega), rowF_congr h h' x d (y + 1) (fun z h1 h2 => e z (by omega) (by omega))]
theorem allF_congr (h h' : Int → Int → Bool) : ∀ (d : Nat) (x : Int), (∀ a b : Int, x ≤ a → a < b → b < x + (d : Int) → h a b = h' a b) → allF h d x = allF h' d x
  | 0, _, _ => rfl
  | d + 1, x, e => by
    unfold allF
    rw [rowF_congr h h' x d (x + 1) (fun z h1 h2 => e x z (by omega) (by omega) (by omega)), allF_congr h h' d (x + 1) (fun a b h1 h2 h3 => e a b (by omega) h2 (by omega))]
theorem pairs_congr (h h' : Int → Int → Bool) (n : Int) (e : ∀ a b : Int, 0 ≤ a → a < b → b < n → h a b = h' a b) : pairs h n = pairs h' n :=
  allF_congr h h' n.toNat 0 (fun a b h1 h2 h3 => e a b h1 h2 (by omega))
set_option maxRecDepth 10000 in
theorem by_row (h : Int → Int → Bool) (n x : Int) (rest : List S65) (hn : n ≤ 1000) (hx0 : 0 ≤ x) (hnx : ∀ es : List S65, (es.length : Int) ≤ (x + 1) * 1000 → Ev (fun k => impl_graphBy.l0 k h n (x + 1) es) (es ++ rest)) :
    ∀ (d : Nat) (y : Int) (es : List S65), x < y → n - y = d → (es.length : Int) ≤ x * 1000 + y → Ev (fun k => impl_graphBy.l1 k h n x y es) (es ++ (rowF h x d y ++ rest)) := by
  intro d
  induction d with
  | zero =>
    intro y es hxy hd hes
    have hw : wrap64 (x + 1) = x + 1 := by unfold wrap64; omega
    refine Ev.step (fun k => ?_) (hnx es (by omega))
    simp only [impl_graphBy.l1]
    rw [if_neg (by omega), hw]
  | succ d ih =>
    intro y es hxy hd hes
    have hw : wrap64 (y + 1) = y + 1 := by unfold wrap64; omega
    by_cases hc : h x y = true
    · have hr := ih (y + 1) (es ++ [⟨x, y⟩]) (by omega) (by omega) (by rw [List.length_append, List.length_singleton]; omega)
      have e : es ++ (rowF h x (d + 1) y ++ rest) = es ++ [⟨x, y⟩] ++ (rowF h x d (y + 1) ++ rest) := by
        conv => lhs; unfold rowF
        rw [if_pos hc]
        simp
      rw [e]
      refine Ev.step (fun k => ?_) hr
      simp only [impl_graphBy.l1]
      rw [if_pos (by omega), if_pos hc, if_pos (by omega), hw]
    · have hr := ih (y + 1) es (by omega) (by omega) (by omega)
      have e : es ++ (rowF h x (d + 1) y ++ rest) = es ++ (rowF h x d (y + 1) ++ rest) := by
        conv => lhs; unfold rowF
        rw [if_neg hc]
        simp
      rw [e]
      refine Ev.step (fun k => ?_) hr
      simp only [impl_graphBy.l1]
      rw [if_pos (by omega), if_neg hc, hw]
set_option maxRecDepth 10000 in
theorem by_all (h : Int → Int → Bool) (n : Int) (hn : n ≤ 1000) : ∀ (d : Nat) (x : Int) (es : List S65), 0 ≤ x → n - x = d → (es.length : Int) ≤ x * 1000 → Ev (fun k => impl_graphBy.l0 k h n x es) (es ++ allF h d x) := by
  intro d
  induction d with
  | zero =>
    intro x es hx hd hes
    rw [show allF h 0 x = [] from rfl, List.append_nil]
    refine Ev.step (f := fun _ => some es) (fun k => ?_) (Ev.now es)
    simp only [impl_graphBy.l0]
    rw [if_neg (by omega)]
  | succ d ih =>
    intro x es hx hd hes
    have hw : wrap64 (x + 1) = x + 1 := by unfold wrap64; omega
    have hr := by_row h n x (allF h d (x + 1)) hn hx (fun es' he => ih (x + 1) es' (by omega) (by omega) he) d (x + 1) es (by omega) (by omega) (by omega)
    rw [show allF h (d + 1) x = rowF h x d (x + 1) ++ allF h d (x + 1) from rfl]
    refine Ev.step (fun k => ?_) hr
    simp only [impl_graphBy.l0]
    rw [if_pos (by omega), hw]
theorem by_ev (h : Int → Int → Bool) (n : Int) (h0 : 0 ≤ n) (hn : n ≤ 1000) : Ev (fun k => impl_graphBy.f k h n) (pairs h n) := by
  obtain ⟨K, hK⟩ := by_all h n hn n.toNat 0 [] (by omega) (by omega) (by simp)
  dsimp only at hK
  exact ⟨K, fun k hk => by dsimp only; unfold impl_graphBy.f; rw [hK k hk]; rfl⟩
theorem okBy_all (c : Int → Int → Option Bool) (n : Int) (h : ∀ x y, 0 ≤ x → x < y → y < n → (c x y).isSome = true) : okBy c n = true := by
  unfold okBy
  rw [List.all_eq_true]
  intro y hy
  rw [List.all_eq_true]
  intro x hx
  have hy := List.mem_range.1 hy
  have hx := List.mem_range.1 hx
  exact h x y (by omega) (by omega) (by omega)
/-- With rounds enough, g answers something of which Q holds. -/
def Cm {α : Type} (g : Nat → Option α) (Q : α → Prop) : Prop := ∃ r, Ev g r ∧ Q r
theorem Cm.of {α : Type} {g : Nat → Option α} {Q : α → Prop} {r : α} (h : Ev g r) (q : Q r) : Cm g Q := ⟨r, h, q⟩
theorem Cm.now {α : Type} {Q : α → Prop} {r : α} (q : Q r) : Cm (fun _ => some r) Q := ⟨r, Ev.now r, q⟩
theorem Cm.mono {α : Type} {g : Nat → Option α} {Q Q' : α → Prop} (h : Cm g Q) (k : ∀ r, Q r → Q' r) : Cm g Q' := by
  obtain ⟨r, h1, h2⟩ := h
  exact ⟨r, h1, k r h2⟩
theorem Cm.ev {α : Type} {g : Nat → Option α} {r : α} (h : Cm g (fun x => x = r)) : Ev g r := by
  obtain ⟨r', h1, rfl⟩ := h
  exact h1
theorem Ev.cm {α : Type} {g : Nat → Option α} {r : α} (h : Ev g r) : Cm g (fun x => x = r) := ⟨r, h, rfl⟩
theorem Cm.step {α : Type} {g f : Nat → Option α} {Q : α → Prop} (h : ∀ k, g (k + 1) = f k) (k : Cm f Q) : Cm g Q := by
  obtain ⟨r, h1, h2⟩ := k
  exact ⟨r, Ev.step h h1, h2⟩
theorem Cm.congr {α : Type} {g f : Nat → Option α} {Q : α → Prop} (h : ∀ k, g k = f k) (k : Cm f Q) : Cm g Q := by
  obtain ⟨r, h1, h2⟩ := k
  exact ⟨r, Ev.congr h h1, h2⟩
theorem Cm.pos {α : Type} {c : Prop} [Decidable c] {f g : Nat → Option α} {Q : α → Prop} (h : c) (k : Cm f Q) : Cm (fun n => if c then f n else g n) Q :=
  Cm.congr (fun _ => if_pos h) k
theorem Cm.neg {α : Type} {c : Prop} [Decidable c] {f g : Nat → Option α} {Q : α → Prop} (h : ¬ c) (k : Cm g Q) : Cm (fun n => if c then f n else g n) Q :=
  Cm.congr (fun _ => if_neg h) k
theorem Cm.ite {α : Type} {c : Prop} [Decidable c] {f g : Nat → Option α} {Q : α → Prop} (h : c → Cm f Q) (k : ¬ c → Cm g Q) : Cm (fun n => if c then f n else g n) Q := by
  by_cases hc : c
  · exact Cm.pos hc (h hc)
  · exact Cm.neg hc (k hc)
theorem Cm.bind {α β : Type} {f : Nat → Option α} {h : Nat → α → Option β} {P : α → Prop} {Q : β → Prop} (a : Cm f P) (k : ∀ x, P x → Cm (fun n => h n x) Q) : Cm (fun n => (f n).bind (h n)) Q := by
  obtain ⟨x, h1, h2⟩ := a
  obtain ⟨r, h3, h4⟩ := k x h2
  exact ⟨r, Ev.bind h1 h3, h4⟩
theorem Cm.bindE {α β : Type} {f : Nat → Option α} {h : Nat → α → Option β} {x : α} {Q : β → Prop} (a : Ev f x) (k : Cm (fun n => h n x) Q) : Cm (fun n => (f n).bind (h n)) Q := by
  obtain ⟨r, h3, h4⟩ := k
  exact ⟨r, Ev.bind a h3, h4⟩
/-- A loop: each state comes to Q if all states that are smaller do. -/
theorem Cm.meas {σ β : Type} (g : Nat → σ → Option β) (m : σ → Nat) (I : σ → Prop) (Q : σ → β → Prop)
    (hs : ∀ a, I a → (∀ b, I b → m b < m a → Cm (fun k => g k b) (Q b)) → Cm (fun k => g k a) (Q a)) : ∀ a, I a → Cm (fun k => g k a) (Q a) := by
  suffices h : ∀ n a, m a = n → I a → Cm (fun k => g k a) (Q a) from fun a ha => h _ a rfl ha
  intro n
  induction n using Nat.strongRecOn with
  | _ n ih =>
    intro a hn ha
    exact hs a ha (fun b hb hm => ih (m b) (by omega) b rfl hb)
/-- A loop that counts up to n. -/
theorem Cm.up {α β : Type} (g : Nat → Int → α → Option β) (n : Int) (I : Int → α → Prop) (Q : β → Prop)
    (hs : ∀ i a, i ≤ n → I i a → (∀ b, i < n → I (i + 1) b → Cm (fun k => g k (i + 1) b) Q) → Cm (fun k => g k i a) Q) (i : Int) (a : α) (hi : i ≤ n) (hI : I i a) : Cm (fun k => g k i a) Q := by
  obtain ⟨d, hd⟩ : ∃ d : Nat, n - i = d := ⟨(n - i).toNat, by omega⟩
  induction d generalizing i a with
  | zero => exact hs i a hi hI (fun b h _ => by omega)
  | succ d ih => exact hs i a hi hI (fun b h hb => ih (i + 1) b (by omega) hb (by omega))
theorem w64 (x : Int) (h1 : -9223372036854775808 ≤ x) (h2 : x ≤ 9223372036854775807) : wrap64 x = x := by
  unfold wrap64
  omega
/-- The numbers below n, in order. -/
def V (n : Int) : List Int := (List.range n.toNat).map Int.ofNat
theorem V_zero : V 0 = [] := rfl
theorem V_neg {n : Int} (h : n ≤ 0) : V n = [] := by unfold V; rw [show n.toNat = 0 by omega]; rfl
theorem V_succ {n : Int} (h : 0 ≤ n) : V (n + 1) = V n ++ [n] := by
  unfold V
  rw [show (n + 1).toNat = n.toNat + 1 by omega, List.range_succ, List.map_append]
  congr 1
  simp [Int.toNat_of_nonneg h]
theorem V_len (n : Int) : (V n).length = n.toNat := by unfold V; simp
theorem mem_V {n x : Int} : x ∈ V n ↔ 0 ≤ x ∧ x < n := by
  unfold V
  rw [List.mem_map]
  constructor
  · rintro ⟨a, h, rfl⟩
    have := List.mem_range.1 h
    have e : Int.ofNat a = (a : Int) := rfl
    omega
  · rintro ⟨h0, h1⟩
    exact ⟨x.toNat, List.mem_range.2 (by omega), Int.toNat_of_nonneg h0⟩
/-- Rising. -/
abbrev Up (l : List Int) : Prop := l.Pairwise (· < ·)
theorem V_up (n : Int) : Up (V n) := by
  unfold V Up
  rw [List.pairwise_map]
  exact List.Pairwise.imp (fun h => Int.ofNat_lt.2 h) List.pairwise_lt_range
theorem filter_up {l : List Int} (h : Up l) (p : Int → Bool) : Up (l.filter p) := List.Pairwise.filter p h
theorem up_ext : ∀ {a b : List Int}, Up a → Up b → (∀ x, x ∈ a ↔ x ∈ b) → a = b
  | [], [], _, _, _ => rfl
  | [], y :: b, _, _, h => by have := (h y).2 List.mem_cons_self; cases this
  | x :: a, [], _, _, h => by have := (h x).1 List.mem_cons_self; cases this
  | x :: a, y :: b, ha, hb, h => by
    have ha' := List.pairwise_cons.1 ha
    have hb' := List.pairwise_cons.1 hb
    have e : x = y := by
      rcases List.mem_cons.1 ((h x).1 List.mem_cons_self) with e | e
      · exact e
      · rcases List.mem_cons.1 ((h y).2 List.mem_cons_self) with e' | e'
        · exact e'.symm
        · have := hb'.1 x e
          have := ha'.1 y e'
          omega
    subst e
    congr 1
    refine up_ext ha'.2 hb'.2 (fun z => ⟨fun hz => ?_, fun hz => ?_⟩)
    · rcases List.mem_cons.1 ((h z).1 (List.mem_cons_of_mem _ hz)) with e | e
      · subst e; have := ha'.1 z hz; omega
      · exact e
    · rcases List.mem_cons.1 ((h z).2 (List.mem_cons_of_mem _ hz)) with e | e
      · subst e; have := hb'.1 z hz; omega
      · exact e
theorem mem_VF {n x : Int} {p : Int → Bool} : x ∈ (V n).filter p ↔ (0 ≤ x ∧ x < n) ∧ p x = true := by rw [List.mem_filter, mem_V]
theorem VF_congr {n : Int} {p q : Int → Bool} (h : ∀ x, 0 ≤ x → x < n → p x = q x) : (V n).filter p = (V n).filter q :=
  List.filter_congr (fun x hx => h x (mem_V.1 hx).1 (mem_V.1 hx).2)
theorem VF_succ {n : Int} {p : Int → Bool} (h : 0 ≤ n) : (V (n + 1)).filter p = (V n).filter p ++ (if p n = true then [n] else []) := by
  rw [V_succ h, List.filter_append, List.filter_cons]
  rfl
theorem VF_cut {m n : Int} {p : Int → Bool} (hmn : m ≤ n) (hp : ∀ x, m ≤ x → p x = false) : (V n).filter p = (V m).filter p :=
  up_ext (filter_up (V_up _) _) (filter_up (V_up _) _) (fun x => by
    rw [mem_VF, mem_VF]
    constructor
    · rintro ⟨⟨h0, h1⟩, h2⟩
      by_cases h : x < m
      · exact ⟨⟨h0, h⟩, h2⟩
      · rw [hp x (by omega)] at h2; cases h2
    · rintro ⟨⟨h0, h1⟩, h2⟩
      exact ⟨⟨h0, by omega⟩, h2⟩)
theorem VF_len {n : Int} {p : Int → Bool} : ((V n).filter p).length ≤ n.toNat := by
  have := List.length_filter_le p (V n)
  rw [V_len] at this
  exact this
/-- A rising list of numbers below n is a filter of them. -/
theorem up_filter {n : Int} {l : List Int} (h : Up l) (hm : ∀ x ∈ l, 0 ≤ x ∧ x < n) : l = (V n).filter (fun x => decide (x ∈ l)) :=
  up_ext h (filter_up (V_up _) _) (fun x => by
    rw [mem_VF, decide_eq_true_eq]
    exact ⟨fun hx => ⟨hm x hx, hx⟩, fun hx => hx.2⟩)
theorem up_nodup {l : List Int} (h : Up l) : l.Nodup := List.Pairwise.imp (fun h => by omega) h
theorem V_nodup (n : Int) : (V n).Nodup := up_nodup (V_up n)
theorem take_rd (l : List Int) (i : Int) (h0 : 0 ≤ i) (h1 : i < l.length) : l.take (i + 1).toNat = l.take i.toNat ++ [rd l i] := by
  rw [show (i + 1).toNat = i.toNat + 1 by omega, List.take_succ_eq_append_getElem (by omega)]
  congr 2
  unfold rd
  rw [List.getD_eq_getElem?_getD, List.getElem?_eq_getElem (by omega)]
  rfl
theorem take_all (l : List Int) (i : Int) (h : (l.length : Int) ≤ i) : l.take i.toNat = l := List.take_of_length_le (by omega)
theorem rd_mem (l : List Int) (i : Int) (h0 : 0 ≤ i) (h1 : i < l.length) : rd l i ∈ l := by
  unfold rd
  rw [List.getD_eq_getElem?_getD, List.getElem?_eq_getElem (by omega)]
  exact List.getElem_mem _
theorem mem_rd {l : List Int} {x : Int} (h : x ∈ l) : ∃ i : Int, 0 ≤ i ∧ i < l.length ∧ rd l i = x := by
  obtain ⟨j, hj, rfl⟩ := List.mem_iff_getElem.1 h
  refine ⟨j, by omega, by omega, ?_⟩
  unfold rd
  rw [List.getD_eq_getElem?_getD, Int.toNat_natCast, List.getElem?_eq_getElem hj]
  rfl
theorem rd_eq (l : List Int) (i : Nat) (h : i < l.length) : rd l i = l[i] := by
  unfold rd
  rw [List.getD_eq_getElem?_getD, Int.toNat_natCast, List.getElem?_eq_getElem h]
  rfl
theorem rd_ext {a b : List Int} (h : a.length = b.length) (e : ∀ i : Int, 0 ≤ i → i < a.length → rd a i = rd b i) : a = b := by
  apply List.ext_getElem h
  intro i h1 h2
  rw [← rd_eq a i h1, ← rd_eq b i h2]
  exact e i (by omega) (by omega)
theorem up_rd {l : List Int} (h : Up l) (i j : Int) (h0 : 0 ≤ i) (h1 : i < j) (h2 : j < l.length) : rd l i < rd l j := by
  have := List.pairwise_iff_getElem.1 h i.toNat j.toNat (by omega) (by omega) (by omega)
  rw [← rd_eq l _ (by omega), ← rd_eq l _ (by omega), Int.toNat_of_nonneg h0, Int.toNat_of_nonneg (by omega)] at this
  exact this
theorem up_of_rd {l : List Int} (h : ∀ i : Int, 0 < i → i < l.length → rd l (i - 1) < rd l i) : Up l := by
  have key : ∀ (d : Nat) (i : Int), 0 ≤ i → i + (d : Int) + 1 < l.length → rd l i < rd l (i + d + 1) := by
    intro d
    induction d with
    | zero =>
      intro i h0 h1
      have := h (i + 1) (by omega) (by omega)
      rw [show i + 1 - 1 = i by omega] at this
      simpa using this
    | succ d ih =>
      intro i h0 h1
      have a := ih i h0 (by omega)
      have b := h (i + (d : Int) + 1 + 1) (by omega) (by omega)
      rw [show i + (d : Int) + 1 + 1 - 1 = i + d + 1 by omega] at b
      rw [show i + ((d + 1 : Nat) : Int) + 1 = i + (d : Int) + 1 + 1 by omega]
      omega
  refine List.pairwise_iff_getElem.2 (fun i j hi hj hij => ?_)
  have := key (j - i - 1) i (by omega) (by omega)
  rw [show (i : Int) + ((j - i - 1 : Nat) : Int) + 1 = (j : Int) by omega] at this
  rw [← rd_eq l i hi, ← rd_eq l j hj]
  exact this
/-- A list as long as a list of different numbers that are all in it has no others. -/
theorem sub_all : ∀ {a b : List Int}, a.Nodup → (∀ x ∈ a, x ∈ b) → b.length ≤ a.length → ∀ x ∈ b, x ∈ a
  | [], b, _, _, hl, x, hx => by
    have : b = [] := List.length_eq_zero_iff.1 (by simpa using hl)
    subst this
    exact hx
  | y :: a, b, hn, hs, hl, x, hx => by
    have hn' := List.nodup_cons.1 hn
    have hy := hs y List.mem_cons_self
    by_cases e : x = y
    · subst e; exact List.mem_cons_self
    · have h1 : ∀ z ∈ a, z ∈ b.erase y := fun z hz => (List.mem_erase_of_ne (show z ≠ y from fun e' => hn'.1 (by rw [← e']; exact hz))).2 (hs z (List.mem_cons_of_mem _ hz))
      have h2 : (b.erase y).length ≤ a.length := by
        rw [List.length_erase_of_mem hy]
        rw [List.length_cons] at hl
        omega
      exact List.mem_cons_of_mem _ (sub_all hn'.2 h1 h2 x ((List.mem_erase_of_ne e).2 hx))
theorem nodup_le : ∀ {a b : List Int}, a.Nodup → (∀ x ∈ a, x ∈ b) → a.length ≤ b.length
  | [], _, _, _ => by simp
  | y :: a, b, hn, hs => by
    have hn' := List.nodup_cons.1 hn
    have hy := hs y List.mem_cons_self
    have h1 : ∀ z ∈ a, z ∈ b.erase y := fun z hz => (List.mem_erase_of_ne (show z ≠ y from fun e' => hn'.1 (by rw [← e']; exact hz))).2 (hs z (List.mem_cons_of_mem _ hz))
    have h2 := nodup_le hn'.2 h1
    rw [List.length_erase_of_mem hy] at h2
    have h3 : 0 < b.length := List.length_pos_of_mem hy
    rw [List.length_cons]
    omega
end Go.Proofs.Yteepmbpmhaaonaa.Gr
namespace Go.Proofs.Yteepmbpmhaaonaa.Gr
open Go.RowKit Go.Proofs.Yteepmbpmhaaonaa.P Go.Proofs.YteepmbpmhaaonaaW.PrintWords Go.Proofs.YteepmbpmhaaonaaW.PrintLast Go.Proofs.YteepmbpmhaaonaaW.PrintMore
theorem rdT_eq (l : List S65) (i : Nat) (h : i < l.length) : rd_T65 l i = l[i] := by
  unfold rd_T65
  rw [List.getD_eq_getElem?_getD, Int.toNat_natCast, List.getElem?_eq_getElem h]
  rfl
theorem rdT_mem (l : List S65) (i : Int) (h0 : 0 ≤ i) (h1 : i < l.length) : rd_T65 l i ∈ l := by
  have := rdT_eq l i.toNat (by omega)
  rw [Int.toNat_of_nonneg h0] at this
  rw [this]
  exact List.getElem_mem _
theorem mem_rdT {l : List S65} {x : S65} (h : x ∈ l) : ∃ i : Int, 0 ≤ i ∧ i < l.length ∧ rd_T65 l i = x := by
  obtain ⟨j, hj, rfl⟩ := List.mem_iff_getElem.1 h
  exact ⟨j, by omega, by omega, rdT_eq l j hj⟩
theorem takeT (l : List S65) (i : Int) (h0 : 0 ≤ i) (h1 : i < l.length) : l.take (i + 1).toNat = l.take i.toNat ++ [rd_T65 l i] := by
  rw [show (i + 1).toNat = i.toNat + 1 by omega, List.take_succ_eq_append_getElem (by omega)]
  have := rdT_eq l i.toNat (by omega)
  rw [Int.toNat_of_nonneg h0] at this
  rw [this]
theorem takeT_all (l : List S65) (i : Int) (h : (l.length : Int) ≤ i) : l.take i.toNat = l := List.take_of_length_le (by omega)
def ltP (a b : S65) : Prop := a.f0 < b.f0 ∨ (a.f0 = b.f0 ∧ a.f1 < b.f1)
abbrev Up2 (l : List S65) : Prop := l.Pairwise ltP
theorem ltP_irr {a : S65} (h : ltP a a) : False := by unfold ltP at h; omega
theorem ltP_trans {a b c : S65} (h : ltP a b) (k : ltP b c) : ltP a c := by unfold ltP at *; omega
theorem ltP_asymm {a b : S65} (h : ltP a b) (k : ltP b a) : False := ltP_irr (ltP_trans h k)
theorem ltP_tri (a b : S65) (h : ¬ ltP a b) (k : ¬ ltP b a) : a = b := by
  cases a; cases b
  unfold ltP at *
  dsimp only at *
  congr 1 <;> omega
theorem up2_ext : ∀ {a b : List S65}, Up2 a → Up2 b → (∀ x, x ∈ a ↔ x ∈ b) → a = b
  | [], [], _, _, _ => rfl
  | [], y :: b, _, _, h => by have := (h y).2 List.mem_cons_self; cases this
  | x :: a, [], _, _, h => by have := (h x).1 List.mem_cons_self; cases this
  | x :: a, y :: b, ha, hb, h => by
    have ha' := List.pairwise_cons.1 ha
    have hb' := List.pairwise_cons.1 hb
    have e : x = y := by
      rcases List.mem_cons.1 ((h x).1 List.mem_cons_self) with e | e
      · exact e
      · rcases List.mem_cons.1 ((h y).2 List.mem_cons_self) with e' | e'
        · exact e'.symm
        · exact (ltP_asymm (hb'.1 x e) (ha'.1 y e')).elim
    subst e
    congr 1
    refine up2_ext ha'.2 hb'.2 (fun z => ⟨fun hz => ?_, fun hz => ?_⟩)
    · rcases List.mem_cons.1 ((h z).1 (List.mem_cons_of_mem _ hz)) with e | e
      · subst e; exact (ltP_irr (ha'.1 z hz)).elim
      · exact e
    · rcases List.mem_cons.1 ((h z).2 (List.mem_cons_of_mem _ hz)) with e | e
      · subst e; exact (ltP_irr (hb'.1 z hz)).elim
      · exact e
theorem sorted_up2 {l : List S65} (h : Sorted l) : Up2 l := by
  have key : ∀ (d : Nat) (i : Int), 0 ≤ i → i + (d : Int) + 1 < l.length → ltP (rd_T65 l i) (rd_T65 l (i + d + 1)) := by
    intro d
    induction d with
    | zero =>
      intro i h0 h1
      have := h (i + 1) (by omega) (by omega)
      rw [show i + 1 - 1 = i by omega] at this
      rw [show i + ((0 : Nat) : Int) + 1 = i + 1 by omega]
      exact this
    | succ d ih =>
      intro i h0 h1
      have a := ih i h0 (by omega)
      have b := h (i + (d : Int) + 1 + 1) (by omega) (by omega)
      rw [show i + (d : Int) + 1 + 1 - 1 = i + d + 1 by omega] at b
      rw [show i + ((d + 1 : Nat) : Int) + 1 = i + (d : Int) + 1 + 1 by omega]
      exact ltP_trans a b
  refine List.pairwise_iff_getElem.2 (fun i j hi hj hij => ?_)
  have := key (j - i - 1) i (by omega) (by omega)
  rw [show (i : Int) + ((j - i - 1 : Nat) : Int) + 1 = (j : Int) by omega] at this
  rw [← rdT_eq l i hi, ← rdT_eq l j hj]
  exact this
theorem good_mem {s : Int} {l : List S65} (h : Good s l) {e : S65} (he : e ∈ l) : 0 ≤ e.f0 ∧ e.f0 < e.f1 ∧ e.f1 < s := by
  obtain ⟨i, h0, h1, rfl⟩ := mem_rdT he
  exact h.2.2 i h0 h1
theorem nearF_iff (l : List S65) (u v : Int) : ∀ (d : Nat) (i : Int), 0 ≤ i → (l.length : Int) - i = d → (nearF l u v d i = true ↔ ∃ j : Int, i ≤ j ∧ j < l.length ∧ (rd_T65 l j = ⟨u, v⟩ ∨ rd_T65 l j = ⟨v, u⟩)) := by
  intro d
  induction d with
  | zero =>
    intro i h0 hd
    constructor
    · intro h; cases h
    · rintro ⟨j, h1, h2, _⟩; omega
  | succ d ih =>
    intro i h0 hd
    unfold nearF
    rw [Bool.or_eq_true, Bool.or_eq_true, ih (i + 1) (by omega) (by omega), Bool.and_eq_true, Bool.and_eq_true, beq_iff_eq, beq_iff_eq, beq_iff_eq, beq_iff_eq]
    have ex : ∀ a b : Int, (rd_T65 l i).f0 = a ∧ (rd_T65 l i).f1 = b ↔ rd_T65 l i = ⟨a, b⟩ := fun a b => ⟨fun ⟨h1, h2⟩ => by rw [← h1, ← h2], fun h => by rw [h]; exact ⟨rfl, rfl⟩⟩
    rw [ex, ex]
    constructor
    · rintro ((h | h) | ⟨j, h1, h2, h3⟩)
      · exact ⟨i, by omega, by omega, .inl h⟩
      · exact ⟨i, by omega, by omega, .inr h⟩
      · exact ⟨j, by omega, h2, h3⟩
    · rintro ⟨j, h1, h2, h3⟩
      by_cases e : j = i
      · subst e
        exact .inl h3
      · exact .inr ⟨j, by omega, h2, h3⟩
theorem near_iff (l : List S65) (u v : Int) : near l u v = true ↔ (⟨u, v⟩ : S65) ∈ l ∨ (⟨v, u⟩ : S65) ∈ l := by
  unfold near
  rw [nearF_iff l u v l.length 0 (by omega) (by omega)]
  constructor
  · rintro ⟨j, h1, h2, h3 | h3⟩
    · exact .inl (h3 ▸ rdT_mem l j h1 h2)
    · exact .inr (h3 ▸ rdT_mem l j h1 h2)
  · rintro (h | h)
    · obtain ⟨j, h0, h1, h2⟩ := mem_rdT h
      exact ⟨j, h0, h1, .inl h2⟩
    · obtain ⟨j, h0, h1, h2⟩ := mem_rdT h
      exact ⟨j, h0, h1, .inr h2⟩
theorem near_symm (l : List S65) (u v : Int) : near l u v = near l v u := by
  rw [Bool.eq_iff_iff, near_iff, near_iff]
  exact Or.comm
theorem near_in {s : Int} {l : List S65} (h : Good s l) {u v : Int} (hn : near l u v = true) : (0 ≤ u ∧ u < s) ∧ (0 ≤ v ∧ v < s) ∧ u ≠ v := by
  rcases (near_iff l u v).1 hn with e | e
  · have := good_mem h e
    dsimp only at this
    omega
  · have := good_mem h e
    dsimp only at this
    omega
theorem near_lt {s : Int} {l : List S65} (h : Good s l) {u v : Int} (huv : u < v) : near l u v = true ↔ (⟨u, v⟩ : S65) ∈ l := by
  rw [near_iff]
  refine ⟨fun k => k.elim id (fun e => ?_), .inl⟩
  have := good_mem h e
  dsimp only at this
  omega
theorem mem_rowF (h : Int → Int → Bool) (x : Int) (e : S65) : ∀ (d : Nat) (y : Int), e ∈ rowF h x d y ↔ e.f0 = x ∧ y ≤ e.f1 ∧ e.f1 < y + d ∧ h x e.f1 = true
  | 0, y => by
    constructor
    · intro h; cases h
    · rintro ⟨_, h1, h2, _⟩; omega
  | d + 1, y => by
    unfold rowF
    rw [List.mem_append, mem_rowF h x e d (y + 1)]
    constructor
    · rintro (hm | ⟨h0, h1, h2, h3⟩)
      · by_cases hc : h x y = true
        · rw [if_pos hc, List.mem_singleton] at hm
          subst hm
          exact ⟨rfl, by show y ≤ y; omega, by show y < y + _; omega, hc⟩
        · rw [if_neg hc] at hm; cases hm
      · exact ⟨h0, by omega, by omega, h3⟩
    · rintro ⟨h0, h1, h2, h3⟩
      by_cases hy : e.f1 = y
      · left
        rw [← hy, if_pos h3, List.mem_singleton, ← h0]
      · exact .inr ⟨h0, by omega, by omega, h3⟩
theorem rowF_up (h : Int → Int → Bool) (x : Int) : ∀ (d : Nat) (y : Int), Up2 (rowF h x d y)
  | 0, y => List.Pairwise.nil
  | d + 1, y => by
    unfold rowF
    refine List.pairwise_append.2 ⟨?_, rowF_up h x d (y + 1), fun a ha b hb => ?_⟩
    · split
      · exact List.pairwise_singleton _ _
      · exact List.Pairwise.nil
    · have hb' := (mem_rowF h x b d (y + 1)).1 hb
      by_cases hc : h x y = true
      · rw [if_pos hc, List.mem_singleton] at ha
        subst ha
        exact .inr ⟨hb'.1.symm, by show y < _; omega⟩
      · rw [if_neg hc] at ha; cases ha
theorem mem_allF (h : Int → Int → Bool) (e : S65) : ∀ (d : Nat) (x : Int), e ∈ allF h d x ↔ x ≤ e.f0 ∧ e.f0 < e.f1 ∧ e.f1 < x + d ∧ h e.f0 e.f1 = true
  | 0, x => by
    constructor
    · intro h; cases h
    · rintro ⟨h1, h2, h3, _⟩; omega
  | d + 1, x => by
    unfold allF
    rw [List.mem_append, mem_rowF, mem_allF h e d (x + 1)]
    constructor
    · rintro (⟨h0, h1, h2, h3⟩ | ⟨h0, h1, h2, h3⟩)
      · exact ⟨by omega, by omega, by omega, by rw [h0]; exact h3⟩
      · exact ⟨by omega, h1, by omega, h3⟩
    · rintro ⟨h0, h1, h2, h3⟩
      by_cases hx : e.f0 = x
      · exact .inl ⟨hx, by omega, by omega, by rw [← hx]; exact h3⟩
      · exact .inr ⟨by omega, h1, by omega, h3⟩
theorem allF_up (h : Int → Int → Bool) : ∀ (d : Nat) (x : Int), Up2 (allF h d x)
  | 0, x => List.Pairwise.nil
  | d + 1, x => by
    unfold allF
    refine List.pairwise_append.2 ⟨rowF_up h x d (x + 1), allF_up h d (x + 1), fun a ha b hb => ?_⟩
    have ha' := (mem_rowF h x a d (x + 1)).1 ha
    have hb' := (mem_allF h b d (x + 1)).1 hb
    exact .inl (by omega)
theorem mem_pairs {h : Int → Int → Bool} {n : Int} {e : S65} : e ∈ pairs h n ↔ 0 ≤ e.f0 ∧ e.f0 < e.f1 ∧ e.f1 < n ∧ h e.f0 e.f1 = true := by
  unfold pairs
  rw [mem_allF]
  constructor
  · rintro ⟨h0, h1, h2, h3⟩
    exact ⟨h0, h1, by omega, h3⟩
  · rintro ⟨h0, h1, h2, h3⟩
    exact ⟨h0, h1, by omega, h3⟩
theorem pairs_up (h : Int → Int → Bool) (n : Int) : Up2 (pairs h n) := allF_up h _ _
/-- A good graph's pairs are those that are near. -/
theorem good_pairs {s : Int} {l : List S65} (h : Good s l) (hs : Sorted l) : l = pairs (near l) s := by
  refine up2_ext (sorted_up2 hs) (pairs_up _ _) (fun e => ?_)
  rw [mem_pairs]
  constructor
  · intro he
    have := good_mem h he
    exact ⟨this.1, this.2.1, this.2.2, (near_iff l _ _).2 (.inl he)⟩
  · rintro ⟨h0, h1, h2, h3⟩
    exact (near_lt h h1).1 h3
theorem l2Put_cm (l : List S65) (e : S65) (hl : l.length ≤ 1048577) (hu : Up2 l) (he : e ∉ l) : Cm (fun k => spec_l2Put.f k l e.f0 e.f1) (fun r => Up2 r ∧ (∀ x, x ∈ r ↔ x = e ∨ x ∈ l) ∧ r.length = l.length + 1) := by
  unfold spec_l2Put.f
  have fin : ∀ i : Int, 0 ≤ i → i ≤ l.length → (∀ x ∈ l.take i.toNat, ltP x e) → (∀ x ∈ l.drop i.toNat, ltP e x) → Up2 (l.take i.toNat ++ [e] ++ l.drop i.toNat) ∧ (∀ x, x ∈ l.take i.toNat ++ [e] ++ l.drop i.toNat ↔ x = e ∨ x ∈ l) ∧ (l.take i.toNat ++ [e] ++ l.drop i.toNat).length = l.length + 1 := by
    intro i h0 h1 ht hd
    have hs : l.take i.toNat ++ l.drop i.toNat = l := List.take_append_drop _ _
    have hu' := hu
    rw [← hs] at hu'
    have hp := List.pairwise_append.1 hu'
    refine ⟨?_, fun x => ?_, ?_⟩
    · refine List.pairwise_append.2 ⟨List.pairwise_append.2 ⟨hp.1, List.pairwise_singleton _ _, fun a ha b hb => ?_⟩, hp.2.1, fun a ha b hb => ?_⟩
      · rw [List.mem_singleton] at hb
        subst hb
        exact ht a ha
      · rcases List.mem_append.1 ha with ha | ha
        · exact hp.2.2 a ha b hb
        · rw [List.mem_singleton] at ha
          subst ha
          exact hd b hb
    · rw [List.mem_append, List.mem_append, List.mem_singleton]
      constructor
      · rintro ((h | h) | h)
        · exact .inr (List.mem_of_mem_take h)
        · exact .inl h
        · exact .inr (List.mem_of_mem_drop h)
      · rintro (h | h)
        · exact .inl (.inr h)
        · rw [← hs] at h
          rcases List.mem_append.1 h with h | h
          · exact .inl (.inl h)
          · exact .inr h
    · rw [List.length_append, List.length_append, List.length_take, List.length_drop, List.length_singleton]
      omega
  refine Cm.up (fun k i (_ : Unit) => spec_l2Put.l0 k l i e.f0 e.f1) l.length (fun i _ => 0 ≤ i ∧ ∀ x ∈ l.take i.toNat, ltP x e) _ ?_ 0 () (by omega) ⟨by omega, fun x hx => by cases hx⟩
  rintro i _ hi ⟨h0, ht⟩ ih
  by_cases h : i < l.length
  · by_cases hb : ltP (rd_T65 l i) e
    · refine Cm.step (fun k => by simp (disch := omega) only [spec_l2Put.l0, before_eq, Option.bind_some, w64 (i + 1), if_pos h, if_pos h0, decide_eq_true (show (rd_T65 l i).f0 < e.f0 ∨ ((rd_T65 l i).f0 = e.f0 ∧ (rd_T65 l i).f1 < e.f1) from hb), if_true]; try rfl) (ih () h ⟨by omega, ?_⟩)
      rw [takeT l i h0 h]
      intro x hx
      rcases List.mem_append.1 hx with hx | hx
      · exact ht x hx
      · rw [List.mem_singleton] at hx
        subst hx
        exact hb
    · have hd : ∀ x ∈ l.drop i.toNat, ltP e x := by
        have hne : rd_T65 l i ≠ e := fun e' => he (e' ▸ rdT_mem l i h0 h)
        have h1 : ltP e (rd_T65 l i) := by
          by_cases h' : ltP e (rd_T65 l i)
          · exact h'
          · exact (hne (ltP_tri _ _ hb h')).elim
        intro x hx
        obtain ⟨j, hj, rfl⟩ := List.mem_iff_getElem.1 hx
        rw [List.getElem_drop]
        have hr := rdT_eq l i.toNat (by omega)
        rw [Int.toNat_of_nonneg h0] at hr
        by_cases hj0 : j = 0
        · subst hj0
          simp only [Nat.add_zero]
          rw [← hr]
          exact h1
        · rw [List.length_drop] at hj
          have := List.pairwise_iff_getElem.1 hu i.toNat (i.toNat + j) (by omega) (by omega) (by omega)
          rw [← hr] at this
          exact ltP_trans h1 this
      have hF := fin i h0 (by omega) ht hd
      refine Cm.step (fun k => by simp (disch := omega) only [spec_l2Put.l0, before_eq, Option.bind_some, if_pos h, if_pos h0, decide_eq_false (show ¬ ((rd_T65 l i).f0 < e.f0 ∨ ((rd_T65 l i).f0 = e.f0 ∧ (rd_T65 l i).f1 < e.f1)) from hb), Bool.false_eq_true, if_false, List.nil_append, List.length_nil, Nat.zero_add, List.length_append, List.length_take, List.length_drop, List.length_singleton, if_pos]; try rfl) (Cm.now hF)
  · have e1 : l.take i.toNat = l := takeT_all l i (by omega)
    have hd : ∀ x ∈ l.drop i.toNat, ltP e x := by
      rw [List.drop_eq_nil_of_le (by omega)]
      intro x hx
      cases hx
    have hF := fin i h0 (by omega) ht hd
    refine Cm.step (fun k => by simp (disch := omega) only [spec_l2Put.l0, Option.bind_some, if_neg h, if_pos h0, List.nil_append, List.length_nil, Nat.zero_add, List.length_append, List.length_take, List.length_drop, List.length_singleton, if_pos]; try rfl) (Cm.now hF)
theorem wrap_small (n : Int) (h0 : 0 ≤ n) (h1 : n < 2 ^ 62) : IntKind.i64.wrap n = n := by
  exact (i64_w n).trans (w64 n (by omega) (by omega))
theorem bits_n (a b : Nat) (ha : a < 2 ^ 62) (hb : b < 2 ^ 62) : Go.bits .and .i64 a b = ((a &&& b : Nat) : Int) ∧ Go.bits .or .i64 a b = ((a ||| b : Nat) : Int) :=
  Go.bits_nat .i64 62 (by decide) (fun n h0 h1 => wrap_small n h0 (by exact_mod_cast h1)) a b ha hb
theorem bits_xor (a b : Nat) (ha : a < 2 ^ 62) (hb : b < 2 ^ 62) : Go.bits .xor .i64 a b = ((a ^^^ b : Nat) : Int) := by
  have hp : (2 : Nat) ^ 62 ≤ 2 ^ IntKind.i64.bits := Nat.pow_le_pow_right (by decide) (by decide)
  have ha' : a % 2 ^ IntKind.i64.bits = a := Nat.mod_eq_of_lt (Nat.lt_of_lt_of_le ha hp)
  have hb' : b % 2 ^ IntKind.i64.bits = b := Nat.mod_eq_of_lt (Nat.lt_of_lt_of_le hb hp)
  simp only [Go.bits, BitVec.ofInt_natCast, BitVec.toNat_xor, BitVec.toNat_ofNat, ha', hb']
  exact wrap_small _ (by omega) (by exact_mod_cast Nat.xor_lt_two_pow ha hb)
theorem bits_not (a b : Nat) (ha : a < 2 ^ 62) (hb : b < 2 ^ 62) : ∃ c : Nat, Go.bits .andNot .i64 a b = (c : Int) ∧ c ≤ a ∧ ∀ j, c.testBit j = (a.testBit j && !b.testBit j) := by
  have hp : (2 : Nat) ^ 62 ≤ 2 ^ IntKind.i64.bits := Nat.pow_le_pow_right (by decide) (by decide)
  have ha' : a % 2 ^ IntKind.i64.bits = a := Nat.mod_eq_of_lt (Nat.lt_of_lt_of_le ha hp)
  have hb' : b % 2 ^ IntKind.i64.bits = b := Nat.mod_eq_of_lt (Nat.lt_of_lt_of_le hb hp)
  refine ⟨(BitVec.ofNat IntKind.i64.bits a &&& ~~~BitVec.ofNat IntKind.i64.bits b).toNat, ?_, ?_, fun j => ?_⟩
  · simp only [Go.bits, BitVec.ofInt_natCast]
    refine wrap_small _ (by omega) ?_
    have : (BitVec.ofNat IntKind.i64.bits a &&& ~~~BitVec.ofNat IntKind.i64.bits b).toNat ≤ a := by
      rw [BitVec.toNat_and, BitVec.toNat_ofNat, ha']
      exact Nat.and_le_left
    exact_mod_cast Nat.lt_of_le_of_lt this ha
  · rw [BitVec.toNat_and, BitVec.toNat_ofNat, ha']
    exact Nat.and_le_left
  · rw [BitVec.testBit_toNat, BitVec.getLsbD_and, BitVec.getLsbD_not, BitVec.getLsbD_ofNat, BitVec.getLsbD_ofNat]
    by_cases hj : j < IntKind.i64.bits
    · simp [hj]
    · have h1 : a.testBit j = false := Nat.testBit_lt_two_pow (Nat.lt_of_lt_of_le ha (Nat.le_trans hp (Nat.pow_le_pow_right (by decide) (by omega))))
      simp [h1, hj]
theorem bit_tb (m v : Nat) (hm : m < 2 ^ 62) (hv : v ≤ 64) : bit m v = m.testBit v := by
  unfold bit shr
  rw [show IntKind.i64.bits = 64 from rfl, Int.toNat_natCast, Nat.min_eq_left hv]
  have e : (m : Int) / 2 ^ v = ((m / 2 ^ v : Nat) : Int) := by norm_cast
  rw [e]
  have := (bits_n (m / 2 ^ v) 1 (Nat.lt_of_le_of_lt (Nat.div_le_self _ _) hm) (by decide)).1
  rw [show ((1 : Nat) : Int) = 1 from rfl] at this
  rw [this, Nat.and_one_is_mod, Nat.testBit_eq_decide_div_mod_eq]
  rw [Bool.eq_iff_iff, beq_iff_eq, decide_eq_true_eq]
  omega
theorem bit_i (m v : Int) (h0 : 0 ≤ m) (hm : m < 256) (v0 : 0 ≤ v) (hv : v < 64) : bit m v = m.toNat.testBit v.toNat := by
  have := bit_tb m.toNat v.toNat (by omega) (by omega)
  rwa [Int.toNat_of_nonneg h0, Int.toNat_of_nonneg v0] at this
/-- A mask of eight bits. -/
abbrev M8 (m : Int) : Prop := 0 ≤ m ∧ m < 256
theorem bit_hi (m v : Int) (h : M8 m) (v0 : 8 ≤ v) (hv : v < 64) : bit m v = false := by
  rw [bit_i m v h.1 h.2 (by omega) hv]
  refine Nat.testBit_lt_two_pow (Nat.lt_of_lt_of_le (show m.toNat < 2 ^ 8 by omega) (Nat.pow_le_pow_right (by decide) (by omega)))
theorem and_ok (a b : Int) (ha : M8 a) (hb : M8 b) : M8 (Go.bits .and .i64 a b) ∧ ∀ v : Int, 0 ≤ v → v < 64 → bit (Go.bits .and .i64 a b) v = (bit a v && bit b v) := by
  have e := (bits_n a.toNat b.toNat (by omega) (by omega)).1
  rw [Int.toNat_of_nonneg ha.1, Int.toNat_of_nonneg hb.1] at e
  have hM : M8 (Go.bits .and .i64 a b) := by
    rw [e]
    have := @Nat.and_le_left a.toNat b.toNat
    constructor <;> omega
  refine ⟨hM, fun v v0 v1 => ?_⟩
  rw [bit_i _ v hM.1 hM.2 v0 v1, bit_i a v ha.1 ha.2 v0 v1, bit_i b v hb.1 hb.2 v0 v1, e, Int.toNat_natCast, Nat.testBit_and]
theorem or_ok (a b : Int) (ha : M8 a) (hb : M8 b) : M8 (Go.bits .or .i64 a b) ∧ ∀ v : Int, 0 ≤ v → v < 64 → bit (Go.bits .or .i64 a b) v = (bit a v || bit b v) := by
  have e := (bits_n a.toNat b.toNat (by omega) (by omega)).2
  rw [Int.toNat_of_nonneg ha.1, Int.toNat_of_nonneg hb.1] at e
  have hM : M8 (Go.bits .or .i64 a b) := by
    rw [e]
    have : a.toNat ||| b.toNat < 2 ^ 8 := Nat.or_lt_two_pow (by omega) (by omega)
    constructor <;> omega
  refine ⟨hM, fun v v0 v1 => ?_⟩
  rw [bit_i _ v hM.1 hM.2 v0 v1, bit_i a v ha.1 ha.2 v0 v1, bit_i b v hb.1 hb.2 v0 v1, e, Int.toNat_natCast, Nat.testBit_or]
theorem xor_ok (a b : Int) (ha : M8 a) (hb : M8 b) : M8 (Go.bits .xor .i64 a b) ∧ ∀ v : Int, 0 ≤ v → v < 64 → bit (Go.bits .xor .i64 a b) v = (bit a v ^^ bit b v) := by
  have e := bits_xor a.toNat b.toNat (by omega) (by omega)
  rw [Int.toNat_of_nonneg ha.1, Int.toNat_of_nonneg hb.1] at e
  have hM : M8 (Go.bits .xor .i64 a b) := by
    rw [e]
    have : a.toNat ^^^ b.toNat < 2 ^ 8 := Nat.xor_lt_two_pow (by omega) (by omega)
    constructor <;> omega
  refine ⟨hM, fun v v0 v1 => ?_⟩
  rw [bit_i _ v hM.1 hM.2 v0 v1, bit_i a v ha.1 ha.2 v0 v1, bit_i b v hb.1 hb.2 v0 v1, e, Int.toNat_natCast, Nat.testBit_xor]
theorem not_ok (a b : Int) (ha : M8 a) (hb : M8 b) : M8 (Go.bits .andNot .i64 a b) ∧ ∀ v : Int, 0 ≤ v → v < 64 → bit (Go.bits .andNot .i64 a b) v = (bit a v && !bit b v) := by
  obtain ⟨c, e, hc, ht⟩ := bits_not a.toNat b.toNat (by omega) (by omega)
  rw [Int.toNat_of_nonneg ha.1, Int.toNat_of_nonneg hb.1] at e
  have hM : M8 (Go.bits .andNot .i64 a b) := by
    rw [e]
    constructor <;> omega
  refine ⟨hM, fun v v0 v1 => ?_⟩
  rw [bit_i _ v hM.1 hM.2 v0 v1, bit_i a v ha.1 ha.2 v0 v1, bit_i b v hb.1 hb.2 v0 v1, e, Int.toNat_natCast, ht]
theorem mask_ext (a b : Int) (ha : M8 a) (hb : M8 b) (h : ∀ v : Int, 0 ≤ v → v < 8 → bit a v = bit b v) : a = b := by
  have : a.toNat = b.toNat := by
    refine Nat.eq_of_testBit_eq (fun j => ?_)
    by_cases hj : j < 8
    · have := h j (by omega) (by omega)
      rw [bit_i a j ha.1 ha.2 (by omega) (by omega), bit_i b j hb.1 hb.2 (by omega) (by omega), Int.toNat_natCast] at this
      exact this
    · rw [Nat.testBit_lt_two_pow (Nat.lt_of_lt_of_le (show a.toNat < 2 ^ 8 by omega) (Nat.pow_le_pow_right (by decide) (by omega))), Nat.testBit_lt_two_pow (Nat.lt_of_lt_of_le (show b.toNat < 2 ^ 8 by omega) (Nat.pow_le_pow_right (by decide) (by omega)))]
  omega
theorem one_all : ((List.range 8).all fun v => (decide (0 ≤ shl .i64 1 v) && decide (shl .i64 1 v < 256)) && (List.range 64).all fun u => bit (shl .i64 1 v) u == (u == v)) = true := by kernel_rfl
theorem one_ok (v : Int) (h0 : 0 ≤ v) (h1 : v < 8) : M8 (shl .i64 1 v) ∧ ∀ u : Int, 0 ≤ u → u < 64 → bit (shl .i64 1 v) u = (u == v) := by
  have h := List.all_eq_true.1 one_all v.toNat (List.mem_range.2 (by omega))
  rw [Int.toNat_of_nonneg h0, Bool.and_eq_true, Bool.and_eq_true, decide_eq_true_eq, decide_eq_true_eq] at h
  refine ⟨h.1, fun u u0 u1 => ?_⟩
  have h' := List.all_eq_true.1 h.2 u.toNat (List.mem_range.2 (by omega))
  rw [Int.toNat_of_nonneg u0, beq_iff_eq] at h'
  rw [h', Bool.eq_iff_iff, beq_iff_eq, beq_iff_eq]
  omega
theorem full_all : ((List.range 9).all fun n => (decide (0 ≤ wrap64 (shl .i64 1 n - 1)) && decide (wrap64 (shl .i64 1 n - 1) < 256)) && (List.range 64).all fun u => bit (wrap64 (shl .i64 1 n - 1)) u == decide (u < n)) = true := by kernel_rfl
theorem full_ok (n : Int) (h0 : 0 ≤ n) (h1 : n ≤ 8) : M8 (wrap64 (shl .i64 1 n - 1)) ∧ ∀ u : Int, 0 ≤ u → u < 64 → bit (wrap64 (shl .i64 1 n - 1)) u = decide (u < n) := by
  have h := List.all_eq_true.1 full_all n.toNat (List.mem_range.2 (by omega))
  rw [Int.toNat_of_nonneg h0, Bool.and_eq_true, Bool.and_eq_true, decide_eq_true_eq, decide_eq_true_eq] at h
  refine ⟨h.1, fun u u0 u1 => ?_⟩
  have h' := List.all_eq_true.1 h.2 u.toNat (List.mem_range.2 (by omega))
  rw [Int.toNat_of_nonneg u0, beq_iff_eq] at h'
  rw [h', decide_eq_decide]
  omega
theorem zero_ok : M8 0 ∧ ∀ v : Int, 0 ≤ v → v < 64 → bit 0 v = false := by
  refine ⟨by decide, fun v h0 h1 => ?_⟩
  rw [bit_i 0 v (by omega) (by omega) h0 h1]
  exact Nat.zero_testBit _
theorem within_eq' (a lo hi : Int) : impl_within.f a lo hi = some (decide (lo ≤ a ∧ a ≤ hi)) := by
  unfold impl_within.f
  by_cases h : a ≥ lo
  · rw [if_pos h]
    simp [show lo ≤ a from h]
  · rw [if_neg h]
    simp [show ¬ lo ≤ a from h]
theorem allIn_ev (L : List Int) (lo hi : Int) (hl : L.length ≤ 1048576) : Cm (fun k => impl_allWithin.f k L lo hi) (fun b => b = true ↔ ∀ x ∈ L, lo ≤ x ∧ x ≤ hi) := by
  unfold impl_allWithin.f
  refine Cm.up (fun k i (_ : Unit) => impl_allWithin.l0 k lo hi L L.length i) L.length (fun i _ => 0 ≤ i ∧ ∀ x ∈ L.take i.toNat, lo ≤ x ∧ x ≤ hi) _ ?_ 0 () (by omega) ⟨by omega, by simp⟩
  rintro i _ hi' ⟨h0, ht⟩ ih
  by_cases h : i < L.length
  · by_cases e : lo ≤ rd L i ∧ rd L i ≤ hi
    · refine Cm.step (fun k => by simp (disch := omega) only [impl_allWithin.l0, if_pos h, if_pos h0, within_eq', Option.bind_some, decide_eq_true e, if_true, w64 (i + 1)]; try rfl) (ih () h ⟨by omega, ?_⟩)
      rw [take_rd L i h0 h]
      intro x hx
      rcases List.mem_append.1 hx with hx | hx
      · exact ht x hx
      · rw [List.mem_singleton] at hx
        rw [hx]
        exact e
    · refine Cm.step (fun k => by simp only [impl_allWithin.l0, if_pos h, if_pos h0, within_eq', Option.bind_some, decide_eq_false e, Bool.false_eq_true, if_false]; try rfl) (Cm.now ⟨fun h => Bool.noConfusion h, fun hA => (e (hA _ (rd_mem L i h0 h))).elim⟩)
  · refine Cm.step (fun k => by simp only [impl_allWithin.l0, if_neg h]; try rfl) (Cm.now ⟨fun _ => ?_, fun _ => rfl⟩)
    rw [take_all L i (by omega)] at ht
    exact ht
/-- A list of nodes of a good graph. -/
theorem nodes_cm (s : Int) (l : List S65) (L : List Int) (hl : L.length ≤ 1048576) (hG : Good s l) (hI : Ev (fun k => impl_IsGraph.f k s l) true) : Cm (fun k => impl_hasNodes.f k s l L) (fun b => b = true ↔ ∀ x ∈ L, 0 ≤ x ∧ x < s) := by
  have h8 := hG.2.1
  have h0 := hG.1
  unfold impl_hasNodes.f
  rw [w64 (s - 1) (by omega) (by omega)]
  refine Cm.bindE hI (Cm.pos rfl (Cm.bind (allIn_ev L 0 (s - 1) hl) (fun b hb => Cm.now ?_)))
  rw [hb]
  exact ⟨fun h x hx => by have := h x hx; omega, fun h x hx => by have := h x hx; omega⟩
end Go.Proofs.Yteepmbpmhaaonaa.Gr
namespace Go.Proofs.Yteepmbpmhaaonaa.Gr
open Go.RowKit Go.Proofs.Yteepmbpmhaaonaa.P Go.Proofs.YteepmbpmhaaonaaW.PrintWords Go.Proofs.YteepmbpmhaaonaaW.PrintLast
theorem within_eq (a lo hi : Int) : impl_within.f a lo hi = some (decide (lo ≤ a ∧ a ≤ hi)) := by
  unfold impl_within.f
  by_cases h : a ≥ lo
  · rw [if_pos h]
    simp [show lo ≤ a from h]
  · rw [if_neg h]
    simp [show ¬ lo ≤ a from h]
theorem one_within (v hi : Int) : Ev (fun k => impl_allWithin.f k [v] 0 hi) (decide (0 ≤ v ∧ v ≤ hi)) := by
  refine ⟨2, fun k hk => ?_⟩
  obtain ⟨k, rfl⟩ : ∃ m, k = m + 2 := ⟨k - 2, by omega⟩
  dsimp only
  have hw : wrap64 (0 + 1) = 1 := by unfold wrap64; omega
  unfold impl_allWithin.f
  simp only [impl_allWithin.l0, within_eq, Option.bind_some, hw, decide_eq_true_eq]
  have r0 : rd [v] 0 = v := rfl
  have l1 : (([v] : List Int).length : Int) = 1 := rfl
  rw [r0, l1, if_pos (by omega), if_pos (by omega), if_pos (by omega)]
  by_cases h : 0 ≤ v ∧ v ≤ hi
  · rw [if_pos h, if_neg (by omega), decide_eq_true h]
  · rw [if_neg h, decide_eq_false h]
theorem has_one (s : Int) (l : List S65) (v : Int) (hG : Good s l) (hI : Ev (fun k => impl_IsGraph.f k s l) true) : Ev (fun k => impl_hasNodes.f k s l [v]) (decide (0 ≤ v ∧ v < s)) := by
  have h8 := hG.2.1
  have h0 := hG.1
  have hw : wrap64 (s - 1) = s - 1 := by unfold wrap64; omega
  have e : decide (0 ≤ v ∧ v < s) = decide (0 ≤ v ∧ v ≤ s - 1) := by rw [decide_eq_decide]; omega
  rw [e]
  refine Ev.bind hI (Ev.congr (f := fun k => (impl_allWithin.f k [v] 0 (wrap64 (s - 1))).bind fun t => some t) (fun k => ?_) (Ev.bind (a := decide (0 ≤ v ∧ v ≤ s - 1)) ?_ (Ev.now _)))
  · rw [if_pos rfl]
  · rw [hw]
    exact one_within v (s - 1)
theorem has_not (s : Int) (l : List S65) (L : List Int) (hI : Ev (fun k => impl_IsGraph.f k s l) false) : Ev (fun k => impl_hasNodes.f k s l L) false := by
  refine Ev.bind hI (Ev.congr (fun k => ?_) (Ev.now _))
  rfl
theorem node_eq (s : Int) (l : List S65) (v : Int) (hG : Good s l) : spec_l2Node.f s l v = some (decide (0 ≤ v ∧ v < s)) := by
  have h8 := hG.2.1
  have h0 := hG.1
  have hw : wrap64 (s - 1) = s - 1 := by unfold wrap64; omega
  have e : decide (0 ≤ v ∧ v < s) = decide (0 ≤ v ∧ v ≤ s - 1) := by rw [decide_eq_decide]; omega
  unfold spec_l2Node.f
  rw [l1In_eq, hw, e]
  rfl
end Go.Proofs.Yteepmbpmhaaonaa.Gr
namespace Go.Proofs.Yteepmbpmhaaonaa.Gr
open Go.RowKit Go.Proofs.Yteepmbpmhaaonaa.P Go.Proofs.YteepmbpmhaaonaaW.PrintWords Go.Proofs.YteepmbpmhaaonaaW.PrintLast Go.Proofs.YteepmbpmhaaonaaW.PrintMore
/-- Near, but for one pair, that is turned. -/
def turnd (l : List S65) (a b u v : Int) : Bool := near l u v ^^ decide (u = a ∧ v = b)
/-- Not that pair. -/
def notP (a b : Int) (e : S65) : Bool := !(e.f0 == a) || !(e.f1 == b)
theorem notP_iff {a b : Int} {e : S65} : notP a b e = false ↔ e = ⟨a, b⟩ := by
  unfold notP
  rw [Bool.or_eq_false_iff, Bool.not_eq_false', Bool.not_eq_false', beq_iff_eq, beq_iff_eq]
  exact ⟨fun h => by cases e; simp only at h; rw [h.1, h.2], fun h => by rw [h]; exact ⟨rfl, rfl⟩⟩
theorem take_pair (l : List S65) (i : Int) (h0 : 0 ≤ i) (h1 : i < l.length) : l.take (i + 1).toNat = l.take i.toNat ++ [rd_T65 l i] := by
  rw [show (i + 1).toNat = i.toNat + 1 by omega, List.take_add_one, rd_lt l i h0 h1]
  rfl
theorem turn_mem {s : Int} {l : List S65} (hG : Gr.Good s l) {a b : Int} (e : S65) : e ∈ pairs (turnd l a b) s ↔ (0 ≤ e.f0 ∧ e.f0 < e.f1 ∧ e.f1 < s) ∧ ((e ∈ l ∧ e ≠ ⟨a, b⟩) ∨ (e ∉ l ∧ e = ⟨a, b⟩)) := by
  rw [mem_pairs]
  have hee : (⟨e.f0, e.f1⟩ : S65) = e := by cases e; rfl
  constructor
  · rintro ⟨h0, h1, h2, h3⟩
    refine ⟨⟨h0, h1, h2⟩, ?_⟩
    have hn := near_lt hG h1
    rw [hee] at hn
    unfold turnd at h3
    by_cases hm : e ∈ l
    · rw [hn.2 hm, Bool.true_xor, Bool.not_eq_true', decide_eq_false_iff_not] at h3
      exact .inl ⟨hm, fun h => h3 (by rw [h]; exact ⟨rfl, rfl⟩)⟩
    · rw [Bool.eq_false_iff.2 (fun h => hm (hn.1 h)), Bool.false_xor, decide_eq_true_eq] at h3
      exact .inr ⟨hm, by rw [← hee, h3.1, h3.2]⟩
  · rintro ⟨⟨h0, h1, h2⟩, h⟩
    refine ⟨h0, h1, h2, ?_⟩
    have hn := near_lt hG h1
    rw [hee] at hn
    unfold turnd
    rcases h with ⟨hm, hne⟩ | ⟨hm, he⟩
    · rw [hn.2 hm, Bool.true_xor, Bool.not_eq_true', decide_eq_false_iff_not]
      exact fun h => hne (by rw [← hee, h.1, h.2])
    · rw [Bool.eq_false_iff.2 (fun h => hm (hn.1 h)), Bool.false_xor, decide_eq_true_eq, he]
      exact ⟨rfl, rfl⟩
theorem toggle_spec (s : Int) (l : List S65) (hl : l.length ≤ 1048576) (hG : Gr.Good s l) (hO : Sorted l) (a b : Int) (h0 : 0 ≤ a) (h1 : a < b) (h2 : b < s) : Ev (fun k => spec_ToggleEdge.l0 k 0 s l a b s []) (s, pairs (turnd l a b) s, true) := by
  refine Cm.ev ?_
  have hu := sorted_up2 hO
  refine Cm.up (fun k i z => spec_ToggleEdge.l0 k i s l a b s z) l.length (fun i z => 0 ≤ i ∧ z = (l.take i.toNat).filter (notP a b)) _ ?_ 0 [] (by omega) ⟨by omega, rfl⟩
  rintro i z hi ⟨i0, rfl⟩ ih
  have hlen : ((l.take i.toNat).filter (notP a b)).length ≤ l.length := Nat.le_trans (List.length_filter_le _ _) (by rw [List.length_take]; omega)
  by_cases h : i < l.length
  · cases hp : notP a b (rd_T65 l i) with
    | true =>
      have hp' : (!((rd_T65 l i).f0 == a) || !((rd_T65 l i).f1 == b)) = true := hp
      refine Cm.step (fun k => by simp (disch := omega) only [spec_ToggleEdge.l0, if_pos h, if_pos i0, hp', if_true, w64 (i + 1), if_pos]; try rfl) (ih _ h ⟨by omega, ?_⟩)
      rw [take_pair l i i0 h, List.filter_append, List.filter_cons, hp]
      rfl
    | false =>
      have hp' : (!((rd_T65 l i).f0 == a) || !((rd_T65 l i).f1 == b)) = false := hp
      refine Cm.step (fun k => by simp (disch := omega) only [spec_ToggleEdge.l0, if_pos h, if_pos i0, hp', Bool.false_eq_true, if_false, w64 (i + 1)]; try rfl) (ih _ h ⟨by omega, ?_⟩)
      rw [take_pair l i i0 h, List.filter_append, List.filter_cons, hp]
      simp
  · have ht : l.take i.toNat = l := List.take_of_length_le (by omega)
    rw [ht] at hlen ⊢
    refine Cm.step (fun k => by simp only [spec_ToggleEdge.l0, if_neg h]; try rfl) (Cm.ite (fun e => ?_) (fun e => Cm.now ?_))
    · have hall := List.length_filter_eq_length_iff.1 (show (l.filter (notP a b)).length = l.length by omega)
      have hno : (⟨a, b⟩ : S65) ∉ l := fun hm => by
        have := hall _ hm
        rw [notP_iff.2 rfl] at this
        cases this
      rw [List.filter_eq_self.2 hall]
      refine Cm.bind (l2Put_cm l ⟨a, b⟩ (by omega) hu hno) ?_
      rintro r ⟨r1, r2, _⟩
      refine Cm.now ?_
      rw [show r = pairs (turnd l a b) s from up2_ext r1 (pairs_up _ _) (fun e => by
        rw [r2, turn_mem hG]
        constructor
        · rintro (h | h)
          · rw [h]
            exact ⟨⟨h0, h1, h2⟩, .inr ⟨hno, rfl⟩⟩
          · exact ⟨good_mem hG h, .inl ⟨h, fun h' => hno (h' ▸ h)⟩⟩
        · rintro ⟨_, h | h⟩
          · exact .inr h.1
          · exact .inl h.2)]
    · have hin : (⟨a, b⟩ : S65) ∈ l := Classical.byContradiction (fun hno => e (by
        rw [List.filter_eq_self.2 (fun x hx => by
          cases hp : notP a b x with
          | true => rfl
          | false => exact (hno (notP_iff.1 hp ▸ hx)).elim)]))
      rw [show l.filter (notP a b) = pairs (turnd l a b) s from up2_ext (List.Pairwise.filter _ hu) (pairs_up _ _) (fun e => by
        rw [List.mem_filter, turn_mem hG]
        constructor
        · rintro ⟨hm, hp⟩
          refine ⟨good_mem hG hm, .inl ⟨hm, fun h => ?_⟩⟩
          rw [notP_iff.2 h] at hp
          cases hp
        · rintro ⟨_, h | h⟩
          · refine ⟨h.1, ?_⟩
            cases hp : notP a b e with
            | true => rfl
            | false => exact (h.2 (notP_iff.1 hp)).elim
          · exact (h.1 (h.2 ▸ hin)).elim)]
/-- A net's graph. -/
theorem netGraph_ev (s : Int) (h0 : 0 ≤ s) (h8 : s ≤ 8) (m : List Int) (hm : Masks s m) (h : Int → Int → Bool) (hb : ∀ u v : Int, 0 ≤ u → u < v → v < s → bit (rd m u) v = h u v) : Ev (fun k => impl_net_graph.f k m) (s, pairs h s) := by
  refine Cm.ev ?_
  unfold impl_net_graph.f impl_net_size.f
  rw [hm.1]
  have hc : ∀ x y : Int, 0 ≤ x → x < y → y < s → impl_graphBy_has.c m x y = some (h x y) := fun x y h0 h1 h2 => by
    unfold impl_graphBy_has.c
    rw [has_eq s m x y hm h0 (by omega) (by omega), hb x y h0 h1 h2]
  have hok : okBy (impl_graphBy_has.c m) s = true := okBy_all _ s (fun x y h0 h1 h2 => by rw [hc x y h0 h1 h2]; rfl)
  have hp : pairs (fun x y => (impl_graphBy_has.c m x y).getD false) s = pairs h s := pairs_congr _ _ s (fun x y h0 h1 h2 => by rw [hc x y h0 h1 h2]; rfl)
  refine Cm.bindE (Ev.now _) (Cm.bindE (x := (s, pairs h s)) ?_ (Cm.now rfl))
  obtain ⟨K, hK⟩ := by_ev (fun x y => (impl_graphBy_has.c m x y).getD false) s h0 (by omega)
  dsimp only at hK
  refine ⟨K, fun k hk => ?_⟩
  dsimp only
  unfold impl_graphBy_has.f
  rw [if_pos ⟨⟨h0, by omega⟩, hok⟩, hK k hk, hp]
  rfl
theorem toggle_both (s : Int) (l : List S65) (x y : Int) (hl : l.length ≤ 1048576) : ∃ n es b, es.length ≤ 1048576 ∧ Ev (fun k => spec_ToggleEdge.f k s l x y) (n, es, b) ∧ Ev (fun k => impl_ToggleEdge.f k s l x y) (n, es, b) := by
  obtain ⟨b, hb, hS, hI⟩ := isGraph_full s l hl
  have sJ : Cm (fun k => spec_ToggleEdge.j0 k x y true s l) (fun z => z = (0, [], false)) := Cm.step (fun k => by simp only [spec_ToggleEdge.j0, if_true]; try rfl) (Cm.now rfl)
  have iJ : Cm (fun k => impl_ToggleEdge.j0 k x y true s l) (fun z => z = (0, [], false)) := Cm.step (fun k => by simp only [impl_ToggleEdge.j0, if_true]; try rfl) (Cm.now rfl)
  cases b with
  | false => exact ⟨0, [], false, by simp, Cm.ev (Cm.bindE hS (Cm.neg (by decide) sJ)), Cm.ev (Cm.bindE (has_not s l _ hI) (Cm.neg (by decide) iJ))⟩
  | true =>
    obtain ⟨hG, hO⟩ := hb rfl
    have h8 := hG.2.1
    have h0 := hG.1
    obtain ⟨b2, eH, hH⟩ := nodes_cm s l [x, y] (by simp) hG hI
    by_cases hxy : (0 ≤ x ∧ x < s) ∧ (0 ≤ y ∧ y < s)
    · have e2 : b2 = true := hH.2 (fun z hz => by
        simp only [List.mem_cons, List.not_mem_nil, or_false] at hz
        rcases hz with h | h <;> rw [h]
        · exact hxy.1
        · exact hxy.2)
      subst e2
      by_cases hne : x = y
      · have hbe : (x == y) = true := beq_iff_eq.2 hne
        refine ⟨0, [], false, by simp, Cm.ev (Cm.bindE hS (Cm.pos rfl ?_)), Cm.ev (Cm.bindE eH (Cm.pos rfl ?_))⟩
        · rw [node_eq s l x hG, node_eq s l y hG, decide_eq_true hxy.1, decide_eq_true hxy.2, hbe]
          exact Cm.bindE (Ev.now _) (Cm.pos rfl (Cm.bindE (Ev.now _) (Cm.pos rfl sJ)))
        · rw [hbe]
          exact iJ
      · have hbe : (x == y) = false := beq_eq_false_iff_ne.2 hne
        obtain ⟨m, hm, hbit, hN⟩ := net_ev s l hl hG
        have el : spec_l1Least.f x y = some (min x y) := by
          unfold spec_l1Least.f
          by_cases h : x < y
          · rw [if_pos h, show min x y = x by omega]
          · rw [if_neg h, show min x y = y by omega]
        have em : spec_l1Most.f x y = some (max x y) := by
          unfold spec_l1Most.f
          by_cases h : x > y
          · rw [if_pos h, show max x y = x by omega]
          · rw [if_neg h, show max x y = y by omega]
        refine ⟨s, pairs (turnd l (min x y) (max x y)) s, true, by have := pairs_len (turnd l (min x y) (max x y)) s (by omega); omega, Cm.ev (Cm.bindE hS (Cm.pos rfl ?_)), Cm.ev (Cm.bindE eH (Cm.pos rfl ?_))⟩
        · rw [node_eq s l x hG, node_eq s l y hG, decide_eq_true hxy.1, decide_eq_true hxy.2, hbe]
          refine Cm.bindE (Ev.now _) (Cm.pos rfl (Cm.bindE (Ev.now _) (Cm.pos rfl ?_)))
          refine Cm.step (fun k => by simp only [spec_ToggleEdge.j0, Bool.false_eq_true, if_false, el, em, Option.bind_some]; try rfl) ?_
          exact Ev.cm (toggle_spec s l hl hG hO (min x y) (max x y) (by omega) (by omega) (by omega))
        · rw [hbe]
          have hml := hm.1
          have hx1 := one_ok x hxy.1.1 (by omega)
          have hy1 := one_ok y hxy.2.1 (by omega)
          have hX := xor_ok (rd m x) (shl .i64 1 y) (hm.2 x hxy.1.1 hxy.1.2) hy1.1
          have hm1 : rd (m.set x.toNat (Go.bits .xor .i64 (rd m x) (shl .i64 1 y))) y = rd m y := by
            rw [rd_set m x y _ hxy.1.1 (by omega) hxy.2.1, if_neg hne]
          have hY := xor_ok (rd m y) (shl .i64 1 x) (hm.2 y hxy.2.1 hxy.2.2) hx1.1
          have hrd : ∀ u : Int, 0 ≤ u → rd ((m.set x.toNat (Go.bits .xor .i64 (rd m x) (shl .i64 1 y))).set y.toNat (Go.bits .xor .i64 (rd m y) (shl .i64 1 x))) u = if y = u then Go.bits .xor .i64 (rd m y) (shl .i64 1 x) else if x = u then Go.bits .xor .i64 (rd m x) (shl .i64 1 y) else rd m u := fun u u0 => by
            rw [rd_set _ y u _ hxy.2.1 (by rw [List.length_set]; omega) u0, rd_set m x u _ hxy.1.1 (by omega) u0]
          refine Cm.step (fun k => by simp (disch := omega) only [impl_ToggleEdge.j0, Bool.false_eq_true, if_false, Option.bind_some, if_pos hxy.1.1, if_pos hxy.2.1]; try rfl) ?_
          refine Cm.bindE hN (Cm.pos (by omega) (Cm.pos (by omega) ?_))
          rw [hm1]
          refine Cm.bindE (netGraph_ev s h0 h8 _ ⟨by rw [List.length_set, List.length_set]; exact hml, fun u u0 u1 => ?_⟩ (turnd l (min x y) (max x y)) (fun u v u0 huv v1 => ?_)) (Cm.now rfl)
          · rw [hrd u u0]
            by_cases hu : y = u
            · rw [if_pos hu]; exact hY.1
            · rw [if_neg hu]
              by_cases hu2 : x = u
              · rw [if_pos hu2]; exact hX.1
              · rw [if_neg hu2]; exact hm.2 u u0 u1
          · rw [hrd u u0]
            unfold turnd
            by_cases hu : y = u
            · rw [if_pos hu, hY.2 v (by omega) (by omega), hx1.2 v (by omega) (by omega), hbit y v hxy.2.1 hxy.2.2 (by omega) (by omega), hu]
              congr 1
              rw [Bool.eq_iff_iff, beq_iff_eq, decide_eq_true_iff]
              omega
            · rw [if_neg hu]
              by_cases hu2 : x = u
              · rw [if_pos hu2, hX.2 v (by omega) (by omega), hy1.2 v (by omega) (by omega), hbit x v hxy.1.1 hxy.1.2 (by omega) (by omega), hu2]
                congr 1
                rw [Bool.eq_iff_iff, beq_iff_eq, decide_eq_true_iff]
                omega
              · rw [if_neg hu2, hbit u v u0 (by omega) (by omega) (by omega), decide_eq_false (by omega), Bool.xor_false]
    · have e2 : b2 = false := Bool.eq_false_iff.2 (fun h => hxy ⟨hH.1 h x (by simp), hH.1 h y (by simp)⟩)
      subst e2
      refine ⟨0, [], false, by simp, Cm.ev (Cm.bindE hS (Cm.pos rfl ?_)), Cm.ev (Cm.bindE eH (Cm.neg (by decide) iJ))⟩
      rw [node_eq s l x hG, node_eq s l y hG]
      refine Cm.bindE (Ev.now _) (Cm.ite (fun c1 => Cm.bindE (Ev.now _) (Cm.ite (fun c2 => ?_) (fun _ => sJ))) (fun _ => sJ))
      exact (hxy ⟨of_decide_eq_true c1, of_decide_eq_true c2⟩).elim
end Go.Proofs.Yteepmbpmhaaonaa.Gr
namespace Go.Proofs.Yteepmbpmhaaonaa.Gr
open Go.RowKit Go.Proofs.Yteepmbpmhaaonaa.P Go.Proofs.YteepmbpmhaaonaaW.PrintWords Go.Proofs.YteepmbpmhaaonaaW.PrintLast
theorem rd_get (l : List S65) (j : Nat) : rd_T65 l (j : Int) = l.getD j z65 := rfl
theorem mark_ev : ∀ (d : Nat) (x : List S65) (m i : Int), x.length ≤ 1048576 → 0 ≤ i → (x.length : Int) - i = d → 0 ≤ m → m + 2 * d ≤ 4294967296 →
    ∃ r : List S65, r.length = x.length ∧ (∀ j : Int, 0 ≤ j → j < i → rd_T65 r j = rd_T65 x j) ∧ (∀ j : Int, i ≤ j → j < x.length → rd_T65 r j = ⟨m + 2 * (j - i), m + 2 * (j - i) + 1⟩) ∧ Ev (fun k => laws_markIntA2S.l0 k x m i) (m + 2 * d, r) := by
  intro d
  induction d with
  | zero =>
    intro x m i hx hi hd hm hb
    refine ⟨x, rfl, fun _ _ _ => rfl, fun j h1 h2 => by omega, Ev.step (f := fun _ => some (m + 2 * (0 : Nat), x)) (fun k => ?_) (Ev.now _)⟩
    simp only [laws_markIntA2S.l0]
    rw [if_neg (by omega)]
    simp
  | succ d ih =>
    intro x m i hx hi hd hm hb
    have hw1 : wrap64 (m + 1) = m + 1 := by unfold wrap64; omega
    have hw2 : wrap64 (m + 1 + 1) = m + 1 + 1 := by unfold wrap64; omega
    have hwi : wrap64 (i + 1) = i + 1 := by unfold wrap64; omega
    obtain ⟨r, hl, he, hr, hv⟩ := ih (x.set i.toNat ⟨m, m + 1⟩) (m + 2) (i + 1) (by simpa using hx) (by omega) (by simp; omega) (by omega) (by omega)
    rw [List.length_set] at hl hr
    refine ⟨r, hl, ?_, ?_, ?_⟩
    · intro j h0 h1
      rw [he j h0 (by omega)]
      unfold rd_T65
      rw [List.getD_eq_getElem?_getD, List.getD_eq_getElem?_getD, List.getElem?_set_ne (by omega)]
    · intro j h1 h2
      by_cases hj : j = i
      · subst hj
        rw [he j hi (by omega)]
        unfold rd_T65
        rw [List.getD_eq_getElem?_getD, List.getElem?_set_self (by omega)]
        simp
      · rw [hr j (by omega) h2]
        congr 1 <;> omega
    · have e : m + 2 * ((d + 1 : Nat) : Int) = m + 2 + 2 * (d : Int) := by omega
      rw [e]
      refine Ev.step (fun k => ?_) hv
      simp only [laws_markIntA2S.l0, Option.bind_some]
      rw [if_pos (by omega), if_pos hi, hw1, hw2, hwi, List.set_set]
      have e1 : (rd_T65 (x.set i.toNat ⟨m, (rd_T65 x i).f1⟩) i).f0 = m := by
        unfold rd_T65
        rw [List.getD_eq_getElem?_getD, List.getElem?_set_self (by omega)]
        rfl
      rw [e1, show m + 1 + 1 = m + 2 by omega]
theorem mark_at (s : Int) (l : List S65) (m : Int) (hl : l.length ≤ 1048576) (h0 : 0 ≤ m) (h1 : m + 2 * (l.length : Int) ≤ 4294967296) : ∃ r : List S65, Ev (fun k => laws_markGraph.f k s l m) (m + 2 * (l.length : Int), r) := by
  obtain ⟨r, _, _, _, K, hK⟩ := mark_ev l.length l m 0 hl (by omega) (by omega) h0 h1
  dsimp only at hK
  refine ⟨r, K, fun k hk => ?_⟩
  dsimp only
  unfold laws_markGraph.f laws_markIntA2S.f
  rw [hK k hk]
  rfl
theorem held_ev : ∀ (d : Nat) (x : List S65) (m i : Int), x.length ≤ 1048576 → 0 ≤ i → (x.length : Int) - i = d → 0 ≤ m → m + 2 * d ≤ 4294967296 →
    (∀ j : Int, i ≤ j → j < x.length → rd_T65 x j = ⟨m + 2 * (j - i), m + 2 * (j - i) + 1⟩) → Ev (fun k => laws_heldIntA2S.l0 k x m i) (m + 2 * d) := by
  intro d
  induction d with
  | zero =>
    intro x m i hx hi hd hm hb hr
    refine Ev.step (f := fun _ => some (m + 2 * (0 : Nat))) (fun k => ?_) (Ev.now _)
    simp only [laws_heldIntA2S.l0]
    rw [if_neg (by omega)]
    simp
  | succ d ih =>
    intro x m i hx hi hd hm hb hr
    have hw1 : wrap64 (m + 1) = m + 1 := by unfold wrap64; omega
    have hw2 : wrap64 (m + 1 + 1) = m + 1 + 1 := by unfold wrap64; omega
    have hwi : wrap64 (i + 1) = i + 1 := by unfold wrap64; omega
    have h0 := hr i (by omega) (by omega)
    have hn := ih x (m + 2) (i + 1) hx (by omega) (by omega) (by omega) (by omega) (fun j h1 h2 => by
      rw [hr j (by omega) h2]
      congr 1 <;> omega)
    have e : m + 2 * ((d + 1 : Nat) : Int) = m + 2 + 2 * (d : Int) := by omega
    rw [e]
    refine Ev.step (fun k => ?_) hn
    simp only [laws_heldIntA2S.l0]
    rw [h0, if_pos (by omega), if_pos hi, hw1, hw2, hwi]
    simp only [Int.sub_self, Int.mul_zero, Int.add_zero, if_true]
    rw [show m + 1 + 1 = m + 2 by omega]
theorem mark_held (s : Int) (l : List S65) (hl : l.length ≤ 1048576) : ∃ r : List S65, Ev (fun k => laws_markGraph.f k s l 1) (1 + 2 * (l.length : Int), r) ∧ Ev (fun k => laws_heldGraph.f k s r 1) (1 + 2 * (l.length : Int)) := by
  obtain ⟨r, h1, _, h3, K, hK⟩ := mark_ev l.length l 1 0 hl (by omega) (by omega) (by omega) (by omega)
  obtain ⟨K2, hK2⟩ := held_ev l.length r 1 0 (by omega) (by omega) (by omega) (by omega) (by omega) (fun j a b => h3 j a (by omega))
  dsimp only at hK hK2
  refine ⟨r, ⟨K, fun k hk => ?_⟩, ⟨K2, fun k hk => ?_⟩⟩
  · dsimp only
    unfold laws_markGraph.f laws_markIntA2S.f
    rw [hK k hk]
    rfl
  · dsimp only
    unfold laws_heldGraph.f laws_heldIntA2S.f
    rw [hK2 k hk, Option.bind_some, if_neg (by omega)]
end Go.Proofs.Yteepmbpmhaaonaa.Gr
namespace Go.Proofs.Yteepmbpmhaaonaa.Pure
open Go.RowKit Go.Proofs.Yteepmbpmhaaonaa.P Go.Proofs.YteepmbpmhaaonaaW.PrintWords Go.Proofs.YteepmbpmhaaonaaW.PrintLast Go.Proofs.YteepmbpmhaaonaaW.PrintMore Go.Proofs.Yteepmbpmhaaonaa.Gr
theorem FnExactToggleEdge : laws_FnExactToggleEdge.Pure := by
  intro s0 l0 x1 x2 hs0 hl0 hx0 hw1 hw2
  refine Ev.rounds (Cm.ev ?_)
  unfold laws_FnExactToggleEdge.f
  by_cases c0 : (1048576 : Int) - l0.length < 0
  · exact Cm.bindE (sz_ev (sz_big s0 l0 hl0 c0)) (Cm.pos (by decide) (Cm.now rfl))
  refine Cm.bindE (sz_ev (sz_small s0 l0 (by omega))) (Cm.neg c0 ?_)
  obtain ⟨n, es, b, he, E1, E2⟩ := toggle_both s0 l0 x1 x2 (by omega)
  obtain ⟨r0, M0⟩ := mark_at s0 l0 ((1 : Int)) (by omega) (by omega) (by omega)
  obtain ⟨re, E3, E4⟩ := mark_held n es (by omega)
  have a_b : ¬ (b != b) = true := by cases b <;> decide
  repeat first
    | with_reducible exact Cm.now rfl
    | refine Cm.bindE (toGraph_ev s0 l0 (by omega)) ?_
    | refine Cm.bindE E1 ?_
    | refine Cm.bindE E2 ?_
    | refine Cm.bindE (eqGraph_ev n es (by omega)) (Cm.pos rfl ?_)
    | refine Cm.bindE (eqGraph_ev s0 l0 (by omega)) (Cm.pos rfl ?_)
    | refine Cm.bindE M0 ?_
    | refine Cm.bindE E3 ?_
    | refine Cm.bindE E4 ?_
    | refine Cm.neg a_b ?_
    | refine Cm.neg (by omega) ?_
    | refine Cm.pos (by omega) ?_
    | refine Cm.pos rfl ?_
    | dsimp only
end Go.Proofs.Yteepmbpmhaaonaa.Pure
